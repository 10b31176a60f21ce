/- A part of the proof: the texts TdVq. Under: nothing. -/
import Derived.Test.YtngmifmcohmfmaaDoorG36
set_option linter.unusedVariables false
namespace Go.Ab.Td
set_option maxRecDepth 100000
set_option maxRecDepth 100000
open Go Go.Ab
variable {P:Program}
set_option linter.unusedSimpArgs false
attribute [local irreducible] j6
theorem b4d {h:List Cl} {c:Cl} (hr:T5 h c):c.small:=by
 rcases hr with ⟨-,h1,h2,h3,h4, -⟩ | ⟨-,h1,h2, -,h4,h5, -⟩ | ⟨-,h1,h2, -,h4,h5,h6,h7, -⟩ | ⟨-,h1,h2,h3,h4, -⟩
 ·exact ⟨by omega,by omega,by omega,by omega⟩
 ·exact ⟨by omega,by omega,by omega,by rw [h1];simp⟩
 ·exact ⟨by omega,by omega,by omega,by rw [h1];simp⟩
 ·exact ⟨by omega,by omega,by omega,by omega⟩
theorem a9J {h:List Cl} (hv:a5r h) (hl:h.length≤1000000):small h:=⟨hl,fun c hc=>b4d (hv.1 c hc)⟩
theorem b9j {c c':Cl} {k v:Ob} (hc:nC c) (hk:k.n<9223372036854775808) (hv:v.n<9223372036854775808) (hp:a0K c k v=some c'):nC c':=by
 obtain ⟨n1,n2,n3⟩:=hc
 unfold a0K at hp
 split at hp
 ·cases hp
  refine ⟨n1,n2,fun o ho=>?_⟩
  rcases List.mem_or_eq_of_mem_set ho with ho | rfl
  ·exact n3 o ho
  ·exact hv
 ·split at hp
  ·cases hp
  ·cases hp
   refine ⟨n1,fun o ho=>?_,fun o ho=>?_⟩
   ·rcases List.mem_append.1 ho with ho | ho
    ·exact n2 o ho
    ·simp only [List.mem_singleton] at ho;subst ho;exact hk
   ·rcases List.mem_append.1 ho with ho | ho
    ·exact n3 o ho
    ·simp only [List.mem_singleton] at ho;subst ho;exact hv
theorem c3w {c:Cl} (hc:nC c) (i:Nat):nC (a0z c i):=
 ⟨hc.1,fun o ho=>hc.2.1 o (List.mem_of_mem_eraseIdx ho),fun o ho=>hc.2.2 o (List.mem_of_mem_eraseIdx ho)⟩
theorem c3x {h:List Cl} {c:Cl} (hs:∀ d ∈ h,nC d) (hc:nC c) (j:Nat):∀ d ∈ h.set j c,nC d:=by
 intro d hd
 rcases List.mem_or_eq_of_mem_set hd with hd | rfl
 ·exact hs d hd
 ·exact hc
theorem a9o {h:List Cl} {o:Ob} {c:Cl} (hl:o.ref.toNat<h.length):cellAt (h.set o.ref.toNat c) o=c:=by
 unfold cellAt
 rw [List.getElem?_set_self hl]
 rfl
theorem kc0 (C:Laid P) {h:List Cl} (hv:a5r h) (hl:h.length≤1000000) (hn:∀ c ∈ h,nC c):l9 P G A8 [.sl 7 (List.map m9 h)] [] (pI 0):=by
 have k:=b1S C h (a9J hv hl) (fun c hc=>(hn c hc).c6j)
 rw [((b7c h).resolve_right (fun hx=>hx.1 hv)).2] at k
 exact k
end Go.Ab.Td
