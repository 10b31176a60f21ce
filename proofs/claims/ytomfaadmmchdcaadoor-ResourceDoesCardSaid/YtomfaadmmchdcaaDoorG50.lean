/- A part of the proof: the texts TdUk, TdW19, TdSf, TdRu0, TdRu1, TdRv0, TdUm. Under: nothing. -/
import Derived.Test.YtomfaadmmchdcaaDoorG48
import Derived.Test.YtomfaadmmchdcaaDoorG49
import Derived.Test.YtomfaadmmchdcaaDoorG07
import Derived.Test.YtomfaadmmchdcaaDoorG05
import Derived.KernelRfl
import Derived.Test.YtomfaadmmchdcaaDoorG44
import Derived.Test.YtomfaadmmchdcaaDoorG20
import Derived.Test.YtomfaadmmchdcaaDoorG47
import Derived.Test.YtomfaadmmchdcaaDoorG27
import Derived.Test.YtomfaadmmchdcaaDoorG28
import Derived.Test.YtomfaadmmchdcaaDoorG45
set_option linter.unusedVariables false
namespace Go.Ab.Td
set_option maxRecDepth 100000
open Go Go.Ab
variable {P:Program}
set_option linter.unusedSimpArgs false
attribute [local irreducible] g8
end Go.Ab.Td
namespace Go.Ab.Td.TdW19
set_option maxRecDepth 100000
set_option maxRecDepth 100000
open Go Go.Ab Go.Ab.Td
variable {P:Program}
set_option linter.unusedSimpArgs false
def a1b:TF:=.nil
def c7E:List AV:=[.pv (.int .i64 (0)),.pv (.bool false),.pv (.int .i64 (0)),.pv (.str []),.pv (.int .i64 (0)),.pv (.int .i64 (0)),.pv (.int .i64 (0))]
def ext (g:Nat):Option a2f:=match Nat.beq g s7 with | true=>some (a7U 7 64) | false=>none
theorem c2M (_C:Laid P):a1b.all (f0 P)=true:=by simp only [a1b,TF.all,Bool.and_self]
theorem c0S:O0=a6m 7 64 c7E:=rfl
theorem b8s (C:Laid P):a3C P G fun g=>(ext g).map a5R:=by
 intro g h hg
 cases hb:Nat.beq g s7 with
 | true=>
   have:=Nat.eq_of_beq_eq_true hb
   subst this
   cases hg
   exact c0T C.mixed (by rw [← c0S];exact a0a C)
 | false=>
   have:ext g=none:=by unfold ext;rw [hb]
   simp only [this] at hg
   cases hg
theorem b1E:∀ g ps own r,kn0 g ps=some (own,r)→l8 P G g ps own r:=fun _ _ _ _ h=>by cases h
end Go.Ab.Td.TdW19
namespace Go.Ab.Td
set_option maxRecDepth 100000
open Go Go.Ab
variable {P:Program}
set_option linter.unusedSimpArgs false
attribute [local irreducible] g8
end Go.Ab.Td
namespace Go.Ab.Td
set_option maxRecDepth 100000
open Go Go.Ab
variable {P:Program}
set_option linter.unusedSimpArgs false
attribute [local irreducible] g8
end Go.Ab.Td
namespace Go.Ab.Td
set_option maxRecDepth 100000
set_option maxRecDepth 100000
open Go Go.Ab
variable {P:Program}
set_option linter.unusedSimpArgs false
attribute [local irreducible] g8
def c5H (x:List UInt8):List PV:=[PV.str x]
set_option maxHeartbeats 1000000 in
theorem b9E (C:Laid P) (l:List (List UInt8)) (hl:l.length≤1000000):l8 P G C7 [.sl 1 (l.map c5H),.sl 1 (l.map c5H)] [] (.bool true):=by
 refine j3 C (a5U C) rfl ?_
 repeat' ((conv=>whnf);first | (with_reducible refine sC (by kernel_rfl) ?_) | ((first | (with_reducible first | refine sB ?_ | refine x4 ?_ | refine x5 ?_) | refine sP (by rfl) ?_);first | refine Or.inl ⟨by first | assumption | (simp only [nm,beq_self_eq_true,Bool.and_self,Bool.and_true,List.length_map];first | done | assumption | omega),?_⟩ | refine Or.inr (Or.inl ⟨by first | assumption | (simp only [nm,beq_self_eq_true,Bool.and_self,Bool.and_true,List.length_map];first | done | assumption | omega),?_⟩) | (refine Or.inr (Or.inr ⟨fun hsp=>?_,fun hsp=>?_⟩) <;>(try simp only [nm,beq_self_eq_true,Bool.and_self,Bool.and_true,List.length_map] at hsp) <;>try subst hsp)) | fail)
 all_goals (conv=>whnf)
 intro X hX hW
 refine a7C hX (fun st (i:Nat)=>st.upd [(13,.pv (pI (i:Int)))] []) (fun i k=>i+k=l.length) 0 l.length (by (conv=>whnf);first | done | rfl) (by omega) ?_
 intro m i ih hI
 rcases a7o l i with ⟨x,hlt,hx⟩ | hge
 ·have hrow:=Y5 (f:=c5H) hx
  repeat' ((conv=>whnf);first | (with_reducible refine sC (by kernel_rfl) ?_) | ((first | (with_reducible first | refine sB ?_ | refine x4 ?_ | refine x5 ?_) | refine sP (by rfl) ?_);first | refine Or.inl ⟨by first | assumption | (simp only [nm,beq_self_eq_true,Bool.and_self,Bool.and_true,List.length_map];first | done | assumption | omega),?_⟩ | refine Or.inr (Or.inl ⟨by first | assumption | (simp only [nm,beq_self_eq_true,Bool.and_self,Bool.and_true,List.length_map];first | done | assumption | omega),?_⟩) | (refine Or.inr (Or.inr ⟨fun hsp=>?_,fun hsp=>?_⟩) <;>(try simp only [nm,beq_self_eq_true,Bool.and_self,Bool.and_true,List.length_map] at hsp) <;>try subst hsp)) | refine sS (e9 (by rfl) (by rfl) (by omega) hrow) ?_ | fail)
  all_goals (conv=>whnf)
  all_goals (refine ih (m - 1) (i+1) _ (by omega) (by omega) (by (conv=>whnf);first | done | rfl | (simp (disch:=omega) only [V5])))
 ·repeat' ((conv=>whnf);first | (with_reducible refine sC (by kernel_rfl) ?_) | ((first | (with_reducible first | refine sB ?_ | refine x4 ?_ | refine x5 ?_) | refine sP (by rfl) ?_);first | refine Or.inl ⟨by first | assumption | (simp only [nm,beq_self_eq_true,Bool.and_self,Bool.and_true,List.length_map];first | done | assumption | omega),?_⟩ | refine Or.inr (Or.inl ⟨by first | assumption | (simp only [nm,beq_self_eq_true,Bool.and_self,Bool.and_true,List.length_map];first | done | assumption | omega),?_⟩) | (refine Or.inr (Or.inr ⟨fun hsp=>?_,fun hsp=>?_⟩) <;>(try simp only [nm,beq_self_eq_true,Bool.and_self,Bool.and_true,List.length_map] at hsp) <;>try subst hsp)) | fail)
  all_goals (conv=>whnf)
  all_goals (exact PV.le.refl _)
end Go.Ab.Td
namespace Go.Ab.Td
set_option maxRecDepth 100000
open Go Go.Ab
variable {P:Program}
set_option linter.unusedSimpArgs false
attribute [local irreducible] g8
end Go.Ab.Td
namespace Go.Ab.Td
set_option maxRecDepth 100000
open Go Go.Ab
variable {P:Program}
set_option linter.unusedSimpArgs false
section
variable (C:Laid P) {F:Prop} {m:Nat} {s:C3} {l:List Sn} {ts:List C3} (t:SI F m s l ts) (sx:SX s)
include C t sx
end
end Go.Ab.Td
