/- A part of the proof: the texts TdRC. Under: nothing. -/
import Derived.Test.YtomfaadmmchdcaaDoorG15
set_option linter.unusedVariables false
namespace Go.Ab.Td
set_option maxRecDepth 100000
set_option maxRecDepth 100000
open Go Go.Ab
variable {P:Program}
set_option linter.unusedSimpArgs false
attribute [local irreducible] g8
theorem a9t {α:Type} {f:α→List PV} {l:List α} {n:Nat} (h:l.length=n):List.take n (List.drop 0 (List.map f l))=List.map f l:=by
 subst h
 rw [List.drop_zero,List.take_of_length_le (by simp)]
set_option maxHeartbeats 1000000 in
theorem b2F (C:Laid P) (h:List Cl) (d k v:Ob) (c:Cl) (h0:0≤d.ref) (h1:d.ref<h.length) (hs:small h) (hp:X7 (cellAt h d) k v=some c):l8 P G X3 [.sl 7 (List.map j6 h),aO d,aO k,aO v] [] (.p7 [.sl 7 (List.map j6 (h.set d.ref.toNat c)),.bool true]):=by
 refine j3 C (a7B C) rfl ?_
 have hsm:=P3 hs d
 obtain ⟨hm1,hm2,hm3,hm4⟩:=hsm
 have hl:=a5E (cellAt h d) k v
 have hcl:((h[d.ref.toNat]?).getD cl0)=cellAt h d:=rfl
 obtain ⟨hs1,hs2⟩:=hs
 repeat' ((conv=>whnf);first | (with_reducible refine sC (by kernel_rfl) ?_) | ((with_reducible refine sB ?_);first | refine Or.inl ⟨by first | assumption | (simp only [nm,List.length_map,hcl];first | done | assumption | omega),?_⟩ | refine Or.inr (Or.inl ⟨by first | assumption | (simp only [nm,List.length_map,hcl];first | done | assumption | omega),?_⟩) | (refine Or.inr (Or.inr ⟨fun hsp=>?_,fun hsp=>?_⟩) <;>(try simp only [nm,List.length_map,hcl] at hsp) <;>try subst hsp)) | ((with_reducible refine x4 ?_);first | refine Or.inl ⟨by first | assumption | (simp only [nm,List.length_map,hcl];first | done | assumption | omega),?_⟩ | refine Or.inr (Or.inl ⟨by first | assumption | (simp only [nm,List.length_map,hcl];first | done | assumption | omega),?_⟩) | (refine Or.inr (Or.inr ⟨fun hsp=>?_,fun hsp=>?_⟩) <;>(try simp only [nm,List.length_map,hcl] at hsp) <;>try subst hsp)) | ((with_reducible refine x5 ?_);first | refine Or.inl ⟨by first | assumption | (simp only [nm,List.length_map,hcl];first | done | assumption | omega),?_⟩ | refine Or.inr (Or.inl ⟨by first | assumption | (simp only [nm,List.length_map,hcl];first | done | assumption | omega),?_⟩) | (refine Or.inr (Or.inr ⟨fun hsp=>?_,fun hsp=>?_⟩) <;>(try simp only [nm,List.length_map,hcl] at hsp) <;>try subst hsp)) | ((refine sP (by rfl) ?_);first | refine Or.inl ⟨by first | assumption | (simp only [nm,List.length_map,hcl];first | done | assumption | omega),?_⟩ | refine Or.inr (Or.inl ⟨by first | assumption | (simp only [nm,List.length_map,hcl];first | done | assumption | omega),?_⟩) | (refine Or.inr (Or.inr ⟨fun hsp=>?_,fun hsp=>?_⟩) <;>(try simp only [nm,List.length_map,hcl] at hsp) <;>try subst hsp)) | refine ⟨_,_,T3 C (cellAt h d).keys k (by omega),?_⟩ | refine ⟨_,_,a5O C _ _ _ _ _ _ _ _ _ (by omega) (by omega) (by omega),?_⟩ | refine sS (d8 (x':=(cellAt h d).keys) (f:=i4) (by rfl) (by first | exact b7 | exact b0 | exact b6 (by rfl) (by rfl)) (by rfl) (by omega)) ?_ | refine sS (d8 (x':=(cellAt h d).p8) (f:=i4) (by rfl) (by first | exact b7 | exact b0 | exact b6 (by rfl) (by rfl)) (by rfl) (by omega)) ?_ | refine sS (d7 (l:=(cellAt h d).keys) (f:=i4) (x':=[k]) (by rfl) (by rfl) (by omega) (by first | exact b7 | exact b0 | exact b6 (by rfl) (by rfl)) (by rfl) (by simp only [List.length_cons,List.length_nil];omega)) ?_ | refine sS (d7 (l:=(cellAt h d).p8) (f:=i4) (x':=[v]) (by rfl) (by rfl) (by omega) (by first | exact b7 | exact b0 | exact b6 (by rfl) (by rfl)) (by rfl) (by simp only [List.length_cons,List.length_nil];omega)) ?_ | refine sS (e9 (by rfl) (by rfl) (by omega) (l6 (d:=cl0) (by omega) (by omega))) ?_ | refine sS (b1v (by rfl) (by rfl) (by rfl) (by omega) (by first | omega | (simp only [List.length_map];omega))) ?_ | refine sS (b1J (l:=(cellAt h d).p8) (c:=v) (by rfl) (by rfl) (by omega) (fun _=>rfl) (by rfl) (by rfl) (by rfl)) ?_ | rw [a9t (f:=i4) (l:=(cellAt h d).keys++[k]) (by simp)] | rw [a9t (f:=i4) (l:=(cellAt h d).p8++[v]) (by simp)] | rw [a9t (f:=i4) (l:=(cellAt h d).p8.set _ v) (by simp)] | fail)
 all_goals (conv=>whnf)
 all_goals (first | (exfalso;rw [hl.2.1 (by omega) (by omega)] at hp;cases hp) | (rw [hl.1 (by omega) (by omega)] at hp;cases hp;refine le_of_eq ?_;simp [hcl]) | (rw [hl.2.2 (by omega) (by omega)] at hp;cases hp;refine le_of_eq ?_;simp [hcl]))
end Go.Ab.Td
