/- A part of the proof: the texts TdRm, AbIx, AbSl. Under: nothing. -/
import Derived.Test.YtomfaadmmchdcaaDoorG27
import Derived.Test.YtomfaadmmchdcaaDoorG05
set_option linter.unusedVariables false
namespace Go.Ab.Td
set_option maxRecDepth 100000
set_option maxRecDepth 100000
open Go Go.Ab
variable {P:Program}
set_option linter.unusedSimpArgs false
attribute [local irreducible] g8 a3I
def c4S:List PV:=[.int .i64 0,.bool false,.int .i64 0,.str [],.int .i64 0,.int .i64 0,.int .i64 0]
def GP:Gl:=⟨G.gl,fun g=>match Nat.beq g C2 with | true=>some (b1R 7 c4S) | false=>none⟩
theorem del_eq:L1=a6Q 7 64 c4S:=rfl
theorem c2W (C:Laid P):∀ g p,GP.a8j g=some p→b4w P g p:=by
 intro g p hg
 simp only [GP] at hg
 split at hg
 ·rename_i hb
  have:=Nat.eq_of_beq_eq_true hb
  subst this
  cases hg
  exact b9o C.mixed (bytes:=64) (by rw [← del_eq];exact a2u C)
 ·cases hg
theorem gp {g:Nat} {ps:List PV} {own:Own} {r:PV} (h:l8 P G g ps own r):l8 P GP g ps own r:=by
 intro w I vs hb hg ha
 exact h w I vs hb ⟨hg.Z7,fun _ _ h=>by cases h⟩ ha
theorem pg (C:Laid P) {g:Nat} {ps:List PV} {own:Own} {r:PV} (h:l8 P GP g ps own r):l8 P G g ps own r:=by
 intro w I vs hb hg ha
 exact h w I vs hb ⟨hg.Z7,c2W C⟩ ha
theorem c6G (C:Laid P) {g:Nat} {c:u0} {ps:List PV} {r:PV} (hk:f0 P g c=true) (hl:ps.length=c.nparams) (h:fnV GP (l8 P GP) noX noT noT 0 c ps r):l8 P GP g ps [] r:=
 b4e C.mixed hk (fun _ _ h=>by cases h) (fun _ _ h=>by cases h) (fun _ _ h=>by cases h) hl h
theorem b6w (C:Laid P) (x:Ob) (l:List Ob) (hl:l.length≤1000000):l8 P G s7 [.sl 7 (List.map i4 (x::l))] [(0,0)] (.sl 7 (List.map i4 (x::l))):=by
 refine b0d C.mixed (a0a C) (ext:=noX) (fun _ _ h=>by cases h) (tab:=noT) (x8:=noT) (d:=0) (fun _ _ h=>by cases h) (fun _ _ h=>by cases h) rfl ?_
 repeat' ((conv=>whnf);first | (with_reducible refine sC (by kernel_rfl) ?_) | ((first | (with_reducible first | refine sB ?_ | refine x4 ?_ | refine x5 ?_) | refine sP (by rfl) ?_);first | refine oT ?_ | refine oF ?_ | (refine Or.inr (Or.inr ⟨fun hsp=>?_,fun hsp=>?_⟩) <;>(try simp only [nm] at hsp) <;>try subst hsp)) | refine sS (d7 (f:=i4) (l:=([]:List Ob)) (x':=x::l) (by rfl) (by rfl) (by rfl) (by first | exact b7 | exact b0 | exact b6 (by rfl) (by rfl)) (by rfl) (by simp only [List.length_cons,List.length_nil];omega)) ?_ | fail)
 all_goals (conv=>whnf)
 refine ⟨20,[],?_,?_⟩
 ·show some [AV.own 20 0 (([]:List Ob).length+(x::l).length)]=_
  simp
 ·rfl
theorem c5q {k:Ob} {l:List Ob} (h:0≤i6 k 0 l):∃ i:Nat,i6 k 0 l=(i:Int)∧i<l.length:=by
 rcases b7q k l 0 with h1 | ⟨h1,h2⟩
 ·omega
 ·exact ⟨(i6 k 0 l).toNat,by omega,by omega⟩
def a1g (c:Cl) (i:Nat):Cl:={c with keys:=c.keys.eraseIdx i,p8:=c.p8.eraseIdx i}
set_option maxHeartbeats 1000000 in
theorem a9r (C:Laid P) (h:List Cl) (d k:Ob) (hs:small h) (hd:d.n<9223372036854775808) (hv:N2 h d [9]=0) (hi:i6 k 0 (cellAt h d).keys<0∨(cellAt h d).p8.length≤i6 k 0 (cellAt h d).keys):l8 P G P6 [.sl 7 (List.map j6 h),aO d,aO k] [] (.p7 [.sl 7 (List.map j6 h),pI 0]):=by
 refine j3 C (a4l C) rfl ?_
 obtain ⟨⟨hr1,hr2⟩,⟨hf1,hf2,hf3⟩,hkk,hcc⟩:=a1B hv
 have hk9:d.kind=9:=by simpa using hkk
 obtain ⟨hc3,hc4,hc5⟩:=hcc.resolve_left (by rw [hk9];decide)
 obtain ⟨hm1,hm2,hm3,hm4⟩:=P3 hs d
 have hh:=hs.1
 repeat' ((conv=>whnf);first | (with_reducible refine sC (by kernel_rfl) ?_) | ((first | (with_reducible first | refine sB ?_ | refine x4 ?_ | refine x5 ?_) | refine sP (by rfl) ?_);first | refine oT ?_ | refine oF ?_ | (refine Or.inr (Or.inr ⟨fun hsp=>?_,fun hsp=>?_⟩) <;>(try simp only [nm,List.length_map] at hsp) <;>try subst hsp)) | refine ⟨_,_,D8 C _ d [9] (by assumption) (by decide) (by assumption),?_⟩ | refine ⟨_,_,z7 C h d hr1 (by omega),?_⟩ | refine ⟨_,_,y6 C (cellAt h d).keys k (by omega),?_⟩ | fail)
 all_goals (conv=>whnf)
 all_goals (first | exact PV.le.refl _ | (exfalso;omega))
set_option maxHeartbeats 2000000 in
theorem a9q (C:Laid P) (h:List Cl) (d k:Ob) (hs:small h) (hd:d.n<9223372036854775808) (hv:N2 h d [9]=0) (i:Nat) (hi:i6 k 0 (cellAt h d).keys=(i:Int)) (hik:i<(cellAt h d).keys.length) (hiv:i<(cellAt h d).p8.length):l8 P GP P6 [.sl 7 (List.map j6 h),aO d,aO k] [] (.p7 [.sl 7 (List.map j6 (h.set d.ref.toNat (a1g (cellAt h d) i))),pI 0]):=by
 refine c6G C (a4l C) rfl ?_
 obtain ⟨⟨hr1,hr2⟩,⟨hf1,hf2,hf3⟩,hkk,hcc⟩:=a1B hv
 have hk9:d.kind=9:=by simpa using hkk
 obtain ⟨hc3,hc4,hc5⟩:=hcc.resolve_left (by rw [hk9];decide)
 obtain ⟨hm1,hm2,hm3,hm4⟩:=P3 hs d
 have hh:=hs.1
 have hwi:IntKind.i64.wrap ((i:Int)+1)=((i+1:Nat):Int):=by rw [wrap_small (by omega) (by omega)];omega
 have hx:=y6 C (cellAt h d).keys k (by omega)
 rw [hi] at hx
 have hw:=a3S C h d (a1g (cellAt h d) i) hr1 (by omega) hh
 have hck:∃ x l,(cellAt h d).keys=x::l:=by
  cases hq:(cellAt h d).keys with
  | nil=>rw [hq] at hik;exact absurd hik (by simp)
  | cons x l=>exact ⟨x,l,rfl⟩
 have hcv:∃ x l,(cellAt h d).p8=x::l:=by
  cases hq:(cellAt h d).p8 with
  | nil=>rw [hq] at hiv;exact absurd hiv (by simp)
  | cons x l=>exact ⟨x,l,rfl⟩
 have kk:l8 P G s7 [.sl 7 (List.map i4 (cellAt h d).keys)] [(0,0)] (.sl 7 (List.map i4 (cellAt h d).keys)):=by
  obtain ⟨x,l,e⟩:=hck
  rw [e] at hm1
  rw [e];exact b6w C x l (by simp at hm1;omega)
 have kv:l8 P G s7 [.sl 7 (List.map i4 (cellAt h d).p8)] [(0,0)] (.sl 7 (List.map i4 (cellAt h d).p8)):=by
  obtain ⟨x,l,e⟩:=hcv
  rw [e] at hm2
  rw [e];exact b6w C x l (by simp at hm2;omega)
 repeat' ((conv=>whnf);first | (with_reducible refine sC (by kernel_rfl) ?_) | ((first | (with_reducible first | refine sB ?_ | refine x4 ?_ | refine x5 ?_) | refine sP (by rfl) ?_);first | refine oT ?_ | refine oF ?_ | (refine Or.inr (Or.inr ⟨fun hsp=>?_,fun hsp=>?_⟩) <;>(try simp only [nm,List.length_map] at hsp) <;>try subst hsp)) | refine ⟨_,_,gp (D8 C _ d [9] (by assumption) (by decide) (by assumption)),?_⟩ | refine ⟨_,_,gp (z7 C h d hr1 (by omega)),?_⟩ | refine ⟨_,_,gp (hx),?_⟩ | refine ⟨_,_,gp (kk),?_⟩ | refine ⟨_,_,gp (kv),?_⟩ | refine ⟨_,_,(by rw [b5W (f:=i4) (l:=(cellAt h d).keys) (n:=(List.map i4 (cellAt h d).keys).length) (by simp only [List.length_map]) (by simp only [List.length_map];exact hik),b5W (f:=i4) (l:=(cellAt h d).p8) (n:=(List.map i4 (cellAt h d).p8).length) (by simp only [List.length_map]) (by simp only [List.length_map];exact hiv)];exact gp hw),?_⟩ | refine sD (b9n (i:=i) (j:=i+1) (by rfl) (by rfl) (by rfl) hwi (by rfl) (by omega) (by simp only [List.length_map];omega) (by rfl)) ?_ | fail)
 all_goals (conv=>whnf)
 all_goals exact PV.le.refl _
theorem c4D {α:Type} {l:List α} {i:Nat} {y:Int} (hy:y=((i+1:Nat):Int)):(l.take (i:Int).toNat).drop (0:Int).toNat++(l.take ((l.length:Nat):Int).toNat).drop y.toNat=l.eraseIdx i:=by
 subst hy
 rw [Int.toNat_natCast,Int.toNat_natCast,Int.toNat_natCast,List.take_length,show (0:Int).toNat=0 from rfl,List.drop_zero,List.eraseIdx_eq_take_drop_succ]
set_option maxHeartbeats 1000000 in
theorem a8f (C:Laid P) (h:List Cl) (d k:Ob) (hs:small h) (h0:0≤d.ref) (h1:d.ref<h.length) (hi:i6 k 0 (cellAt h d).keys<0∨(cellAt h d).p8.length≤i6 k 0 (cellAt h d).keys):l8 P G T1 [.sl 7 (List.map j6 h),aO d,aO k] [] (.sl 7 (List.map j6 h)):=by
 refine j3 C (a6x C) rfl ?_
 obtain ⟨hm1,hm2,hm3,hm4⟩:=P3 hs d
 have hca:((h[d.ref.toNat]?).getD cl0)=cellAt h d:=rfl
 repeat' ((conv=>whnf);first | (with_reducible refine sC (by kernel_rfl) ?_) | ((first | (with_reducible first | refine sB ?_ | refine x4 ?_ | refine x5 ?_) | refine sP (by rfl) ?_);first | refine Or.inl ⟨by first | assumption | (simp only [nm,List.length_map,hca];first | done | assumption | omega),?_⟩ | refine Or.inr (Or.inl ⟨by first | assumption | (simp only [nm,List.length_map,hca];first | done | assumption | omega),?_⟩) | (refine Or.inr (Or.inr ⟨fun hsp=>?_,fun hsp=>?_⟩) <;>(try simp only [nm,List.length_map,hca] at hsp) <;>try subst hsp)) | refine ⟨_,_,T3 C (cellAt h d).keys k (by omega),?_⟩ | refine sS (e9 (by rfl) (by rfl) (by omega) (l6 (d:=cl0) (by omega) (by omega))) ?_ | fail)
 all_goals (conv=>whnf)
 all_goals (first | exact PV.le.refl _ | (exfalso;omega))
set_option maxHeartbeats 1000000 in
theorem b1e (C:Laid P) (h:List Cl) (d k:Ob) (hs:small h) (h0:0≤d.ref) (h1:d.ref<h.length) (i:Nat) (hi:i6 k 0 (cellAt h d).keys=(i:Int)) (hik:i<(cellAt h d).keys.length) (hiv:i<(cellAt h d).p8.length):l8 P G T1 [.sl 7 (List.map j6 h),aO d,aO k] [] (.sl 7 (List.map j6 (h.set d.ref.toNat (a1g (cellAt h d) i)))):=by
 refine j3 C (a6x C) rfl ?_
 obtain ⟨hm1,hm2,hm3,hm4⟩:=P3 hs d
 have hca:((h[d.ref.toNat]?).getD cl0)=cellAt h d:=rfl
 have hh:=hs.1
 have hwi:IntKind.i64.wrap ((i:Int)+1)=((i+1:Nat):Int):=by rw [wrap_small (by omega) (by omega)];omega
 have hx:=T3 C (cellAt h d).keys k (by omega)
 rw [hi] at hx
 have hw:=a7H C h d.ref (a1g (cellAt h d) i) h0 h1 hh
 repeat' ((conv=>whnf);first | (with_reducible refine sC (by kernel_rfl) ?_) | ((first | (with_reducible first | refine sB ?_ | refine x4 ?_ | refine x5 ?_) | refine sP (by rfl) ?_);first | refine Or.inl ⟨by first | assumption | (simp only [nm,List.length_map,hca];first | done | assumption | omega),?_⟩ | refine Or.inr (Or.inl ⟨by first | assumption | (simp only [nm,List.length_map,hca];first | done | assumption | omega),?_⟩) | (refine Or.inr (Or.inr ⟨fun hsp=>?_,fun hsp=>?_⟩) <;>(try simp only [nm,List.length_map,hca] at hsp) <;>try subst hsp)) | refine ⟨_,_,hx,?_⟩ | refine ⟨_,_,(by rw [a9t (f:=i4) (l:=(List.drop (0:Int).toNat (List.take ((i:Nat):Int).toNat (cellAt h d).keys))++(List.drop (IntKind.i64.wrap ((i:Int)+1)).toNat (List.take (((cellAt h d).keys.length:Nat):Int).toNat (cellAt h d).keys))) (n:=(List.drop (0:Int).toNat (List.take ((i:Nat):Int).toNat (cellAt h d).keys)).length+(List.drop (IntKind.i64.wrap ((i:Int)+1)).toNat (List.take (((cellAt h d).keys.length:Nat):Int).toNat (cellAt h d).keys)).length) (by rw [List.length_append]),c4D (l:=(cellAt h d).keys) hwi,a9t (f:=i4) (l:=(List.drop (0:Int).toNat (List.take ((i:Nat):Int).toNat (cellAt h d).p8))++(List.drop (IntKind.i64.wrap ((i:Int)+1)).toNat (List.take (((cellAt h d).p8.length:Nat):Int).toNat (cellAt h d).p8))) (n:=(List.drop (0:Int).toNat (List.take ((i:Nat):Int).toNat (cellAt h d).p8)).length+(List.drop (IntKind.i64.wrap ((i:Int)+1)).toNat (List.take (((cellAt h d).p8.length:Nat):Int).toNat (cellAt h d).p8)).length) (by rw [List.length_append]),c4D (l:=(cellAt h d).p8) hwi];exact hw),?_⟩ | refine sS (e9 (by rfl) (by rfl) (by omega) (l6 (d:=cl0) (by omega) (by omega))) ?_ | refine sS (v3 (f:=i4) (l:=(cellAt h d).keys) (a:=0) (h:=((i:Nat):Int)) (by rfl) (by rfl) (by rfl) (by omega) (by omega) (by omega)) ?_ | refine sS (d8 (f:=i4) (x':=(List.drop (0:Int).toNat (List.take ((i:Nat):Int).toNat (cellAt h d).keys))) (by rfl) (by first | exact b7 | exact b0 | exact b6 (by rfl) (by rfl)) (by rfl) (by simp only [List.length_drop,List.length_take];omega)) ?_ | refine sS (v3 (f:=i4) (l:=(cellAt h d).keys) (a:=IntKind.i64.wrap ((i:Int)+1)) (h:=(((cellAt h d).keys.length:Nat):Int)) (by rfl) (by rfl) (by simp only [List.length_map];rfl) (by rw [hwi];omega) (by rw [hwi];omega) (by omega)) ?_ | refine sS (d7 (f:=i4) (l:=(List.drop (0:Int).toNat (List.take ((i:Nat):Int).toNat (cellAt h d).keys))) (x':=(List.drop (IntKind.i64.wrap ((i:Int)+1)).toNat (List.take (((cellAt h d).keys.length:Nat):Int).toNat (cellAt h d).keys))) (by rfl) (by rfl) (by rfl) (by first | exact b7 | exact b0 | exact b6 (by rfl) (by rfl)) (by rfl) (by simp only [List.length_drop,List.length_take];omega)) ?_ | refine sS (v3 (f:=i4) (l:=(cellAt h d).p8) (a:=0) (h:=((i:Nat):Int)) (by rfl) (by rfl) (by rfl) (by omega) (by omega) (by omega)) ?_ | refine sS (d8 (f:=i4) (x':=(List.drop (0:Int).toNat (List.take ((i:Nat):Int).toNat (cellAt h d).p8))) (by rfl) (by first | exact b7 | exact b0 | exact b6 (by rfl) (by rfl)) (by rfl) (by simp only [List.length_drop,List.length_take];omega)) ?_ | refine sS (v3 (f:=i4) (l:=(cellAt h d).p8) (a:=IntKind.i64.wrap ((i:Int)+1)) (h:=(((cellAt h d).p8.length:Nat):Int)) (by rfl) (by rfl) (by simp only [List.length_map];rfl) (by rw [hwi];omega) (by rw [hwi];omega) (by omega)) ?_ | refine sS (d7 (f:=i4) (l:=(List.drop (0:Int).toNat (List.take ((i:Nat):Int).toNat (cellAt h d).p8))) (x':=(List.drop (IntKind.i64.wrap ((i:Int)+1)).toNat (List.take (((cellAt h d).p8.length:Nat):Int).toNat (cellAt h d).p8))) (by rfl) (by rfl) (by rfl) (by first | exact b7 | exact b0 | exact b6 (by rfl) (by rfl)) (by rfl) (by simp only [List.length_drop,List.length_take];omega)) ?_ | fail)
 all_goals (conv=>whnf)
 all_goals (first | exact PV.le.refl _ | (exfalso;omega))
end Go.Ab.Td
namespace Go.Ab
set_option linter.unusedSimpArgs false
section
variable {σ:d6} {nm:Nat} {ev:RA→AV}
end
end Go.Ab
namespace Go.Ab
section
variable {σ:d6} {nm es:Nat} {ev:RA→AV}
end
end Go.Ab
namespace Go.Ab
section
variable {σ:d6} {nm es:Nat} {ev:RA→AV}
theorem A9 {α:Type} {f:α→List PV} {l0 l1:List α} {x:RA} {lo:Option RA} {a:Int} (hx:ev x= .pv (.sl es ((l0++l1).map f))) (hl:k9 ev 0 lo=some a) (ha:a=(l0.length:Int)):
 step σ nm ev (.slice es x lo none none)=some {v:=.pv (.sl es (l1.map f))}:=by
 subst ha
 rw [v3 (h:=((l0++l1).length:Int)) hx hl (by rw [List.length_map];rfl) (by omega) (by rw [List.length_append];omega) (Int.le_refl _)]
 rw [Int.toNat_natCast,Int.toNat_natCast,List.take_length,List.drop_left]
end
end Go.Ab
