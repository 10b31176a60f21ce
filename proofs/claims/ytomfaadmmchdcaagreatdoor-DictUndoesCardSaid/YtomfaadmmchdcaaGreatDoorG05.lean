/- A part of the proof: the texts Ab38, Ab39, Ab40, Ab41, Ab42, Ab43, Ab44, Ab45, Ab46, Ab47, Sp0, Ab48, Sp1, Sp4, Sp2, Sp3, AbMm, Ab49, AbPd, AbGl. Under: nothing. -/
import Derived.Test.YtomfaadmmchdcaaGreatDoorG04
import Derived.Carry
import Derived.OpenShut
import Derived.WalkKit
import Derived.ProofKit
import Derived.Lib.Index
import Derived.FnData
set_option linter.unusedVariables false
namespace Go.Ab
open Go.RowKit
def c4c (P:Program) (G:Gl) (g:Nat) (h:List AV→b7→Nat→(AV→b7→Nat→Prop)→Prop):Prop:=
 ∀ (args:List AV) (σ:b7) (nx:Nat) (K:AV→b7→Nat→Prop),h args σ nx K→
   ∀ (B:Nat) (w0:World) (I0:v9) (gs:Value→AV→Prop) (w:World) (I:v9) (ι:Nat→Option Nat) (D:Nat→Prop) (vs:Array Value),Core B w0 I0 w I ι σ D→(∀ b,D b→b<nx)→V9 P G w I→
     vs.size=args.length→(∀ (j:Nat) (x:Value) (q:AV),vs[j]?=some x→args[j]?=some q→e8 w I ι σ D x q)→(∀ x a,gs x a→e8 w I ι σ D x a)→
     (∀ w₁,(callFunc g vs).run P w₁= .ok (.enter g vs) w₁)∧CallsIn Fence.wide 0 P g vs w (b3X P G B w0 I0 gs D w nx K)
theorem b8d:∀ (s:b7) (b:Nat) (x y:Option d9),Q7 (Q7 s b x) b y=Q7 s b y
 | [],b,x,y=>by simp [Q7]
 | (k,o)::s,b,x,y=>by
   simp only [Q7]
   cases hk:k==b with
   | true=>simp [Q7,hk]
   | false=>simp only [Q7,hk];rw [b8d s]
def a6r (es bytes:Nat) (zeros:List AV):n6:=⟨1,8,[.tmp 2],
 .seq (.b6 [⟨some 2,.mv (.c (.emp es)),none,0⟩] false)
 (.seq (.seq (.b6 [⟨some 3,.mv (.t 0),none,0⟩,
   ⟨some 4,.a9c false (.t 3),none,1⟩] false)
 (.cond (.t 4)
  (.seq (.b6 [⟨some 2,.mv (.c (.emp es)),none,0⟩] false)
  (.ret))
  (.skip)))
 (.seq (.b6 [⟨some 5,.G6 es 0 zeros [],none,0⟩,
   ⟨some 6,.mv (.t 0),none,0⟩,
   ⟨some 7,.append es bytes (.t 5) (.t 6),none,3⟩,
   ⟨some 2,.mv (.t 7),none,7⟩] false)
 (.ret)))⟩
def a2L (nx es:Nat) (xs:List (List PV)):List (Nat × Option d9):=[(nx+12,none),(nx+20,some (.arr es xs false))]
def b7S (a:AV) (nx:Nat):Bool:=match a with
 | .own b _ _=>Nat.blt b nx
 | _=>true
def a7U (es bytes:Nat):a2A:=fun args σ nx=>match args with
 | [a]=>(match a.e with
   | .emp _=>some (.emp es,σ,nx+16)
   | a'=>match l4 σ es a with
     | some (xs,_)=>if xs.length*bytes≤2 ^ 40∧b7S a' nx=true then a2s σ (a2L nx es xs) fun σ'=>some (.own (nx+20) 0 xs.length,σ',nx+28) else none
     | none=>none)
 | _=>none
theorem z6.congr {B:Nat} {w:World} {I:v9} {ι:Nat→Option Nat} {σ σ':b7} {D:Nat→Prop} (hs:z6 B w I ι σ D) (he:∀ b,find σ' b=find σ b):z6 B w I ι σ' D∧q0 w I ι σ D w I ι σ' D:=by
 have hL:q0 w I ι σ D w I ι σ' D:=⟨⟨fun _ _ _ hi hx=>⟨hx,hi⟩,fun _ h=>h,fun b o' _ ho=>by rw [he] at ho;exact ⟨o',ho,rfl,rfl,rfl⟩,fun _ c _ fz h=>⟨c,fz,h,rfl⟩,fun _ _=>rfl⟩,fun _ _ _ h=>h⟩
 exact ⟨⟨hs.bnd,fun b o h'=>hs.dom b o (by rw [← he];exact h'),fun b b' o o' r h₁ h₂=>hs.inj b b' o o' r (by rw [← he];exact h₁) (by rw [← he];exact h₂),
  fun b o r h'=>hs.ge b o r (by rw [← he];exact h'),fun b o r k h'=>hs.sep b o r k (by rw [← he];exact h'),
  fun b o h'=>(hs.obj b o (by rw [← he];exact h')).mono hL rfl fun _ _=>rfl⟩,hL⟩
theorem a0r {G:Gl} {Ok:Nat→List PV→Own→PV→Prop} {E:Env} {r:m7} {l:List m7} {nm:Nat} {st:St} {K:St→Prop} (hg:r.guard=none) (hc:∀ f args,r.op≠ .call f args) {e:l7} (he:step st.σ nm (st.ev G) r.op=some e)
 (h:a7s G Ok E l (nm+g9) (D5 st r.dst e.v (m0 st.σ e.up)) K):a7s G Ok E (r::l) nm st K:=by
 simp only [a7s,j7]
 unfold a9Z
 split
 ·rename_i f args hop;exact absurd hop (hc f args)
 ·unfold a8Z
  rw [hg]
  simp only
  unfold opW
  split
  ·rename_i f args hop;exact absurd hop (hc f args)
  ·obtain ⟨tm,σ,nx,nt⟩:=st
   simp only at he
   simp only [he,H0,I3]
   exact h
theorem a9u {G:Gl} {Ok:Nat→List PV→Own→PV→Prop} {E:Env} {nm:Nat} {st:St} {K:St→Prop}:a7s G Ok E [] nm st K=K st:=rfl
theorem a1x {t:T} {n m:Nat} {v:AV} (hn:n<1024) (hm:m<1024) (h:m≠n):(t.set d7 n v).get d7 m=t.get d7 m:=by
 rw [H4,if_neg]
 have e1:m % 2 ^ d7=m:=Nat.mod_eq_of_lt hm
 have e2:n % 2 ^ d7=n:=Nat.mod_eq_of_lt hn
 rw [e1,e2];exact h
theorem T0 {t:T} {n:Nat} {v:AV}:(t.set d7 n v).get d7 n=v:=by rw [H4,if_pos rfl]
theorem b8s {P:Program} {G:Gl} {E:Env} {es bytes:Nat} {zeros:List AV} {a:AV} {σ:b7} {nx:Nat} {K:AV→b7→Nat→Prop} (h:a6c (a7U es bytes) [a] σ nx K):
 aw G (l3 P G) (a6r es bytes zeros).body false E
  (b0s G [.tmp 2] fun av σ' nx'=>K av σ' nx'∨(av= .emp es∧σ'=σ∧nx'=nx+16∧K (.own (nx+20) 0 0) (m0 σ (a2L nx es [])) (nx+28))) ⟨a2u 0 [a] .nil,σ,nx,8⟩:=by
 let K':AV→b7→Nat→Prop:=fun av σ' nx'=>K av σ' nx'∨(av= .emp es∧σ'=σ∧nx'=nx+16∧K (.own (nx+20) 0 0) (m0 σ (a2L nx es [])) (nx+28))
 have second:∀ (xs:List (List PV)) (rd:List Nat) (tm:T),l4 σ es a=some (xs,rd)→(∀ b ∈ rd,b<nx)→xs.length*bytes≤2 ^ 40→K (.own (nx+20) 0 xs.length) (m0 σ (a2L nx es xs)) (nx+28)→tm.get d7 0=a→
  aw G (l3 P G) (.seq (.b6 [⟨some 5,.G6 es 0 zeros [],none,0⟩,⟨some 6,.mv (.t 0),none,0⟩,⟨some 7,.append es bytes (.t 5) (.t 6),none,3⟩,⟨some 2,.mv (.t 7),none,7⟩] false) .ret) false E (b0s G [.tmp 2] K') ⟨tm,σ,nx+12,8⟩:=by
  intro xs rd tm hp hrd hle hK h0
  have hp':l4 (Q7 σ (nx+12) (some (.arr es [] false))) es a=some (xs,rd):=P6 hp fun b hb=>by
   have:=hrd b hb
   exact .of_eq (by rw [l6,if_neg (by omega)])
  simp only [aw,j7]
  refine a0r (e:={v:=.own (nx+12) 0 0,up:=[(nx+12,some (.arr es [] false))]}) rfl (by intro f args e;cases e) rfl ?_
  refine a0r (e:={v:=a}) rfl (by intro f args e;cases e) (by simp only [step,l7.of,St.ev,D5];rw [a1x (by decide) (by decide) (by decide),h0]) ?_
  refine a0r (e:={v:=.own (nx+20) 0 (0+xs.length),rd:=(nx+12)::rd,up:=[(nx+12,none),(nx+20,some (.arr es ([]++xs) false))]}) rfl (by intro f args e;cases e) ?_ ?_
  ·simp only [step,St.ev,D5,m0]
   rw [a1x (by decide) (by decide) (by decide),T0,T0]
   simp only [AV.e,l6,if_true,List.length_nil,and_self,hp',Nat.zero_add,if_pos hle]
   rfl
  refine a0r (e:={v:=.own (nx+20) 0 (0+xs.length)}) rfl (by intro f args e;cases e) (by simp only [step,l7.of,St.ev,D5];rw [T0]) ?_
  simp only [a9u,Ex.then,b0s,Y3,c0T,St.ev,D5,E3,a5d,m0,T0,b8d]
  refine .inl ?_
  simp only [Nat.zero_add,List.nil_append]
  exact hK
 have start:∀ (isn:AV) (rd:List Nat),(isn= .pv (.bool true)∨isn= .pv (.bool false)∨isn= .O5)→(match a.e with
  | .emp _=>l7.of (.pv (.bool (!false)))
  | .fsl _ rows=>(match rows with | []=>l7.of .O5 | _::_=>l7.of (.pv (.bool false)))
  | .pv (.sl _ rows)=>(match rows with | []=>l7.of .O5 | _::_=>l7.of (.pv (.bool false)))
  | .own b _ n=>match find σ b with
    | some _=>(match n with | 0=>some {v:=.O5,rd:=[b]} | _+1=>some {v:=.pv (.bool false),rd:=[b]})
    | none=>none
  | _=>none)=some {v:=isn,rd:=rd}→
  (∀ tm:T,tm.get d7 0=a→b5f isn (aw G (l3 P G) (.seq (.b6 [⟨some 2,.mv (.c (.emp es)),none,0⟩] false) (.ret)) false E (b0s G [.tmp 2] K') ⟨tm,σ,nx+12,8⟩)
   (aw G (l3 P G) (.seq (.b6 [⟨some 5,.G6 es 0 zeros [],none,0⟩,⟨some 6,.mv (.t 0),none,0⟩,⟨some 7,.append es bytes (.t 5) (.t 6),none,3⟩,⟨some 2,.mv (.t 7),none,7⟩] false) .ret) false E (b0s G [.tmp 2] K') ⟨tm,σ,nx+12,8⟩))→
  aw G (l3 P G) (a6r es bytes zeros).body false E (b0s G [.tmp 2] K') ⟨a2u 0 [a] .nil,σ,nx,8⟩:=by
  intro isn rd his hisn hc
  have h0:(a2u 0 [a] T.nil).get d7 0=a:=by simp only [a2u];exact T0
  simp only [a6r,aw,j7]
  refine a0r (e:={v:=.emp es}) rfl (by intro f args e;cases e) rfl ?_
  simp only [a9u,Ex.then,D5,m0]
  refine a0r (e:={v:=a}) rfl (by intro f args e;cases e) (by simp only [step,l7.of,St.ev];rw [a1x (by decide) (by decide) (by decide),h0]) ?_
  refine a0r (e:={v:=isn,rd:=rd}) rfl (by intro f args e;cases e) (by simp only [step,St.ev,D5];rw [T0];exact hisn) ?_
  simp only [a9u,Ex.then,D5,m0,St.ev,T0]
  have:=hc ((((a2u 0 [a] T.nil).set d7 2 (.emp es)).set d7 3 a).set d7 4 isn) (by rw [a1x (by decide) (by decide) (by decide),a1x (by decide) (by decide) (by decide),a1x (by decide) (by decide) (by decide),h0])
  rcases his with rfl | rfl | rfl
  ·exact this
  ·exact this
  ·exact this
 have nilB:∀ (tm:T),K' (.emp es) σ (nx+16)→aw G (l3 P G) (.seq (.b6 [⟨some 2,.mv (.c (.emp es)),none,0⟩] false) (.ret)) false E (b0s G [.tmp 2] K') ⟨tm,σ,nx+12,8⟩:=by
  intro tm hK
  simp only [aw,j7]
  refine a0r (e:={v:=.emp es}) rfl (by intro f args e;cases e) rfl ?_
  simp only [a9u,Ex.then,b0s,Y3,c0T,St.ev,D5,E3,a5d,m0,T0]
  exact hK
 have rest:(match l4 σ es a with
  | some (xs,_)=>if xs.length*bytes≤2 ^ 40∧b7S a.e nx=true then a2s σ (a2L nx es xs) fun σ'=>some (AV.own (nx+20) 0 xs.length,σ',nx+28) else none
  | none=>none)=a7U es bytes [a] σ nx→(∀ e0,a.e≠ .emp e0)→aw G (l3 P G) (a6r es bytes zeros).body false E (b0s G [.tmp 2] K') ⟨a2u 0 [a] .nil,σ,nx,8⟩:=by
  intro heq hne
  simp only [a6c,← heq] at h
  cases hp:l4 σ es a with
  | none=>rw [hp] at h;exact h.elim
  | some r=>
    obtain ⟨xs,rd⟩:=r
    rw [hp] at h
    simp only at h
    by_cases hc:xs.length*bytes≤2 ^ 40∧b7S a.e nx=true
    ·rw [if_pos hc] at h
     simp only [H0] at h
     have hp':=hp
     unfold l4 at hp'
     have hrd:∀ b ∈ rd,b<nx:=by
      intro b hb
      split at hp'
      ·cases hp';cases hb
      ·split at hp' <;>cases hp';cases hb
      ·split at hp' <;>cases hp';cases hb
      ·rename_i b' i n hae
       have hlt:b'<nx:=by have:=hc.2;rw [hae] at this;simpa [b7S,Nat.blt_eq] using this
       split at hp'
       ·split at hp' <;>cases hp'
        simp at hb;omega
       ·cases hp'
      ·cases hp'
     have go:=fun tm h0=>second xs rd tm hp hrd hc.1 h h0
     have any:xs=[]→∀ tm:T,tm.get d7 0=a→b5f .O5 (aw G (l3 P G) (.seq (.b6 [⟨some 2,.mv (.c (.emp es)),none,0⟩] false) (.ret)) false E (b0s G [.tmp 2] K') ⟨tm,σ,nx+12,8⟩) (aw G (l3 P G) (.seq (.b6 [⟨some 5,.G6 es 0 zeros [],none,0⟩,⟨some 6,.mv (.t 0),none,0⟩,⟨some 7,.append es bytes (.t 5) (.t 6),none,3⟩,⟨some 2,.mv (.t 7),none,7⟩] false) .ret) false E (b0s G [.tmp 2] K') ⟨tm,σ,nx+12,8⟩):=by
      intro hx tm h0
      subst hx
      exact ⟨nilB tm (.inr ⟨rfl,rfl,rfl,h⟩),go tm h0⟩
     split at hp'
     ·rename_i e0 hae;exact absurd hae (hne e0)
     ·rename_i e0 rows hae
      split at hp' <;>cases hp'
      cases xs with
      | nil=>exact start .O5 [] (.inr (.inr rfl)) (by rw [hae];rfl) (any rfl)
      | cons x xs=>exact start (.pv (.bool false)) [] (.inr (.inl rfl)) (by rw [hae];rfl) go
     ·rename_i e0 rows hae
      split at hp' <;>cases hp'
      cases xs with
      | nil=>exact start .O5 [] (.inr (.inr rfl)) (by rw [hae];rfl) (any rfl)
      | cons x xs=>exact start (.pv (.bool false)) [] (.inr (.inl rfl)) (by rw [hae];rfl) go
     ·rename_i b' i n hae
      split at hp'
      ·rename_i e1 rows sl hf
       split at hp' <;>cases hp'
       cases n with
       | zero=>exact start .O5 [b'] (.inr (.inr rfl)) (by rw [hae];simp only [hf]) (any (by simp))
       | succ n=>exact start (.pv (.bool false)) [b'] (.inr (.inl rfl)) (by rw [hae];simp only [hf]) go
      ·cases hp'
     ·cases hp'
    ·rw [if_neg hc] at h;exact h.elim
 cases hae:a.e with
 | emp e0=>
   simp only [a6c,a7U] at h
   rw [hae] at h
   exact start (.pv (.bool true)) [] (.inl rfl) (by rw [hae];rfl) fun tm h0=>nilB tm (.inl h)
 | _=>exact rest (by simp only [a7U,hae]) (fun e0 he=>by rw [hae] at he;cases he)
theorem b9W {P:Program} {G:Gl} (hm:P.follows .mixedOrders=true) {g es bytes:Nat} {zeros:List AV} (hk:d8 P g (a6r es bytes zeros)=true):c4c P G g (a6c (a7U es bytes)):=by
 intro args σ nx K h B w0 I0 gs w I ι D vs hc hD hgl hl ha hgs
 have hargs:∃ a,args=[a]:=by
  simp only [a6c,a7U] at h
  split at h
  ·rename_i heq
   split at heq
   ·exact ⟨_,rfl⟩
   ·cases heq
  ·exact h.elim
 obtain ⟨a,rfl⟩:=hargs
 have hin:=(a1O (G:=G) hm (ext:=fun _=>none) (fun g h e=>by cases e) (tab:=fun g'=>if g'=g then some (a6r es bytes zeros) else none) (x9:=fun _=>none) (fun g' c e=>by
  split at e
  ·rename_i hg;cases e;subst hg;exact hk
  ·cases e) (fun _ _ e=>by cases e) 1).1 g _ (by simp only [M0,if_true];rfl)
 have:=hin [a] σ nx (fun av σ' nx'=>K av σ' nx'∨(av= .emp es∧σ'=σ∧nx'=nx+16∧K (.own (nx+20) 0 0) (m0 σ (a2L nx es [])) (nx+28))) (by
  split
  ·rw [a2V];exact b8s h
  ·rename_i hn;simp [a6r] at hn) B w0 I0 gs w I ι D vs hc hD hgl hl ha hgs
 refine ⟨this.1,CallsIn.mono this.2 fun e w' he=>?_⟩
 cases e with
 | returned v=>
   obtain ⟨av,σ',nx',I',ι',D',hK,hc',hle,hD',hrep,hgl',hgs',hst⟩:=he
   rcases hK with hK | ⟨rfl,rfl,rfl,hK⟩
   ·exact ⟨av,σ',nx',I',ι',D',hK,hc',hle,hD',hrep,hgl',hgs',hst⟩
   ·have hn20:¬ D' (nx+20):=fun h=>by
     rcases hD' _ h with h | h
     ·have:=hD _ h;omega
     ·omega
    have h12:find σ' (nx+12)=none:=by
     cases hf:find σ' (nx+12) with
     | none=>rfl
     | some o=>have:=hD _ (hc.u6.dom _ _ hf);omega
    obtain ⟨hS,hL⟩:=hc'.u6.empty (nm:=nx+20) (o:=.arr es [] false) hn20 rfl rfl
    obtain ⟨hS',hL'⟩:=hS.congr (σ':=m0 σ' (a2L nx es [])) (fun b=>by
     simp only [a2L,m0,l6]
     by_cases e:b=nx+20
     ·simp [e]
     ·by_cases e':b=nx+12
      ·simp [e',h12]
      ·simp [e,e'])
    have hLL:=hL.trans hL'
    refine ⟨_,_,_,I',_,_,hK,⟨hS',hc'.below,hc'.hB,hc'.ext,hc'.old⟩,by omega,fun b hb=>?_,?_,hgl'.mono hLL.keeps,fun x a hx=>(hgs' x a hx).mono hLL,hst⟩
    ·rcases hb with hb | rfl
     ·rcases hD' b hb with h | h
      ·exact .inl h
      ·exact .inr ⟨h.1,by omega⟩
     ·exact .inr ⟨by omega,by omega⟩
    ·cases hrep
     refine .own (.inr rfl) rfl fun o ho=>?_
     simp only [a2L,m0,l6,if_true] at ho
     cases ho
     exact ⟨none,0,rfl,by simp [d9.len],⟨Nat.le_refl _,Nat.le_refl _⟩,.inl ⟨rfl,rfl⟩⟩
 | panicked ch=>exact he.elim
 | outgrown=>exact he.elim
end Go.Ab
namespace Go.Ab
open Go.RowKit Go.ChangeShapes
inductive Ty where
 | int (k:IntKind)
 | bool
 | str
 | sl (cs:List Ty)
inductive Has:Ty→PV→Prop
 | bool (b:Bool):Has .bool (.bool b)
 | int {k:IntKind} {n:Int} (h:(Lit.int k n).wf=true):Has (.int k) (.int k n)
 | str {s:List UInt8} (h:s.length≤maxLen):Has .str (.str s)
 | sl {cs:List Ty} {rows:List (List PV)} (hw:∀ row ∈ rows,row.length=cs.length) (h:∀ row ∈ rows,∀ (j:Nat) (q:PV) (t:Ty),row[j]?=some q→cs[j]?=some t→Has t q) (hl:rows.length≤maxLen):Has (.sl cs) (.sl cs.length rows)
def a9K (w:World):v9:=fun a k=>(w.cell? ⟨a,k,none⟩).isSome=true
theorem b9J (w:World):∀ a k,a9K w a k→a<w.heap.size:=by
 intro a k h
 unfold a9K World.cell? at h
 cases hr:w.heap[a]? with
 | none=>simp [hr] at h
 | some o=>exact (Array.getElem?_eq_some_iff.1 hr).1
inductive a5k (w:World):List Value→List PV→List Ty→Prop
 | nil:a5k w [] [] []
 | cons {c:Value} {q:PV} {t:Ty} {cs:List Value} {qs:List PV} {ts:List Ty} (h:z5 w (a9K w) c q) (ht:Has t q) (h1:c.oneCell'=true) (hs:a5k w cs qs ts):a5k w (c::cs) (q::qs) (t::ts)
theorem a5k.len {w:World} {cs:List Value} {qs:List PV} {ts:List Ty} (h:a5k w cs qs ts):cs.length=ts.length∧qs.length=ts.length:=by
 induction h with
 | nil=>exact ⟨rfl,rfl⟩
 | cons _ _ _ _ ih=>exact ⟨by simp [ih.1],by simp [ih.2]⟩
theorem a5k.get {w:World} {cs:List Value} {qs:List PV} {ts:List Ty} (h:a5k w cs qs ts):∀ (j:Nat) (c:Value) (q:PV),cs[j]?=some c→qs[j]?=some q→z5 w (a9K w) c q∧c.oneCell'=true∧∀ t,ts[j]?=some t→Has t q:=by
 induction h with
 | nil=>intro j c q hc;simp at hc
 | cons h ht h1 _ ih=>
   intro j c q hc hq
   cases j with
   | zero=>simp at hc hq;subst hc;subst hq;exact ⟨h,h1,fun t e=>by simp at e;subst e;exact ht⟩
   | succ j=>exact ih j c q (by simpa using hc) (by simpa using hq)
theorem a5k.append {w:World} {cs cs':List Value} {qs qs':List PV} {ts ts':List Ty} (h:a5k w cs qs ts) (h':a5k w cs' qs' ts'):a5k w (cs++cs') (qs++qs') (ts++ts'):=by
 induction h with
 | nil=>exact h'
 | cons a b c _ ih=>exact .cons a b c ih
def a6S (P:Program) (g:TypeId→Option (List Ty)):List Field→Nat→Option (List Ty)
 | [],_=>some []
 | f::fs,off=>match g f.type with
   | some ts=>match f.offset==off&&P.cellsOf f.type==ts.length with
     | true=>(match a6S P g fs (off+ts.length) with | some r=>some (ts++r) | none=>none)
     | false=>none
   | none=>none
def b5b (ts:List Ty):Nat→List Ty
 | 0=>[]
 | k+1=>ts++b5b ts k
def a2T (P:Program):Nat→TypeId→Option (List Ty)
 | 0,_=>none
 | n+1,t=>match P.underlying t with
   | some .bool=>some [.bool]
   | some (.int k)=>some [.int k]
   | some .string=>some [.str]
   | some (.slice e)=>(match a2T P n e with
     | some []=>none
     | some (c::cs)=>(match P.cellsOf e==(c::cs).length with | true=>some [.sl (c::cs)] | false=>none)
     | none=>none)
   | some (.struct fs)=>(match a6S P (a2T P n) fs.toList 0 with
     | some ts=>(match P.cellsOf t==ts.length with | true=>some ts | false=>none)
     | none=>none)
   | some (.array k e)=>(match a2T P n e with
     | some ts=>(match P.cellsOf e==ts.length&&P.cellsOf t==k*ts.length with | true=>some (b5b ts k) | false=>none)
     | none=>none)
   | _=>none
theorem b4Z {a:Addr} (h:a.spot=none) (n:Nat):a.add n=⟨a.block,a.off+n,none⟩:=by
 obtain ⟨b,o,s⟩:=a
 simp only at h
 subst h
 unfold Addr.add
 split
 ·rename_i h0;subst h0;rfl
 ·rfl
section
variable {H:Type} {enc:TypeId × Value→H} {P:Program} {w:World} {base:Nat} {spare:Nat→Bool} {held:Bool}
theorem b1K {g:TypeId→Option (List Ty)} {n:Nat} {cs:List Value} (hg:∀ t ts cs x,g t=some ts→DataW.trod enc P w base spare held n t cs=some x→∃ qs,a5k w cs qs ts):∀ (fs:List Field) (off:Nat) (ts:List Ty),a6S P g fs off=some ts→
 (∀ (i:Nat) (f:Field),fs[i]?=some f→∃ y,DataW.trod enc P w base spare held n f.type ((cs.drop f.offset).take (P.cellsOf f.type))=some y)→cs.length=off+ts.length→∃ qs,a5k w (cs.drop off) qs ts
 | [],off,ts,h,_,hl=>by
   simp only [a6S] at h;cases h
   have:cs.drop off=[]:=List.drop_eq_nil_of_le (by simp at hl;omega)
   exact ⟨[],this ▸ .nil⟩
 | f::fs,off,ts,h,hf,hl=>by
   simp only [a6S] at h
   split at h
   ·rename_i ts0 hts0
    split at h
    ·rename_i hc
     simp only [Bool.and_eq_true,beq_iff_eq] at hc
     split at h
     ·rename_i r hr
      cases h
      obtain ⟨y,hy⟩:=hf 0 f rfl
      rw [hc.1,hc.2] at hy
      obtain ⟨qs0,h0⟩:=hg _ _ _ _ hts0 hy
      obtain ⟨qs1,h1⟩:=b1K hg fs (off+ts0.length) r hr (fun i f hi=>hf (i+1) f (by simpa using hi)) (by rw [hl];simp;omega)
      refine ⟨qs0++qs1,?_⟩
      have e:cs.drop off=(cs.drop off).take ts0.length++cs.drop (off+ts0.length):=by
       rw [← List.drop_drop];exact (List.take_append_drop _ _).symm
      rw [e]
      exact h0.append h1
     ·cases h
    ·cases h
   ·cases h
theorem b3o {n:Nat} {e:TypeId} {ts:List Ty} {cs:List Value} (hg:∀ cs x,DataW.trod enc P w base spare held n e cs=some x→∃ qs,a5k w cs qs ts):∀ (k off:Nat),(∀ i,i<k→∃ y,DataW.trod enc P w base spare held n e ((cs.drop (off+i*ts.length)).take ts.length)=some y)→cs.length=off+k*ts.length→∃ qs,a5k w (cs.drop off) qs (b5b ts k)
 | 0,off,_,hl=>by
   have:cs.drop off=[]:=List.drop_eq_nil_of_le (by simp at hl;omega)
   exact ⟨[],this ▸ .nil⟩
 | k+1,off,hf,hl=>by
   obtain ⟨y,hy⟩:=hf 0 (by omega)
   simp only [Nat.zero_mul,Nat.add_zero] at hy
   obtain ⟨qs0,h0⟩:=hg _ _ hy
   obtain ⟨qs1,h1⟩:=b3o hg k (off+ts.length) (fun i hi=>by
    obtain ⟨y,hy⟩:=hf (i+1) (by omega)
    rw [Nat.succ_mul,show off+(i*ts.length+ts.length)=off+ts.length+i*ts.length by omega] at hy
    exact ⟨y,hy⟩) (by rw [hl,Nat.succ_mul];omega)
   refine ⟨qs0++qs1,?_⟩
   have e:cs.drop off=(cs.drop off).take ts.length++cs.drop (off+ts.length):=by
    rw [← List.drop_drop];exact (List.take_append_drop _ _).symm
   rw [e]
   exact h0.append h1
theorem a9y:∀ (m:Nat) (t:TypeId) (ts:List Ty) (n:Nat) (cs:List Value) (x:DataW H × List MemPlace),a2T P m t=some ts→DataW.trod enc P w base spare held n t cs=some x→∃ qs,a5k w cs qs ts
 | 0,_,_,_,_,_,h,_=>by simp [a2T] at h
 | m+1,t,ts,n,cs,x,h,hx=>by
   simp only [a2T] at h
   split at h
   ·rename_i ht
    cases h
    obtain ⟨b,rfl,_⟩:=DataW.trod_bool ht hx
    exact ⟨[.bool b],.cons (.bool b) (.bool b) rfl .nil⟩
   ·rename_i k ht
    cases h
    obtain ⟨i,rfl,_,hw⟩:=DataW.trod_int ht hx
    exact ⟨[.int k i],.cons (.int k i) (.int hw) rfl .nil⟩
   ·rename_i ht
    cases h
    obtain ⟨s,rfl,_,hs⟩:=DataW.trod_string ht hx
    exact ⟨[.str s.data.toList],.cons (.str s) (.str (by simpa using hs)) rfl .nil⟩
   ·rename_i e ht
    split at h
    ·cases h
    ·rename_i c cs0 hc
     split at h
     ·rename_i hsz
      cases h
      rw [beq_iff_eq] at hsz
      rcases DataW.trod_slice ht hx with ⟨rfl,_⟩ | ⟨a,len,cap,elems,rest,n',_,rfl,_,_,hlc,hcm,hel,hget,_⟩
      ·exact ⟨[.sl (c::cs0).length []],.cons (.sl (fun _ _=>undef) rfl (Nat.le_refl _) (fun i row hi=>by simp at hi) (fun hn=>absurd rfl hn) (fun i j row q hi=>by simp at hi)) (.sl (fun row hr=>by cases hr) (fun row hr=>by cases hr) (Nat.zero_le _)) rfl .nil⟩
      ·have hone:∀ i,i<len→∃ ci qs,w.cells? base (a.add (i*(c::cs0).length)) (c::cs0).length=some ci∧a5k w ci qs (c::cs0):=by
        intro i hi
        have:=hget i hi
        rw [hsz,List.getElem?_eq_getElem (by omega),Option.bind_eq_some_iff] at this
        obtain ⟨ci,h1,h2⟩:=this
        obtain ⟨qs,hq⟩:=a9y m e _ _ _ _ hc h2
        exact ⟨ci,qs,h1,hq⟩
       have hspot:0<len→a.spot=none:=by
        intro hpos
        obtain ⟨ci,qs,h1,_⟩:=hone 0 hpos
        obtain ⟨_,hl,hcell⟩:=World.cells?_some h1
        have hlt:0<ci.length:=by rw [hl];simp
        have h0:=hcell 0 (by simp)
        rw [List.getElem?_eq_getElem hlt] at h0
        simp only [Nat.zero_mul] at h0
        have e0:(a.add 0).add 0=a:=by simp [Addr.add]
        rw [e0] at h0
        unfold World.cell? at h0
        split at h0
        ·split at h0
         ·cases h0
         ·rename_i hs;simpa using hs
        ·cases h0
       classical
       let rowf:Nat→List PV:=fun i=>if hi:i<len then (hone i hi).choose_spec.choose else []
       have hrowf:∀ i,i<len→∃ ci,w.cells? base (a.add (i*(c::cs0).length)) (c::cs0).length=some ci∧a5k w ci (rowf i) (c::cs0):=by
        intro i hi
        have:=(hone i hi).choose_spec.choose_spec
        refine ⟨(hone i hi).choose,this.1,?_⟩
        simp only [rowf,dif_pos hi]
        exact this.2
       let rows:List (List PV):=(List.range len).map rowf
       have hrow:∀ (i:Nat) (row:List PV),rows[i]?=some row→i<len∧row=rowf i:=by
        intro i row hr
        simp only [rows,List.getElem?_map,Option.map_eq_some_iff] at hr
        obtain ⟨k,hk,rfl⟩:=hr
        rw [List.getElem?_eq_some_iff] at hk
        obtain ⟨h1,h2⟩:=hk
        simp at h1 h2
        subst h2
        exact ⟨h1,rfl⟩
       let f:Nat→Nat→Value:=fun i j=>(w.cell? ⟨a.block,a.off+(i*(c::cs0).length+j),none⟩).getD undef
       have hcell:∀ i j,i<len→j<(c::cs0).length→∃ ci,a5k w ci (rowf i) (c::cs0)∧ci[j]?=some (f i j)∧w.cell? ⟨a.block,a.off+(i*(c::cs0).length+j),none⟩=some (f i j):=by
        intro i j hi hj
        obtain ⟨ci,h1,h2⟩:=hrowf i hi
        obtain ⟨_,hl,hcell⟩:=World.cells?_some h1
        have hs:=hspot (by omega)
        have e0:(a.add (i*(c::cs0).length)).add j=⟨a.block,a.off+(i*(c::cs0).length+j),none⟩:=by
         rw [b4Z hs,b4Z rfl]
         simp [Nat.add_assoc]
        have h0:=hcell j hj
        rw [e0,List.getElem?_eq_getElem (by rw [hl];exact hj)] at h0
        refine ⟨ci,h2,?_,?_⟩
        ·rw [List.getElem?_eq_getElem (by rw [hl];exact hj)];simp only [f,h0,Option.getD_some]
        ·simp only [f,h0,Option.getD_some]
       have hwl:∀ (i:Nat) (row:List PV),rows[i]?=some row→row.length=(c::cs0).length:=by
        intro i row hr
        obtain ⟨hi,rfl⟩:=hrow i row hr
        obtain ⟨ci,_,h2⟩:=hrowf i hi
        exact h2.len.2
       refine ⟨[.sl (c::cs0).length rows],.cons (.sl f (by simp [rows]) hlc hwl (fun hne=>?_) (fun i j row q hr hq=>?_)) (.sl (fun row hr=>?_) (fun row hr j q t hq ht'=>?_) (by simp [rows];omega)) rfl .nil⟩
       ·have hpos:0<len:=by
         rcases Nat.eq_zero_or_pos len with h0 | h0
         ·exact absurd (by simp [rows,h0]) hne
         ·exact h0
        refine ⟨a,rfl,hspot hpos,fun i j hi hj=>?_⟩
        have hi:i<len:=by simpa [rows] using hi
        obtain ⟨ci,h1,h2,h3⟩:=hcell i j hi hj
        have hq:(rowf i)[j]?=some ((rowf i)[j]'(by rw [h1.len.2];exact hj)):=List.getElem?_eq_getElem _
        exact ⟨h3,by unfold a9K;rw [h3];rfl,(h1.get j _ _ h2 hq).2.1⟩
       ·obtain ⟨hi,rfl⟩:=hrow i row hr
        have hj:j<(c::cs0).length:=by
         have:=(List.getElem?_eq_some_iff.1 hq).1
         rw [hwl i _ hr] at this;exact this
        obtain ⟨ci,h1,h2,h3⟩:=hcell i j hi hj
        exact (h1.get j _ _ h2 hq).1
       ·obtain ⟨i,hi⟩:=List.getElem?_of_mem hr
        exact hwl i row hi
       ·obtain ⟨i,hi⟩:=List.getElem?_of_mem hr
        obtain ⟨hlt,rfl⟩:=hrow i row hi
        have hj:j<(c::cs0).length:=(List.getElem?_eq_some_iff.1 ht').1
        obtain ⟨ci,h1,h2,h3⟩:=hcell i j hlt hj
        exact (h1.get j _ _ h2 hq).2.2 t ht'
     ·cases h
    ·cases h
   ·rename_i fs ht
    split at h
    ·rename_i ts0 hts0
     split at h
     ·rename_i hsz
      cases h
      rw [beq_iff_eq] at hsz
      obtain ⟨xs,n',_,_,hl,hxl,hget⟩:=DataW.trod_struct ht hx
      have:=b1K (n:=n') (fun t ts cs x h1 h2=>a9y m t ts n' cs x h1 h2) fs.toList 0 ts hts0 (fun i f hf=>by
       have hf':fs[i]?=some f:=by simpa using hf
       have hi:i<xs.length:=by rw [hxl];exact (Array.getElem?_eq_some_iff.1 hf').1
       exact ⟨xs[i],(hget i f hf').trans (List.getElem?_eq_getElem hi)⟩) (by rw [hl,hsz];simp)
      simpa using this
     ·cases h
    ·cases h
   ·rename_i k e ht
    split at h
    ·rename_i ts0 hts0
     split at h
     ·rename_i hsz
      cases h
      simp only [Bool.and_eq_true,beq_iff_eq] at hsz
      obtain ⟨xs,n',_,_,hl,hxl,hget⟩:=DataW.trod_array ht hx
      have:=b3o (n:=n') (e:=e) (fun cs x h2=>a9y m e ts0 n' cs x hts0 h2) k 0 (fun i hi=>by
       have:=hget i hi
       rw [hsz.1,List.getElem?_eq_getElem (by omega)] at this
       rw [Nat.zero_add]
       exact ⟨_,this⟩) (by rw [hl,hsz.2];simp)
      simpa using this
     ·cases h
    ·cases h
   ·cases h
def b8c (P:Program) (t:TypeId):Option (Bool × List Ty):=match a2T P 100 t with
 | some ts=>(match P.underlying t with
   | some (.struct _)=>some (true,ts)
   | some (.array _ _)=>some (true,ts)
   | some _=>some (false,ts)
   | none=>none)
 | none=>none
def a8K:Bool→PV→List PV→Prop
 | true,p,qs=>p= .agg qs
 | false,p,qs=>qs=[p]
def a9J (x:Bool × List Ty) (p:PV):Prop:=
 ∃ qs,a8K x.1 p qs∧qs.length=x.2.length∧∀ (j:Nat) (q:PV) (t:Ty),qs[j]?=some q→x.2[j]?=some t→Has t q
def Arg (w:World) (v:Value) (s:Bool) (ts:List Ty) (p:PV):Prop:=z5 w (a9K w) v p∧a9J (s,ts) p
theorem b5a {t:TypeId} {v:Value} {d:DataW H} {ps:List MemPlace} {s:Bool} {ts:List Ty} (hty:b8c P t=some (s,ts)) (h:DataW.Trod enc P w base spare held t v d ps) {W:World} {b:Nat} (hok:Value.okWide P W .any b t v):∃ p,Arg w v s ts p:=by
 unfold b8c at hty
 split at hty
 ·rename_i ts' hts
  obtain ⟨n,hn⟩:=h
  obtain ⟨qs,hq⟩:=a9y 100 t ts' n _ _ hts hn
  split at hty
  ·rename_i fs ht
   cases hty
   unfold Value.okWide at hok
   rw [ht] at hok
   obtain ⟨cs,rfl,_⟩:=hok
   have hcs:(Value.agg cs).cells.toList=cs.toList:=by simp [Value.cells]
   rw [hcs] at hq
   refine ⟨.agg qs,.agg (by have:=hq.len;simp at this;omega) (fun j x q hx hq'=>(hq.get j x q (by simpa using hx) hq').1),qs,rfl,hq.len.2,fun j q t hq' ht'=>?_⟩
   have hj:j<cs.toList.length:=by rw [hq.len.1];exact (List.getElem?_eq_some_iff.1 ht').1
   exact (hq.get j _ q (List.getElem?_eq_getElem hj) hq').2.2 t ht'
  ·rename_i _ _ ht
   cases hty
   unfold Value.okWide at hok
   rw [ht] at hok
   obtain ⟨cs,rfl,_⟩:=hok
   have hcs:(Value.agg cs).cells.toList=cs.toList:=by simp [Value.cells]
   rw [hcs] at hq
   refine ⟨.agg qs,.agg (by have:=hq.len;simp at this;omega) (fun j x q hx hq'=>(hq.get j x q (by simpa using hx) hq').1),qs,rfl,hq.len.2,fun j q t hq' ht'=>?_⟩
   have hj:j<cs.toList.length:=by rw [hq.len.1];exact (List.getElem?_eq_some_iff.1 ht').1
   exact (hq.get j _ q (List.getElem?_eq_getElem hj) hq').2.2 t ht'
  ·rename_i td hns hna ht
   cases hty
   have one:∀ x:Value,v.cells.toList=[x]→v=x∨v= .agg #[x]:=by
    intro x hx
    cases v <;>simp_all [Value.cells]
    rename_i cs
    exact .inr (congrArg Array.mk hx)
   have hnos:∀ fs,td≠ .struct fs:=fun fs e=>hns fs e
   have hl1:ts.length=1:=by
    unfold a2T at hts
    rw [ht] at hts
    split at hts
    ·cases hts;rfl
    ·cases hts;rfl
    ·cases hts;rfl
    ·split at hts
     ·cases hts
     ·split at hts <;>cases hts;rfl
     ·cases hts
    ·rename_i fs he;cases he;exact absurd rfl (hnos fs)
    ·rename_i k e he;cases he;exact absurd rfl (hna k e)
    ·cases hts
   obtain ⟨t1,rfl⟩:∃ t1,ts=[t1]:=by
    match ts,hl1 with
    | [t1],_=>exact ⟨t1,rfl⟩
   have hlen:=hq.len
   obtain ⟨q1,rfl⟩:∃ q1,qs=[q1]:=by
    match qs,hlen.2 with
    | [q1],_=>exact ⟨q1,rfl⟩
   generalize hcl:v.cells.toList=cl at hq
   cases hq with
   | cons hr ht1 h1 hs=>
     cases hs
     rename_i x
     have hv:v=x:=by
      rcases one x hcl with h | h
      ·exact h
      ·subst h
       exfalso
       unfold a2T at hts
       unfold Value.okWide at hok
       rw [ht] at hts hok
       split at hok
       ·rename_i fs he;cases he;exact hnos fs rfl
       ·rename_i n e he;cases he;exact hna n e rfl
       ·unfold Cell.okWide at hok
        rw [ht] at hok
        split at hts
        ·rename_i he;cases he;simp [Cell.ok,ht] at hok
        ·rename_i k he;cases he;simp [Cell.ok,ht] at hok
        ·rename_i he;cases he;simp [Cell.ok,ht] at hok
        ·rename_i e he;cases he;simp [Cell.ok,ht] at hok
        ·rename_i fs he;cases he;exact hnos fs rfl
        ·rename_i k e he;cases he;exact hna k e rfl
        ·cases hts
     subst hv
     exact ⟨q1,hr,[q1],rfl,rfl,fun j q t hq' ht'=>by
      match j with
      | 0=>simp at hq' ht';subst hq';subst ht';exact ht1
      | j+1=>simp at hq'⟩
  ·cases hty
 ·cases hty
theorem a7L (hl:laidOutB P=true) {W W':World} (hb:Below W.heap.size W W') {sp:Nat→Bool}:∀ {ts:List TypeId} {vs:List Value} {ds:List (DataW H)} {ps:List MemPlace},(∀ t ∈ ts,P.readableRec t=true∧t<P.types.size)→
 DataW.TrodAll enc P W 0 (fun _=>true) true ts vs ds ps→(∀ x ∈ ps,x.block<W.heap.size)→(∀ p ∈ ps,sp p.block=true)→DataW.TrodAll enc P W' 0 sp true ts vs ds ps
 | [],[],[],_,_,h,_,_=>h
 | t::ts,v::vs,d::ds,_,hr,⟨p,q,h1,h2,e⟩,hlt,hs=>by
   subst e
   obtain ⟨r1,r2⟩:=hr t (by simp)
   exact ⟨p,q,WideElems.Trod_stays hl r1 r2 h1 (fun x hx=>hb.same (hlt x (List.mem_append_left _ hx))) (fun x hx=>hs x (List.mem_append_left _ hx)),
    a7L hl hb (fun t ht=>hr t (by simp [ht])) h2 (fun x hx=>hlt x (List.mem_append_right _ hx)) (fun x hx=>hs x (List.mem_append_right _ hx)),rfl⟩
 | [],_::_,_,_,_,h,_,_=>h.elim
 | [],[],_::_,_,_,h,_,_=>h.elim
 | _::_,[],_,_,_,h,_,_=>h.elim
 | _::_,_::_,[],_,_,h,_,_=>h.elim
end
end Go.Ab
namespace Go.Ab
open Go.ChangeShapes Go.WideShapes Go.ChangeAt Go.RowKit
inductive a3b:List (Bool × List Ty)→List PV→Prop
 | nil:a3b [] []
 | cons {x:Bool × List Ty} {p:PV} {xs:List (Bool × List Ty)} {ps:List PV} (h:a9J x p) (hs:a3b xs ps):a3b (x::xs) (p::ps)
theorem a8C {H:Type} {enc:TypeId × Value→H} {P:Program} {w:World} {base:Nat} {spare:Nat→Bool} {held:Bool} {b:Nat}:∀ {ts:List TypeId} {vs:List Value} {ds:List (DataW H)} {ps:List MemPlace} {tys:List (Bool × List Ty)},
 DataW.TrodAll enc P w base spare held ts vs ds ps→(∀ (j:Nat) t v,ts[j]?=some t→vs[j]?=some v→Value.okWide P w .any b t v)→ts.map (b8c P)=tys.map some→
 ∃ qs,a3b tys qs∧vs.length=qs.length∧∀ (j:Nat) (x:Value) (q:PV),vs[j]?=some x→qs[j]?=some q→z5 w (a9K w) x q
 | [],[],[],_,tys,_,_,hty=>by
   cases tys with
   | nil=>exact ⟨[],.nil,rfl,fun j x q hx=>by simp at hx⟩
   | cons=>simp at hty
 | t::ts,v::vs,d::ds,_,tys,⟨p,q,h1,h2,_⟩,hok,hty=>by
   cases tys with
   | nil=>simp at hty
   | cons x tys=>
     simp only [List.map_cons,List.cons.injEq] at hty
     obtain ⟨s,tl⟩:=x
     obtain ⟨pv,hrep,hhas⟩:=b5a (b:=b) hty.1 h1 (hok 0 t v rfl rfl)
     obtain ⟨qs,g1,g2,g3⟩:=a8C h2 (fun j t v ht hv=>hok (j+1) t v (by simpa using ht) (by simpa using hv)) hty.2
     refine ⟨pv::qs,.cons hhas g1,by simp [g2],fun j x q hx hq=>?_⟩
     cases j with
     | zero=>simp at hx hq;subst hx;subst hq;exact hrep
     | succ j=>exact g3 j x q (by simpa using hx) (by simpa using hq)
 | [],_::_,_,_,_,h,_,_=>h.elim
 | [],[],_::_,_,_,h,_,_=>h.elim
 | _::_,[],_,_,_,h,_,_=>h.elim
 | _::_,_::_,[],_,_,h,_,_=>h.elim
theorem b0U {H:Type} {enc:TypeId × Value→H} {P:Program} {w:World} {base:Nat} {spare:Nat→Bool} {held:Bool}:∀ {ts:List TypeId} {vs:List Value} {ds:List (DataW H)} {ps:List MemPlace},DataW.TrodAll enc P w base spare held ts vs ds ps→ds.length=ts.length
 | [],[],[],_,_=>rfl
 | t::ts,v::vs,d::ds,_,⟨p,q,h1,h2,_⟩=>by simp [b0U h2]
 | [],_::_,_,_,h=>h.elim
 | [],[],_::_,_,h=>h.elim
 | _::_,[],_,_,h=>h.elim
 | _::_,_::_,[],_,h=>h.elim
theorem b3D {H:Type} {enc:TypeId × Value→H} {P:Program} {f:Nat} {fn:Func} {s:ChangeSpec} {apart again:Bool} {tb:TypeId} {W:World} {base:Nat} {args:Array Value} {ds gs:List (DataW H)} {before:List MemPlace} {G:Gl} {tys:List (Bool × List Ty)}
 (hl:laidOutB P=true) (hread:(fn.params.toList.all fun t=>P.readableRec t&&decide (t<P.types.size))=true) (hty:fn.params.toList.map (b8c P)=tys.map some)
 (hvars:s.vars=[]) (hres:fn.resultTypes=#[tb]) (htb:P.underlying tb=some .bool) (hspec:∀ ds:List (DataW H),ds.length=fn.params.size→s.fn H ds={results:=[.lit (.bool true)],args:=ds})
 (hval:∀ (j:Nat) t v,fn.params[j]?=some t→args[j]?=some v→Value.okWide P W .any base t v) (hW:DataW.Whole enc P fn.params.toList s.vars apart W args.toList ds gs before)
 (hG:V9 P G W (a9K W)) (hlaw:∀ ps,a3b tys ps→l3 P G f ps [] (.bool true)):
 Calls P f args W fun e W'=>∃ v,e= .returned v∧s.post enc P fn apart true false again W args v W':=by
 have hW':=hW
 obtain ⟨p,q,hA,hV,rfl,hfz,hnd⟩:=hW
 rw [hvars] at hV
 obtain ⟨rfl,rfl⟩:=trodVars_none hV
 simp only [List.append_nil] at hW'
 have hlen:=b0U hA
 obtain ⟨qs,h1,h2,h3⟩:=a8C (b:=base) hA (fun j t v ht hv=>hval j t v (by simpa using ht) (by simpa using hv)) hty
 have hc:=(hlaw qs h1 W (a9K W) args (b9J W) hG ⟨by simpa using h2,fun j x q hx hq=>h3 j x q (by simpa using hx) hq⟩).2
 refine (callsIn_wide.1 hc).mono fun e W' he=>?_
 cases e with
 | returned v=>
   obtain ⟨I',hb,_,_,hr⟩:=he
   obtain ⟨ι₁,_,hrep⟩:=hr 0
   have hv:v= .bool true:=a4T hrep
   subst hv
   have hds:s.fn H (ds++[])={results:=[.lit (.bool true)],args:=ds}:=by
    rw [List.append_nil];exact hspec ds (by rw [hlen];simp)
   refine ⟨_,rfl,b3h (pa:=p) (pv:=[]) hW' (fun b sp hd=>?_) (fun sp hsp=>?_) (fun sp _=>?_) (by simp) hb (ok_one hres rfl (okWide_bool_mk htb _))⟩
   ·rw [hres,hds];exact trodAll_cons_mk (shut_bool htb _) trodAll_mk0
   ·rw [hds]
    exact a7L hl hb (fun t ht=>by
     have:=List.all_eq_true.1 hread t ht
     simpa using this) hA (fun x hx=>hW'.lt x hx) hsp
   ·rw [hds,hvars];rfl
 | panicked c=>exact he.elim
 | outgrown=>exact he.elim
end Go.Ab
namespace Go.Ab
open Go.RowKit
set_option linter.unusedSimpArgs false
section
variable {w w':World} {I I':v9} {ι ι':Nat→Option Nat} {σ σ':b7} {D D':Nat→Prop}
theorem e8.restrict {v:Value} {a:AV} (h:e8 w I ι σ D v a):∀ v',e8 w' I' ι' σ' D' v' a→e8 w' I' ι' σ' D v' a:=by
 induction h with
 | pv _=>intro v' h;cases h with | pv h=>exact .pv h
 | emp es=>intro v' h;cases h;exact .emp es
 | fsl _=>intro v' h;cases h with | fsl h=>exact .fsl h
 | ptr hD _ _=>intro v' h;cases h with | ptr _ h1 h=>exact .ptr hD h1 h
 | own hD _ _=>intro v' h;cases h with | own _ h1 h=>exact .own hD h1 h
 | a0u hD _ _=>intro v' h;cases h with | a0u _ h1 h=>exact .a0u hD h1 h
 | agg hl _ ih=>
   intro v' h
   cases h with
   | agg hl' h=>
     refine .agg hl' fun j x q hx hq=>?_
     have hj:=(List.getElem?_eq_some_iff.1 hq).1
     exact ih j _ q (Array.getElem?_eq_getElem (by omega)) hq x (h j x q hx hq)
 | o0 hl _ ih=>
   intro v' h
   cases h with
   | o0 hl' h=>
     refine .o0 hl' fun j x q hx hq=>?_
     have hj:=(List.getElem?_eq_some_iff.1 hq).1
     exact ih j _ q (Array.getElem?_eq_getElem (by omega)) hq x (h j x q hx hq)
 | func hl hl' _ _ ih ih'=>
   intro v' h
   cases h with
   | func k k' h h'=>
     refine .func k k' (fun j x q hx hq=>?_) fun j x q hx hq=>?_
     ·have hj:=(List.getElem?_eq_some_iff.1 hq).1
      exact ih j _ q (Array.getElem?_eq_getElem (by omega)) hq x (h j x q hx hq)
     ·have hj:=(List.getElem?_eq_some_iff.1 hq).1
      exact ih' j _ q (Array.getElem?_eq_getElem (by omega)) hq x (h' j x q hx hq)
 | O5 b=>intro v' h;cases h with | O5 b=>exact .O5 b
 | yld hD _=>intro v' h;cases h with | yld _ h=>exact .yld hD h
 | mark v k=>intro v' _;exact .mark v' k
 | undef v=>intro v' _;exact .undef v'
theorem Core.restrict {B:Nat} {w0:World} {I0:v9} {c es:Nat} {rows:List (List PV)} (hc:Core B w0 I0 w I ι σ D) (hD:D c) (hc':Core B w0 I0 w' I' ι' (m0 σ [(c,some (.arr es rows false))]) D'):
 Core B w0 I0 w' I' ι' (m0 σ [(c,some (.arr es rows false))]) D:=by
 obtain ⟨hs,b1,b2,b3,b4⟩:=hc'
 have key:∀ b o,find (m0 σ [(c,some (.arr es rows false))]) b=some o→(b=c∧o= .arr es rows false)∨find σ b=some o:=by
  intro b o h
  simp only [m0,l6] at h
  by_cases e:b=c
  ·rw [if_pos e] at h;cases h;exact .inl ⟨e,rfl⟩
  ·rw [if_neg e] at h;exact .inr h
 refine ⟨⟨hs.bnd,fun b o h=>?_,hs.inj,hs.ge,hs.sep,fun b o h=>?_⟩,b1,b2,b3,b4⟩
 ·rcases key b o h with ⟨rfl,_⟩ | h
  ·exact hD
  ·exact hc.u6.dom b o h
 ·have hob:=hs.obj b o h
  have rowsR:(∀ (i:Nat) (row:List AV) (j:Nat) (v:AV),o.row? i=some row→row[j]?=some v→∀ x,e8 w' I' ι' (m0 σ [(c,some (.arr es rows false))]) D' x v→e8 w' I' ι' (m0 σ [(c,some (.arr es rows false))]) D x v)→
   D6 w' I' ι' (m0 σ [(c,some (.arr es rows false))]) D' b o→D6 w' I' ι' (m0 σ [(c,some (.arr es rows false))]) D b o:=by
   intro hv
   rintro (h | ⟨r,cs,T,fz,h1,h2,h3,h4,h5⟩)
   ·exact .inl h
   ·refine .inr ⟨r,cs,T,fz,h1,h2,h3,h4,fun i row hrow=>⟨(h5 i row hrow).1,fun j v hj=>?_⟩⟩
    obtain ⟨x,hx,hrep⟩:=(h5 i row hrow).2 j v hj
    exact ⟨x,hx,hrep.1,hv i row j v hrow hj x hrep.2⟩
  have pureR:∀ (e:Nat) (rs:List (List PV)) (sl:Bool),o= .arr e rs sl→D6 w' I' ι' (m0 σ [(c,some (.arr es rows false))]) D b o:=by
   intro e rs sl ho
   subst ho
   refine rowsR (fun i row j v hrow hj x hx=>?_) hob
   simp only [d9.row?] at hrow
   split at hrow
   ·cases hrow
    rw [List.getElem?_map,Option.map_eq_some_iff] at hj
    obtain ⟨p,_,rfl⟩:=hj
    cases hx with
    | pv h=>exact .pv h
   ·cases hrow
  rcases key b o h with ⟨rfl,rfl⟩ | hold
  ·exact pureR _ _ _ rfl
  ·have hob0:=hc.u6.obj b o hold
   cases o with
   | arr e rs sl=>exact pureR _ _ _ rfl
   | box e rs sl=>
     refine rowsR (fun i row j v hrow hj x hx=>?_) hob
     rcases hob0 with ⟨_,h2⟩ | ⟨r,cs,T,fz,h1,h2,h3,h4,h5⟩
     ·simp only [d9.row?] at hrow
      simp only [d9.len,List.length_eq_zero_iff] at h2
      subst h2
      simp at hrow
     ·obtain ⟨x0,_,hrep⟩:=(h5 i row hrow).2 j v hj
      exact hrep.2.restrict x hx
   | map ents=>
     obtain ⟨r,es',clock,h1,h2,h3,h4⟩:=hob
     obtain ⟨r0,es0,clock0,g1,g2,g3,g4⟩:=hob0
     refine ⟨r,es',clock,h1,h2,fun e he=>?_,h4⟩
     obtain ⟨k,v,k1,k2,k3⟩:=h3 e he
     obtain ⟨e0,he0,ke⟩:=g4 k v k2
     obtain ⟨k0,v0,l1,l2,l3⟩:=g3 e0 he0
     have hkk:k=k0:=by
      rw [ke] at l1
      simpa using l1
     subst hkk
     rw [k2] at l2
     cases l2
     exact ⟨k,v,k1,k2,l3.restrict _ k3⟩
end
def delRest (es bytes:Nat) (zero:List PV):RC:=.seq (.b6 [⟨some 18,.mv (.t 0),none,0⟩,⟨some 19,.l8 (.t 18),none,1⟩,⟨some 7,.mv (.t 19),none,3⟩] false)
 (.seq (.b6 [⟨some 20,.mv (.t 0),none,0⟩,⟨some 21,.mv (.t 1),none,0⟩,⟨some 22,.slice es (.t 20) none (some (.t 21)) none,none,3⟩,⟨some 23,.mv (.t 0),none,0⟩,⟨some 24,.mv (.t 2),none,0⟩,⟨some 25,.slice es (.t 23) (some (.t 24)) none none,none,24⟩,⟨some 26,.append es bytes (.t 22) (.t 25),none,63⟩,⟨some 0,.mv (.t 26),none,127⟩] true)
 (.seq (.b6 [⟨some 27,.mv (.t 0),none,0⟩,⟨some 28,.mv (.t 0),none,0⟩,⟨some 29,.l8 (.t 28),none,2⟩,⟨some 30,.mv (.t 7),none,0⟩,⟨some 31,.slice es (.t 27) (some (.t 29)) (some (.t 30)) none,none,15⟩,⟨none,.clear es zero (.t 31),none,31⟩] false)
 (.seq (.b6 [⟨some 32,.mv (.t 0),none,0⟩,⟨some 6,.mv (.t 32),none,1⟩] false)
 (.ret))))
def deleteC (es bytes:Nat) (zero:List PV):n6:=⟨3,33,[.tmp 6],
 .seq (.b6 [⟨some 6,.mv (.c (.emp es)),none,0⟩] false)
 (.seq (.b6 [⟨some 8,.mv (.t 0),none,0⟩,⟨some 9,.mv (.t 1),none,0⟩,⟨some 10,.mv (.t 2),none,0⟩,⟨some 11,.mv (.t 0),none,0⟩,⟨some 12,.l8 (.t 11),none,8⟩,⟨some 13,.slice es (.t 8) (some (.t 9)) (some (.t 10)) (some (.t 12)),none,31⟩] false)
 (.seq (.seq (.b6 [⟨some 14,.mv (.t 1),none,0⟩,⟨some 15,.mv (.t 2),none,0⟩,⟨some 16,.bin .eql (.t 14) (.t 15),none,3⟩] false)
 (.cond (.t 16)
  (.seq (.b6 [⟨some 17,.mv (.t 0),none,0⟩,⟨some 6,.mv (.t 17),none,1⟩] false)
  (.ret))
  (.skip)))
 (delRest es bytes zero)))⟩
def c2w (zero:List PV) (rows:List (List PV)) (i j:Nat):List (List PV):=rows.take i++rows.drop j++List.replicate (j - i) zero
def c2x (es:Nat) (zero:List PV):List AV→b7→Option (AV × Nat × Nat × List (List PV))
 | [.own b 0 n,.pv (.int .i64 (.ofNat i)),.pv (.int .i64 (.ofNat j))],σ=>match find σ b with
   | some (.arr es' rows false)=>if es'=es∧rows.length=n∧i≤j∧j≤n∧zero.length=es then some (.own b 0 (n - (j - i)),b,es,c2w zero rows i j) else none
   | _=>none
 | _,_=>none
theorem deleteE_spec {es:Nat} {zero:List PV} {args:List AV} {σ:b7} {v:AV} {c e:Nat} {rows':List (List PV)} (h:c2x es zero args σ=some (v,c,e,rows')):
 ∃ (n i j:Nat) (rows:List (List PV)),args=[.own c 0 n,.pv (.int .i64 (.ofNat i)),.pv (.int .i64 (.ofNat j))]∧find σ c=some (.arr es rows false)∧rows.length=n∧i≤j∧j≤n∧zero.length=es∧e=es∧v= .own c 0 (n - (j - i))∧rows'=c2w zero rows i j:=by
 unfold c2x at h
 split at h
 ·split at h
  ·rename_i b n i j _ es' rows hf
   split at h
   ·rename_i hc
    cases h
    exact ⟨n,i,j,rows,rfl,by rw [← hc.1];exact hf,hc.2.1,hc.2.2.1,hc.2.2.2.1,hc.2.2.2.2,rfl,rfl,rfl⟩
   ·cases h
  ·cases h
 ·cases h
def deletePrim (es:Nat) (zero:List PV):b7s where
 run:=c2x es zero
 frame:=by
  intro args σ σ' v c e rows h hf
  obtain ⟨n,i,j,rows,rfl,h1,rfl,h2,h3,h4,rfl,rfl,rfl⟩:=deleteE_spec h
  simp only [c2x,hf,h1]
  rw [if_pos ⟨trivial,trivial,h2,h3,h4⟩]
theorem get_set_if {t:T} {n m:Nat} {v:AV} (hn:n<1024) (hm:m<1024):(t.set d7 n v).get d7 m=if m=n then v else t.get d7 m:=by
 by_cases h:m=n
 ·subst h;rw [if_pos rfl,T0]
 ·rw [if_neg h,a1x hn hm h]
theorem opsW_step {G:Gl} {Ok:Nat→List PV→Own→PV→Prop} {r:m7} {l:List m7} {nm:Nat} {recs:List Rec} {st:St} {K:St→Prop} (hg:r.guard=none) (hc:∀ f args,r.op≠ .call f args) {e:l7} (he:step st.σ nm (st.ev G) r.op=some e)
 (h:b5J G Ok true l (nm+g9) (recs++[b2w (st.ev G) r.op e r.pre]) (D5 st r.dst e.v (m0 st.σ e.up)) K):b5J G Ok true (r::l) nm recs st K:=by
 simp only [b5J,j7]
 unfold a8Z
 rw [hg]
 simp only
 unfold opW
 split
 ·rename_i f args hop;exact absurd hop (hc f args)
 ·obtain ⟨tm,σ,nx,nt⟩:=st
  simp only at he
  simp only [he,H0,I3]
  exact h
theorem delRows_eq {zero:List PV} {rows:List (List PV)} {i j:Nat} (h1:i≤j) (h2:j≤rows.length):
 (rows.take i++(rows.drop j).take (rows.length - j)++rows.drop (i+(rows.length - j))).take (i+(rows.length - j))++List.replicate (j - i) zero++(rows.take i++(rows.drop j).take (rows.length - j)++rows.drop (i+(rows.length - j))).drop (i+(rows.length - j)+(j - i))=c2w zero rows i j:=by
 have e1:(rows.drop j).take (rows.length - j)=rows.drop j:=List.take_of_length_le (by simp)
 have e2:(rows.take i++rows.drop j).length=i+(rows.length - j):=by simp;omega
 rw [e1,List.take_append_of_le_length (by rw [e2];omega),List.take_of_length_le (by rw [e2];omega)]
 have e3:(rows.take i++rows.drop j++rows.drop (i+(rows.length - j))).drop (i+(rows.length - j)+(j - i))=[]:=by
  apply List.drop_of_length_le
  simp;omega
 rw [e3,List.append_nil]
 rfl
theorem delete_run {G:Gl} {Ok:Nat→List PV→Own→PV→Prop} {E:Env} {es bytes:Nat} {zero:List PV} {b n i j:Nat} {rows:List (List PV)} {σ:b7} {nx:Nat} {K:AV→b7→Nat→Prop}
 (hf:find σ b=some (.arr es rows false)) (hn:rows.length=n) (hij:i≤j) (hjn:j≤n) (hz:zero.length=es)
 (hK:∀ σ' nx',(∀ b',find σ' b'=find (m0 σ [(b,some (.arr es (c2w zero rows i j) false))]) b')→K (.own b 0 (n - (j - i))) σ' nx'):
 aw G Ok (deleteC es bytes zero).body false E (b0s G [.tmp 6] K) ⟨a2u 0 [.own b 0 n,.pv (.int .i64 i),.pv (.int .i64 j)] .nil,σ,nx,33⟩:=by
 have second:∀ (tm:T) (nx:Nat),i<j→tm.get d7 0= .own b 0 n→tm.get d7 1= .pv (.int .i64 i)→tm.get d7 2= .pv (.int .i64 j)→
  aw G Ok (delRest es bytes zero) false E (b0s G [.tmp 6] K) ⟨tm,σ,nx,33⟩:=by
  intro tm nx hlt h0 h1 h2
  have hlen:(rows.take i++(rows.drop j).take (rows.length - j)++rows.drop (i+(rows.length - j))).length=n:=by simp;omega
  simp only [delRest,aw,j7]
  refine a0r (e:={v:=.own b 0 n}) rfl (by intro f args e;cases e) (by simp [step,l7.of,St.ev,D5,get_set_if,m0,a2u,h0,h1,h2]) ?_
  refine a0r (e:={v:=.pv (.int .i64 (n:Int)),rd:=[b]}) rfl (by intro f args e;cases e) (by simp [step,l7.of,St.ev,D5,get_set_if,m0,a2u,h0,h1,h2,AV.e,hf]) ?_
  refine a0r (e:={v:=.pv (.int .i64 (n:Int))}) rfl (by intro f args e;cases e) (by simp [step,l7.of,St.ev,D5,get_set_if,m0,a2u,h0,h1,h2]) ?_
  simp only [a9u,Ex.then,D5,m0]
  refine opsW_step (e:={v:=.own b 0 n}) rfl (by intro f args e;cases e) (by simp [step,l7.of,St.ev,D5,get_set_if,m0,a2u,h0,h1,h2]) ?_
  refine opsW_step (e:={v:=.pv (.int .i64 (i:Int))}) rfl (by intro f args e;cases e) (by simp [step,l7.of,St.ev,D5,get_set_if,m0,a2u,h0,h1,h2]) ?_
  refine opsW_step (e:={v:=.own b 0 i,rd:=[b]}) rfl (by intro f args e;cases e) (by simp [step,l7.of,St.ev,D5,get_set_if,m0,a2u,h0,h1,h2,AV.e,hf,j4,idxOf,d9.len,d9.es];omega) ?_
  refine opsW_step (e:={v:=.own b 0 n}) rfl (by intro f args e;cases e) (by simp [step,l7.of,St.ev,D5,get_set_if,m0,a2u,h0,h1,h2]) ?_
  refine opsW_step (e:={v:=.pv (.int .i64 (j:Int))}) rfl (by intro f args e;cases e) (by simp [step,l7.of,St.ev,D5,get_set_if,m0,a2u,h0,h1,h2]) ?_
  refine opsW_step (e:={v:=.own b j (rows.length - j),rd:=[b]}) rfl (by intro f args e;cases e) (by simp [step,l7.of,St.ev,D5,get_set_if,m0,a2u,h0,h1,h2,AV.e,hf,j4,idxOf,d9.len,d9.es];omega) ?_
  refine opsW_step (e:={v:=.own b 0 (i+(rows.length - j)),rd:=[b,b],up:=[(b,some (.arr es (rows.take i++(rows.drop j).take (rows.length - j)++rows.drop (i+(rows.length - j))) false))]}) rfl (by intro f args e;cases e) (by simp [step,l7.of,St.ev,D5,get_set_if,m0,a2u,h0,h1,h2,AV.e,hf,l4];rw [if_neg (by omega),if_pos ⟨by omega,by omega⟩]) ?_
  refine opsW_step (e:={v:=.own b 0 (i+(rows.length - j))}) rfl (by intro f args e;cases e) (by simp [step,l7.of,St.ev,D5,get_set_if,m0,a2u,h0,h1,h2]) ?_
  simp only [b5J]
  have hcomp:∀ r,r=true→(match r with | true=>True | false=>False):=fun r h=>by subst h;trivial
  rw [show e9 [] _=true from by simp [e9,a2X,Rec.a1Z,meets,Rec.a4S,b2w,Nat.testBit]]
  simp only [Ex.then,D5,m0]
  refine a0r (e:={v:=.own b 0 (i+(rows.length - j))}) rfl (by intro f args e;cases e) (by simp [step,l7.of,St.ev,D5,get_set_if,m0,a2u,h0,h1,h2]) ?_
  refine a0r (e:={v:=.own b 0 (i+(rows.length - j))}) rfl (by intro f args e;cases e) (by simp [step,l7.of,St.ev,D5,get_set_if,m0,a2u,h0,h1,h2]) ?_
  refine a0r (e:={v:=.pv (.int .i64 ((i+(rows.length - j)):Nat)),rd:=[b]}) rfl (by intro f args e;cases e) (by simp [step,l7.of,St.ev,D5,get_set_if,m0,a2u,h0,h1,h2,AV.e,l6]) ?_
  refine a0r (e:={v:=.pv (.int .i64 (n:Int))}) rfl (by intro f args e;cases e) (by simp [step,l7.of,St.ev,D5,get_set_if,m0,a2u,h0,h1,h2]) ?_
  refine a0r (e:={v:=.own b (i+(rows.length - j)) (j - i),rd:=[b]}) rfl (by intro f args e;cases e) (by simp [step,l7.of,St.ev,D5,get_set_if,m0,a2u,h0,h1,h2,AV.e,l6,j4,idxOf,d9.len,d9.es];omega) ?_
  refine a0r (e:={v:=.o0 [],rd:=[b],up:=[(b,some (.arr es ((rows.take i++(rows.drop j).take (rows.length - j)++rows.drop (i+(rows.length - j))).take (i+(rows.length - j))++List.replicate (j - i) zero++(rows.take i++(rows.drop j).take (rows.length - j)++rows.drop (i+(rows.length - j))).drop ((i+(rows.length - j))+(j - i))) false))]}) rfl (by intro f args e;cases e) (by simp [step,l7.of,St.ev,D5,get_set_if,m0,a2u,h0,h1,h2,l6];omega) ?_
  simp only [a9u,Ex.then,D5,m0]
  refine a0r (e:={v:=.own b 0 (i+(rows.length - j))}) rfl (by intro f args e;cases e) (by simp [step,l7.of,St.ev,D5,get_set_if,m0,a2u,h0,h1,h2]) ?_
  refine a0r (e:={v:=.own b 0 (i+(rows.length - j))}) rfl (by intro f args e;cases e) (by simp [step,l7.of,St.ev,D5,get_set_if,m0,a2u,h0,h1,h2]) ?_
  simp only [a9u,Ex.then,b0s,Y3,c0T,St.ev,D5,E3,a5d,m0,T0]
  have e:i+(rows.length - j)=n - (j - i):=by omega
  rw [e]
  refine hK _ _ fun b'=>?_
  rw [← e,delRows_eq hij (by omega)]
  simp only [l6,m0]
  by_cases hb:b'=b <;>simp [hb]
 simp only [deleteC,aw,j7]
 refine a0r (e:={v:=.emp es}) rfl (by intro f args e;cases e) (by simp [step,l7.of,St.ev,D5,get_set_if,m0,a2u]) ?_
 simp only [a9u,Ex.then,D5,m0]
 refine a0r (e:={v:=.own b 0 n}) rfl (by intro f args e;cases e) (by simp [step,l7.of,St.ev,D5,get_set_if,m0,a2u]) ?_
 refine a0r (e:={v:=.pv (.int .i64 (i:Int))}) rfl (by intro f args e;cases e) (by simp [step,l7.of,St.ev,D5,get_set_if,m0,a2u]) ?_
 refine a0r (e:={v:=.pv (.int .i64 (j:Int))}) rfl (by intro f args e;cases e) (by simp [step,l7.of,St.ev,D5,get_set_if,m0,a2u]) ?_
 refine a0r (e:={v:=.own b 0 n}) rfl (by intro f args e;cases e) (by simp [step,l7.of,St.ev,D5,get_set_if,m0,a2u]) ?_
 refine a0r (e:={v:=.pv (.int .i64 (n:Int)),rd:=[b]}) rfl (by intro f args e;cases e) (by simp [step,l7.of,St.ev,D5,get_set_if,m0,a2u,AV.e,hf]) ?_
 refine a0r (e:={v:=.own b i (j - i),rd:=[b]}) rfl (by intro f args e;cases e) (by simp [step,l7.of,St.ev,D5,get_set_if,m0,a2u,AV.e,hf,j4,idxOf,d9.len,d9.es];omega) ?_
 simp only [a9u,Ex.then,D5,m0]
 refine a0r (e:={v:=.pv (.int .i64 (i:Int))}) rfl (by intro f args e;cases e) (by simp [step,l7.of,St.ev,D5,get_set_if,m0,a2u]) ?_
 refine a0r (e:={v:=.pv (.int .i64 (j:Int))}) rfl (by intro f args e;cases e) (by simp [step,l7.of,St.ev,D5,get_set_if,m0,a2u]) ?_
 refine a0r (e:={v:=.pv (.bool ((i:Int)==(j:Int)))}) rfl (by intro f args e;cases e) (by simp [step,l7.of,St.ev,D5,get_set_if,m0,a2u,binop]) ?_
 simp only [a9u,Ex.then,D5,m0,St.ev,T0]
 by_cases hlt:i<j
 ·have hb:((i:Int)==(j:Int))=false:=by simp;omega
  rw [hb]
  simp only [b5f]
  refine second _ _ hlt ?_ ?_ ?_ <;>simp [get_set_if,a2u]
 ·have hb:((i:Int)==(j:Int))=true:=by simp;omega
  rw [hb]
  simp only [b5f]
  refine a0r (e:={v:=.own b 0 n}) rfl (by intro f args e;cases e) (by simp [step,l7.of,St.ev,D5,get_set_if,m0,a2u]) ?_
  refine a0r (e:={v:=.own b 0 n}) rfl (by intro f args e;cases e) (by simp [step,l7.of,St.ev,D5,get_set_if,m0,a2u]) ?_
  simp only [a9u,Ex.then,b0s,Y3,c0T,St.ev,D5,E3,a5d,m0,T0]
  have hij':i=j:=by omega
  subst hij'
  have e:n - (i - i)=n:=by omega
  rw [e] at hK
  refine hK _ _ fun b'=>?_
  simp only [m0,l6,c2w,Nat.sub_self,List.replicate_zero,List.append_nil,List.take_append_drop]
  by_cases hb:b'=b
  ·subst hb;simp [hf]
  ·simp [hb]
theorem delete_ok {P:Program} (hm:P.follows .mixedOrders=true) {g es bytes:Nat} {zero:List PV} (hk:d8 P g (deleteC es bytes zero)=true):c2o P g (deletePrim es zero):=by
 intro args σ v c es' rows' h B w0 I0 gs w I ι D vs hc ⟨m,hD⟩ hl ha hgs
 obtain ⟨n,i,j,rows,rfl,hf,hn,hij,hjn,hz,rfl,rfl,rfl⟩:=deleteE_spec h
 have hin:=(a1O (G:=⟨fun _=>none,fun _=>none⟩) hm (ext:=fun _=>none) (fun g h e=>by cases e) (tab:=fun g'=>if g'=g then some (deleteC es' bytes zero) else none) (x9:=fun _=>none) (fun g' c e=>by
  split at e
  ·rename_i hg;cases e;subst hg;exact hk
  ·cases e) (fun _ _ e=>by cases e) 1).1 g _ (by simp only [M0,if_true];rfl)
 have:=hin [.own c 0 n,.pv (.int .i64 i),.pv (.int .i64 j)] σ m (fun av σ' nx'=>av= .own c 0 (n - (j - i))∧∀ b',find σ' b'=find (m0 σ [(c,some (.arr es' (c2w zero rows i j) false))]) b') (by
  split
  ·rw [a2V];exact delete_run hf hn hij hjn hz fun σ' nx' h=>⟨rfl,h⟩
  ·rename_i hn;simp [deleteC] at hn) B w0 I0 gs w I ι D vs hc hD ⟨fun _ _ h=>(by cases h),fun _ _ h=>(by cases h)⟩ hl ha hgs
 refine ⟨this.1,CallsIn.mono this.2 fun e w' he=>?_⟩
 cases e with
 | returned v=>
   obtain ⟨av,σ',nx',I',ι',D',⟨rfl,hσ⟩,hc',hle,hD',hrep,hgl',hgs',hst⟩:=he
   obtain ⟨hS,hL⟩:=hc'.u6.congr (σ':=m0 σ [(c,some (.arr es' (c2w zero rows i j) false))]) fun b=>(hσ b).symm
   have hc'':Core B w0 I0 w' I' ι' (m0 σ [(c,some (.arr es' (c2w zero rows i j) false))]) D':=⟨hS,hc'.below,hc'.hB,hc'.ext,hc'.old⟩
   have hDc:D c:=hc.u6.dom c _ hf
   refine ⟨I',ι',hc.restrict hDc hc'',?_,fun x a hx=>(hgs x a hx).restrict x ((hgs' x a hx).mono hL),hst⟩
   cases hrep.mono hL with
   | own _ h1 h=>exact .own hDc h1 h
 | panicked ch=>exact he.elim
 | outgrown=>exact he.elim
end Go.Ab
namespace Go.Ab
open Go.RowKit
end Go.Ab
namespace Go.Ab
def b8u:List UInt8→List UInt8→Bool
 | [],[]=>true
 | a::l,b::m=>Nat.beq a.toNat b.toNat&&b8u l m
 | _,_=>false
theorem b7B:∀ {l m:List UInt8},b8u l m=true→l=m
 | [],[],_=>rfl
 | a::l,b::m,h=>by
   simp only [b8u,Bool.and_eq_true] at h
   rw [UInt8.toNat_inj.1 (Nat.eq_of_beq_eq_true h.1),b7B h.2]
 | [],_::_,h=>by simp [b8u] at h
 | _::_,[],h=>by simp [b8u] at h
mutual
def eqP:PV→PV→Bool
 | .bool a,q=>(match q with | .bool b=>(match a,b with | true,true=>true | false,false=>true | _,_=>false) | _=>false)
 | .int k a,q=>(match q with | .int k' b=>decide (k=k')&&decide (a=b) | _=>false)
 | .str a,q=>(match q with | .str b=>b8u a b | _=>false)
 | .sl e r,q=>(match q with | .sl e' r'=>Nat.beq e e'&&eqR r r' | _=>false)
 | .ref a,q=>(match q with | .ref b=>eqL a b | _=>false)
 | .agg a,q=>(match q with | .agg b=>eqL a b | _=>false)
 | .o0 a,q=>(match q with | .o0 b=>eqL a b | _=>false)
 | .emp a,q=>(match q with | .emp b=>Nat.beq a b | _=>false)
 | .nilFunc,q=>(match q with | .nilFunc=>true | _=>false)
 | .func _ _ _,_=>false
def eqL:List PV→List PV→Bool
 | [],q=>(match q with | []=>true | _=>false)
 | a::l,q=>(match q with | b::m=>eqP a b&&eqL l m | _=>false)
def eqR:List (List PV)→List (List PV)→Bool
 | [],q=>(match q with | []=>true | _=>false)
 | a::l,q=>(match q with | b::m=>eqL a b&&eqR l m | _=>false)
end
mutual
theorem c0d:∀ (p q:PV),eqP p q=true→p=q
 | .bool a,q,h=>by
   simp only [eqP] at h
   split at h
   ·split at h <;>first | rfl | cases h
   ·cases h
 | .int k a,q,h=>by
   simp only [eqP] at h
   split at h
   ·simp only [Bool.and_eq_true,decide_eq_true_eq] at h;rw [h.1,h.2]
   ·cases h
 | .str a,q,h=>by
   simp only [eqP] at h
   split at h
   ·rw [b7B h]
   ·cases h
 | .sl e r,q,h=>by
   simp only [eqP] at h
   split at h
   ·simp only [Bool.and_eq_true] at h
    rw [Nat.eq_of_beq_eq_true h.1,c0e _ _ h.2]
   ·cases h
 | .ref a,q,h=>by
   simp only [eqP] at h
   split at h
   ·rw [b1I _ _ h]
   ·cases h
 | .agg a,q,h=>by
   simp only [eqP] at h
   split at h
   ·rw [b1I _ _ h]
   ·cases h
 | .o0 a,q,h=>by
   simp only [eqP] at h
   split at h
   ·rw [b1I _ _ h]
   ·cases h
 | .emp a,q,h=>by
   simp only [eqP] at h
   split at h
   ·rw [Nat.eq_of_beq_eq_true h]
   ·cases h
 | .nilFunc,q,h=>by
   simp only [eqP] at h
   split at h
   ·rfl
   ·cases h
 | .func _ _ _,q,h=>by simp [eqP] at h
theorem b1I:∀ (p q:List PV),eqL p q=true→p=q
 | [],q,h=>by
   simp only [eqL] at h
   split at h
   ·rfl
   ·cases h
 | a::l,q,h=>by
   simp only [eqL] at h
   split at h
   ·simp only [Bool.and_eq_true] at h
    rw [c0d _ _ h.1,b1I _ _ h.2]
   ·cases h
theorem c0e:∀ (p q:List (List PV)),eqR p q=true→p=q
 | [],q,h=>by
   simp only [eqR] at h
   split at h
   ·rfl
   ·cases h
 | a::l,q,h=>by
   simp only [eqR] at h
   split at h
   ·simp only [Bool.and_eq_true] at h
    rw [b1I _ _ h.1,c0e _ _ h.2]
   ·cases h
end
def kn0:Nat→List PV→Option (Own × PV):=fun _ _=>none
def isR (own:Own) (r:PV) (o:Option (Own × PV)):Bool:=match o with
 | some (own',r')=>decide (own=own')&&eqP r' r
 | none=>false
theorem b6C {own:Own} {r:PV} {o:Option (Own × PV)} (h:isR own r o=true):o=some (own,r):=by
 unfold isR at h
 split at h
 ·simp only [Bool.and_eq_true,decide_eq_true_eq] at h
  rw [c0d _ _ h.2,h.1]
 ·cases h
end Go.Ab
namespace Go.Ab
open Go.RowKit
theorem D9 {A B:Prop} {b:Bool} (hb:b=false) (h:B):(match (generalizing:=false) b with | true=>A | false=>B):=by subst hb;exact h
theorem v8 {A B:Prop} {b:Bool} (hb:b=true) (h:A):(match (generalizing:=false) b with | true=>A | false=>B):=by subst hb;exact h
theorem j6 {o:Option l7} {e:l7} {K:l7→Prop} (h:o=some e) (hK:K e):(match (generalizing:=false) o with | some e=>K e | none=>False):=by subst h;exact hK
theorem wrap_small {v:Int} (h1: -9223372036854775808≤v) (h2:v<9223372036854775808):IntKind.i64.wrap v=v:=by
 show (if (true&&decide (v % (2 ^ 64:Int)≥(2 ^ 63:Int)))=true then v % (2 ^ 64:Int) - (2 ^ 64:Int) else v % (2 ^ 64:Int))=v
 by_cases h:0≤v
 ·have e:v % (2 ^ 64:Int)=v:=by omega
  have e2:decide (v≥(2 ^ 63:Int))=false:=by simp;omega
  simp only [e,e2,Bool.and_false,Bool.false_eq_true,if_false]
 ·have e:v % (2 ^ 64:Int)=v+(2 ^ 64:Int):=by omega
  have e2:decide (v+(2 ^ 64:Int)≥(2 ^ 63:Int))=true:=by simp;omega
  simp only [e,e2,Bool.and_self,if_true]
  omega
theorem e7 {σ:b7} {nm es:Nat} {ev:RA→AV} {x i:RA} {rows:List (List PV)} {j:Int} {r:List PV} (hx:ev x= .pv (.sl es rows)) (hi:ev i= .pv (.int .i64 j)) (h0:0≤j) (hr:rows[j.toNat]?=some r):
 step σ nm ev (.i6 es x i)=some {v:=.pv (.ref r)}:=by
 simp [step,step.iaddrP,l7.of,hx,hi,idxOf,h0,hr]
theorem b1C {σ:b7} {nm es bytes c:Nat} {ev:RA→AV} {s x:RA} {b:Nat} {L xs:List (List PV)} {rd:List Nat} (hs:ev s= .own b 0 c) (hc:L.length=c) (hf:find σ b=some (.arr es L false)) (hx:l4 σ es (ev x)=some (xs,rd)) (hb:(c+xs.length)*bytes≤2 ^ 40):
 step σ nm ev (.append es bytes s x)=some {v:=.own nm 0 (c+xs.length),rd:=b::rd,up:=[(b,none),(nm,some (.arr es (L++xs) false))]}:=by
 simp only [step,hs,AV.e,hf,hc,and_self,if_true,hx]
 rw [if_pos hb]
theorem X1 {σ:b7} {nm:Nat} {ev:RA→AV} {x y:RA} {k:IntKind} {a b:Int} (hx:ev x= .pv (.int k a)) (hy:ev y= .pv (.int k b)) (hb:b≠0):step σ nm ev (.bin .rem x y)=some {v:=.pv (.int k (a.tmod b))}:=by
 simp only [step,hx,hy,binop,if_true,l7.of]
 rw [if_neg hb]
theorem a9Y {σ:b7} {nm es c:Nat} {ev:RA→AV} {x i:RA} {b:Nat} {rows:List (List PV)} {sl:Bool} {j:Int} (hx:ev x= .own b 0 c) (hi:ev i= .pv (.int .i64 j)) (hf:find σ b=some (.arr es rows sl)) (h0:0≤j) (h1:j<c):
 step σ nm ev (.i6 es x i)=some {v:=.ptr b j.toNat 0,rd:=[b]}:=by
 simp [step,hx,hi,idxOf,hf,h0,h1,d9.es]
theorem b5w {σ:b7} {nm es:Nat} {ev:RA→AV} {x:RA} {b i:Nat} {rows:List (List PV)} {sl:Bool} {p:PV} (hx:ev x= .ptr b i 0) (hf:find σ b=some (.arr es rows sl)) (hr:rows[i]?=some [p]):
 step σ nm ev (.load false 1 x)=some {v:=.pv p,rd:=[b]}:=by
 simp [step,hx,hf,d9.row?,hr,a2y]
theorem w9 {X:St→Prop} {live:List Nat} {f:St→Prop} (hX:∀ s,a6F live s f→X s):∀ s,f (norm live s)→X s:=fun s h=>hX s (by rw [a6G];exact h)
end Go.Ab
namespace Go.Ab
open Go.RowKit
inductive PV.le:PV→PV→Prop
 | refl (p:PV):PV.le p p
 | emp (es:Nat):PV.le (.emp es) (.sl es [])
 | sl {es:Nat} {rows rows':List (List PV)} (hl:rows.length=rows'.length) (hw:∀ (i:Nat) (r r':List PV),rows[i]?=some r→rows'[i]?=some r'→r.length=r'.length)
  (h:∀ (i:Nat) (r r':List PV) (j:Nat) (p q:PV),rows[i]?=some r→rows'[i]?=some r'→r[j]?=some p→r'[j]?=some q→PV.le p q):PV.le (.sl es rows) (.sl es rows')
 | agg {ps qs:List PV} (hl:ps.length=qs.length) (h:∀ (j:Nat) (p q:PV),ps[j]?=some p→qs[j]?=some q→PV.le p q):PV.le (.agg ps) (.agg qs)
 | o0 {ps qs:List PV} (hl:ps.length=qs.length) (h:∀ (j:Nat) (p q:PV),ps[j]?=some p→qs[j]?=some q→PV.le p q):PV.le (.o0 ps) (.o0 qs)
theorem z5.le {w:World} {I:v9} {p q:PV} (h:PV.le p q):∀ {v:Value},z5 w I v p→z5 w I v q:=by
 induction h with
 | refl p=>exact fun h=>h
 | emp es=>intro v h;cases h;exact b4K es
 | @sl es rows rows' hl hw _ ih=>
   intro v h
   cases h with
   | sl f k1 k2 k3 k4 k5=>
     have at':∀ (i:Nat) (r':List PV),rows'[i]?=some r'→∃ r,rows[i]?=some r∧r.length=r'.length:=by
      intro i r' h
      have hi:i<rows.length:=by rw [hl];exact (List.getElem?_eq_some_iff.1 h).1
      exact ⟨_,List.getElem?_eq_getElem hi,hw i _ r' (List.getElem?_eq_getElem hi) h⟩
     refine .sl f (hl ▸ k1) k2 (fun i r' h=>?_) (fun hne=>?_) (fun i j r' q h1 h2=>?_)
     ·obtain ⟨r,hr,he⟩:=at' i r' h
      exact he ▸ k3 i r hr
     ·obtain ⟨a,ha,hs,hx⟩:=k4 (fun e=>hne (List.length_eq_zero_iff.1 (by rw [← hl,e];rfl)))
      exact ⟨a,ha,hs,fun i j hi hj=>hx i j (hl ▸ hi) hj⟩
     ·obtain ⟨r,hr,he⟩:=at' i r' h1
      have hj:j<r.length:=by rw [he];exact (List.getElem?_eq_some_iff.1 h2).1
      exact ih i r r' j _ q hr h1 (List.getElem?_eq_getElem hj) h2 (k5 i j r _ hr (List.getElem?_eq_getElem hj))
 | agg hl _ ih=>
   intro v h
   cases h with
   | agg k1 k2=>
     refine .agg (k1.trans hl) fun j x q hx hq=>?_
     have hj:j<_:=(List.getElem?_eq_some_iff.1 hq).1
     rw [← hl] at hj
     exact ih j _ q (List.getElem?_eq_getElem hj) hq (k2 j x _ hx (List.getElem?_eq_getElem hj))
 | o0 hl _ ih=>
   intro v h
   cases h with
   | o0 k1 k2=>
     refine .o0 (k1.trans hl) fun j x q hx hq=>?_
     have hj:j<_:=(List.getElem?_eq_some_iff.1 hq).1
     rw [← hl] at hj
     exact ih j _ q (List.getElem?_eq_getElem hj) hq (k2 j x _ hx (List.getElem?_eq_getElem hj))
theorem le_of_eq {p q:PV} (h:p=q):PV.le p q:=h ▸ .refl p
inductive E6:List PV→List PV→Prop
 | nil:E6 [] []
 | cons {p q:PV} {ps qs:List PV} (h:PV.le p q) (t:E6 ps qs):E6 (p::ps) (q::qs)
theorem E6.refl:∀ l:List PV,E6 l l
 | []=>.nil
 | p::l=>.cons (.refl p) (E6.refl l)
theorem E6.len:∀ {ps qs:List PV},E6 ps qs→ps.length=qs.length
 | _,_,.nil=>rfl
 | _,_,.cons _ t=>by simp [t.len]
theorem E6.get:∀ {ps qs:List PV},E6 ps qs→∀ (j:Nat) (p q:PV),ps[j]?=some p→qs[j]?=some q→PV.le p q
 | _,_,.cons h _,0,p,q,h1,h2=>by simp at h1 h2;subst h1 h2;exact h
 | _,_,.cons _ t,j+1,p,q,h1,h2=>by simp at h1 h2;exact t.get j p q h1 h2
theorem o6 {ps qs:List PV} (h:E6 ps qs):PV.le (.agg ps) (.agg qs):=.agg h.len h.get
theorem p8 {ps qs:List PV} (h:E6 ps qs):PV.le (.o0 ps) (.o0 qs):=.o0 h.len h.get
inductive LeR:List (List PV)→List (List PV)→Prop
 | nil:LeR [] []
 | cons {r r':List PV} {rs rs':List (List PV)} (h:E6 r r') (t:LeR rs rs'):LeR (r::rs) (r'::rs')
theorem LeR.refl:∀ l:List (List PV),LeR l l
 | []=>.nil
 | p::l=>.cons (.refl p) (LeR.refl l)
theorem LeR.len:∀ {ps qs:List (List PV)},LeR ps qs→ps.length=qs.length
 | _,_,.nil=>rfl
 | _,_,.cons _ t=>by simp [t.len]
theorem LeR.get:∀ {ps qs:List (List PV)},LeR ps qs→∀ (j:Nat) (p q:List PV),ps[j]?=some p→qs[j]?=some q→E6 p q
 | _,_,.cons h _,0,p,q,h1,h2=>by simp at h1 h2;subst h1 h2;exact h
 | _,_,.cons _ t,j+1,p,q,h1,h2=>by simp at h1 h2;exact t.get j p q h1 h2
theorem LeR.append:∀ {a b c d:List (List PV)},LeR a b→LeR c d→LeR (a++c) (b++d)
 | _,_,_,_,.nil,h=>h
 | _,_,_,_,.cons h t,k=>.cons h (t.append k)
theorem c0v {es:Nat} {a b:List (List PV)} (h:LeR a b):PV.le (.sl es a) (.sl es b):=.sl h.len (fun i r r' h1 h2=>(h.get i r r' h1 h2).len) (fun i r r' j p q h1 h2=>(h.get i r r' h1 h2).get j p q)
section
variable {P:Program} {G:Gl}
theorem b4C {g:Nat} {ps qs:List PV} {own:Own} {r:PV} (h:l3 P G g qs own r) (hl:E6 ps qs):l3 P G g ps own r:=by
 intro w I vs hb hg ha
 refine h w I vs hb hg ⟨ha.1.trans hl.len,fun j x q hx hq=>?_⟩
 have hj:j<ps.length:=by rw [hl.len];exact (List.getElem?_eq_some_iff.1 hq).1
 exact (ha.2 j x _ hx (List.getElem?_eq_getElem hj)).le (hl.get j _ q (List.getElem?_eq_getElem hj) hq)
def c7P (G:Gl) (rs:List a7M) (r:PV) (e:Ex) (st:St):Prop:=
 match e with
 | .exit _=>False
 | _=>match Y3 G st rs with
   | some vs=>(match pub st.σ 8 (a5d vs) with
     | some (p,_)=>PV.le p r
     | none=>False)
   | none=>False
def fnV (G:Gl) (Ok:Nat→List PV→Own→PV→Prop) (ext:Nat→Option a2A) (tab x9:Nat→Option n6) (d:Nat) (f:n6) (args:List PV) (r:PV):Prop:=
 a8B 0 args .nil fun tm=>aw G Ok f.body true (M0 G Ok ext tab x9 d) (c7P G f.res r) {tm:=tm,σ:=[],nx:=0,nt:=f.ntmps}
theorem b3I {g:Nat} {c:n6} {ps:List PV} {r:PV} (hm:P.follows .mixedOrders=true) (hk:d8 P g c=true) {ext:Nat→Option a2A} (hext:a3H P G fun g=>(ext g).map a6c) {tab x9:Nat→Option n6} (htab:∀ g c,tab g=some c→d8 P g c=true) (htabI:∀ g c,x9 g=some c→S9 P g c=true) {d:Nat}
 (hl:ps.length=c.nparams) (h:fnV G (l3 P G) ext tab x9 d c ps r):l3 P G g ps [] r:=by
 obtain ⟨fn,code,hf⟩:=a1u hk
 intro w I vs hbnd hglob hargs
 refine ⟨hf.enter vs,callsIn_of_wp_marks hf.func hf.body trivial ?_⟩
 simp only [fnV,X4] at h
 rw [hf.nt]
 have hcore:Core w.heap.size w I w I (fun _=>none) [] (fun _=>False):=⟨⟨hbnd,fun b o h=>by simp [find] at h,fun b b' o o' r h=>by simp [find] at h,fun b o r h=>by simp [find] at h,fun b o r k h=>by simp [find] at h,fun b o h=>by simp [find] at h⟩,
  Below.refl _ _,Nat.le_refl _,fun _ _ h=>h,fun _ _ _ h=>h⟩
 have hsim:=a2Z (gs:=fun _ _=>False) (D0:=fun _=>True) (n0:=0) (a2q:=fun _ _=>False) (nx:=0) (as:=ps.map .pv) (vs:=vs) (nt:=c.ntmps) hcore (fun b h=>h.elim) hglob (by rw [List.length_map];exact hargs.1)
  (fun j x q hx hq=>by
   rw [List.getElem?_map,Option.map_eq_some_iff] at hq
   obtain ⟨p,hp,rfl⟩:=hq
   exact .pv (hargs.2 j x p hx hp)) (fun _ _ h=>h.elim) (fun b h=>h.elim) (Nat.le_refl _) (fun _ _ h=>h.elim) (by rw [List.length_map];have:=hf.np;omega) (by rw [List.length_map];have:=hf.np';omega)
 have hE:a3d P G (M0 G (l3 P G) ext tab x9 d) none w.heap.size w I Gh.top:=⟨(a1O hm hext htab htabI d).1,(a1O hm hext htab htabI d).2,(fun _ h=>by cases h),(fun b h e=>by cases d <;>simp [M0] at e),fun n h=>by cases d <;>simp [M0] at h⟩
 refine wpIn_mono (a4L (ro:=none) hE hm (fun _=>rfl) c.body code hf.code _ _ _ _ h hsim) fun e a w' he=>?_
 have fin:∀ s,(match Y3 G s c.res with | some vs=>(match pub s.σ 8 (a5d vs) with | some (p,_)=>PV.le p r | none=>False) | none=>False)→a1V P G w.heap.size w I .top c.ntmps s a w'→
  LeavesInM Fence.wide 0 P fn a.tmps (a4I w I [] r) a.defers .returning w':=by
  intro s hs ⟨_,_,I₁,ι,D,hx⟩
  split at hs
  ·rename_i vs' hvs
   split at hs
   ·rename_i p m hp
    obtain ⟨rs,m1,m2,m3⟩:=hx.dfs
    refine a1E (gh:=Gh.top) hf.res hvs rs a.defers w' m1 m2 m3 hx fun w₂ v hx hrep=>?_
    obtain ⟨hs',hL⟩:=z6.C3 hx.core.u6 m
    have hpv:=b1z (M:=m) hx.core.u6 8 _ _ _ _ hp (fun b h=>h) hrep
    refine ⟨P0 I₁ ι s.σ m,hx.core.below,fun a k h=>.inl (hx.core.ext a k h),fun a k hlt h=>?_,fun nm=>⟨fun _=>none,?_,.pv (hpv.le hs)⟩⟩
    ·rcases h with h | ⟨b,o,_,hf,_,hr,_⟩
     ·exact hx.core.old a k hlt h
     ·have:=hx.core.u6.ge b o a hf hr;omega
    ·exact ⟨hs'.bnd,fun b o h=>by simp [imp,m0,find] at h,fun b b' o o' r h=>by simp [imp,m0,find] at h,fun b o r h=>by simp [imp,m0,find] at h,fun b o r k h=>by simp [imp,m0,find] at h,fun b o h=>by simp [imp,m0,find] at h⟩
   ·exact hs.elim
  ·exact hs.elim
 cases e with
 | normal=>obtain ⟨s,hq,hs⟩:=he;exact fin s hq hs
 | ret=>obtain ⟨s,hq,hs⟩:=he;exact fin s hq hs
 | exit i=>obtain ⟨s,hq,hs⟩:=he;exact hq.elim
 | goto l=>exact he.elim
 | panic ch=>exact he.elim
 | outgrown=>exact he.elim
end
end Go.Ab
namespace Go.Ab
open Go.RowKit
section
variable {A B:Prop}
end
theorem c1a {σ:b7} {nm es:Nat} {ev:RA→AV} {x:RA} {lo hi:Option RA} {rows:List (List PV)} {l h:Int} (hx:ev x= .pv (.sl es rows)) (hl:j4 ev 0 lo=some l) (hh:j4 ev rows.length hi=some h) (h1:0≤l) (h2:l≤h) (h3:h≤rows.length):
 step σ nm ev (.slice es x lo hi none)=some {v:=.pv (.sl es ((rows.take h.toNat).drop l.toNat))}:=by
 simp only [step,hx,AV.e,if_true,step.sliceP,hl,hh,show j4 ev (rows.length:Int) none=some (rows.length:Int) from rfl]
 rw [if_pos ⟨h1,h2,h3,Int.le_refl _⟩]
 rfl
theorem c2N {σ:b7} {nm es:Nat} {ev:RA→AV} {x:RA} {lo hi:Option RA} {rows:List (List PV)} {l h:Int} (hx:ev x= .fsl es rows) (hl:j4 ev 0 lo=some l) (hh:j4 ev rows.length hi=some h) (h1:0≤l) (h2:l≤h) (h3:h≤rows.length):
 step σ nm ev (.slice es x lo hi none)=some {v:=.pv (.sl es ((rows.take h.toNat).drop l.toNat))}:=by
 simp only [step,hx,AV.e,if_true,step.sliceP,hl,hh,show j4 ev (rows.length:Int) none=some (rows.length:Int) from rfl]
 rw [if_pos ⟨h1,h2,h3,Int.le_refl _⟩]
 rfl
theorem c2O {σ:b7} {nm es:Nat} {ev:RA→AV} {x m:RA} {lo hi:Option RA} {rows:List (List PV)} {l h k:Int} (hx:ev x= .pv (.sl es rows)) (hl:j4 ev 0 lo=some l) (hh:j4 ev rows.length hi=some h) (hm:j4 ev rows.length (some m)=some k) (h1:0≤l) (h2:l≤h) (h3:h=k) (h4:k≤rows.length):
 step σ nm ev (.slice es x lo hi (some m))=some {v:=.fsl es ((rows.take h.toNat).drop l.toNat)}:=by
 subst h3
 simp [step,step.sliceP,l7.of,hx,AV.e,hl,hh,hm,h1,h2,h4]
theorem E5 {σ:b7} {nm:Nat} {ev:RA→AV} {x:RA} {lo hi:Option RA} {s:List UInt8} {l h:Int} (hx:ev x= .pv (.str s)) (hl:j4 ev 0 lo=some l) (hh:j4 ev s.length hi=some h) (h1:0≤l) (h2:l≤h) (h3:h≤s.length):
 step σ nm ev (.a4G x lo hi)=some {v:=.pv (.str ((s.take h.toNat).drop l.toNat))}:=by
 simp [step,l7.of,hx,hl,hh,h1,h2,h3]
theorem b6o {σ:b7} {nm es bytes:Nat} {ev:RA→AV} {s x:RA} {e:Nat} {xs:List (List PV)} {rd:List Nat} (hs:(ev s).e= .emp e) (hr:rowsOf σ es (ev x)=some (xs.map (·.map .pv),rd)) (hb:xs.length*bytes≤2 ^ 40):
 step σ nm ev (.append es bytes s x)=some {v:=.own nm 0 xs.length,rd:=rd,up:=[(nm,some (mkObj es (xs.map (·.map .pv))))]}:=by
 simp only [step,hs,hr,List.length_map]
 rw [if_pos hb]
theorem b9O {σ:b7} {nm es bytes:Nat} {ev:RA→AV} {s x:RA} {rows xs:List (List PV)} {rd:List Nat} (hs:ev s= .fsl es rows) (hx:l4 σ es (ev x)=some (xs,rd)) (hb:(rows.length+xs.length)*bytes≤2 ^ 40):
 step σ nm ev (.append es bytes s x)=some {v:=.pv (.sl es (rows++xs)),rd:=rd}:=by
 simp only [step,hs,AV.e,hx]
 rw [if_pos ⟨hb,trivial⟩]
theorem b9P {σ:b7} {nm es bytes c:Nat} {ev:RA→AV} {s x:RA} {b:Nat} {L xs:List (List PV)} {sl:Bool} {rd:List Nat} (hs:ev s= .own b 0 c) (hf:find σ b=some (.arr es L sl)) (hc:L.length=c) (hx:l4 σ es (ev x)=some (xs,rd)) (hb:(c+xs.length)*bytes≤2 ^ 40):
 step σ nm ev (.append es bytes s x)=some {v:=.own nm 0 (c+xs.length),rd:=b::rd,up:=[(b,none),(nm,some (.arr es (L++xs) sl))]}:=by
 simp only [step,hs,AV.e,hf,hc,and_self,if_true,hx]
 rw [if_pos hb]
theorem c2C {σ:b7} {nm es c i0:Nat} {ev:RA→AV} {x i:RA} {b:Nat} {rows:List (List PV)} {sl:Bool} {j:Int} (hx:ev x= .own b i0 c) (hi:ev i= .pv (.int .i64 j)) (hf:find σ b=some (.arr es rows sl)) (h0:0≤j) (h1:j<c):
 step σ nm ev (.i6 es x i)=some {v:=.ptr b (i0+j.toNat) 0,rd:=[b]}:=by
 simp [step,hx,hi,idxOf,hf,h0,h1,d9.es]
theorem b7N {σ:b7} {nm es bytes:Nat} {zero:List PV} {ev:RA→AV} {n:RA} {k:Int} (hn:ev n= .pv (.int .i64 k)) (h0:0≤k) (h1:k*bytes≤2 ^ 40) (hz:zero.length=es) (hb:0<bytes):
 step σ nm ev (.b3a es bytes zero n)=some {v:=.own nm 0 k.toNat,up:=[(nm,some (.arr es (List.replicate k.toNat zero) false))]}:=by
 simp only [step,hn,idxOf]
 rw [if_pos ⟨h0,h1,hz,hb⟩]
theorem b7w {σ:b7} {nm es:Nat} {ev:RA→AV} {d s:RA} {b i n:Nat} {rows xs:List (List PV)} {rd:List Nat} (hd:ev d= .own b i n) (hf:find σ b=some (.arr es rows false)) (hs:l4 σ es (ev s)=some (xs,rd)) (hn:i+n≤rows.length):
 step σ nm ev (.copy es d s)=some {v:=.pv (.int .i64 (min xs.length n:Nat)),rd:=b::rd,up:=[(b,some (.arr es (rows.take i++xs.take (min xs.length n)++rows.drop (i+min xs.length n)) false))]}:=by
 simp only [step,hd,hf,if_true,hs]
 rw [if_pos hn]
theorem c1B {σ:b7} {nm n es:Nat} {ev:RA→AV} {a v:RA} {b i j:Nat} {rows:List (List PV)} {row ps:List PV} (ha:ev a= .ptr b i j) (hf:find σ b=some (.arr es rows false)) (hr:rows[i]?=some row) (hp:T6 (ev v).cells=some ps) (hn:(ev v).cells.length=n) (hj:j+n≤row.length) (hc:v5 (ev v).cells=true):
 step σ nm ev (.store n a v)=some {v:=.undef,rd:=[b],up:=[(b,some (.arr es (rows.set i (row.take j++ps++row.drop (j+ps.length))) false))]}:=by
 simp only [step,ha,hf,hr,hp]
 rw [if_pos ⟨hn,hj,hc⟩]
theorem b9 {σ:b7} {es b i n:Nat} {a:AV} {rows:List (List PV)} {sl:Bool} (ha:a= .own b i n) (hf:find σ b=some (.arr es rows sl)):l4 σ es a=some ((rows.drop i).take n,[b]):=by
 subst ha;simp [l4,AV.e,hf]
theorem d4 {σ:b7} {es:Nat} {rows:List (List PV)}:l4 σ es (.pv (.sl es rows))=some (rows,[]):=by simp [l4,AV.e]
theorem b8 {σ:b7} {es:Nat} {rows:List (List PV)}:l4 σ es (.fsl es rows)=some (rows,[]):=by simp [l4,AV.e]
def b0y (live:List Nat) (s s':St):Prop:=a6F live s' fun n'=>a6F live s fun n=>n=n'
theorem loopGo {X:St→Prop} {live:List Nat} {F:St→Prop} (hX:∀ s,a6F live s F→X s) {s s':St} (h:b0y live s s') (g:a6F live s' F):X s:=by
 refine hX s ?_
 simp only [b0y,a6G] at h g ⊢
 rw [h];exact g
theorem b0y.rfl {live:List Nat} {s:St}:b0y live s s:=by simp only [b0y,a6G]
def c6t:T→List (Nat × AV)→T
 | t,[]=>t
 | t,(n,v)::l=>c6t (t.set d7 n v) l
def c6s:b7→List (Nat × d9)→b7
 | s,[]=>s
 | s,(b,x)::l=>c6s (Q7 s b (some x)) l
def St.upd (s:St) (ts:List (Nat × AV)) (bs:List (Nat × d9)):St:=⟨c6t s.tm ts,c6s s.σ bs,s.nx,s.nt⟩
end Go.Ab
namespace Go.Ab
section
variable {A A' C:Prop} {b:Bool}
theorem c3i (hT:b=true→A) (hF:b=false→C):(match (generalizing:=false) b,true with | true,true=>A | false,false=>A' | _,_=>C):=by
 cases b with
 | true=>exact hT rfl
 | false=>exact hF rfl
theorem c3h (hT:b=true→C) (hF:b=false→A'):(match (generalizing:=false) b,false with | true,true=>A | false,false=>A' | _,_=>C):=by
 cases b with
 | true=>exact hT rfl
 | false=>exact hF rfl
end
end Go.Ab
namespace Go.Ab
theorem c3S {σ:b7} {nm:Nat} {ev:RA→AV} {c x y:RA} {b:Bool} (hc:ev c= .pv (.bool b)) (h:b=true):step σ nm ev (.pick c x y)=some {v:=ev x}:=by
 subst h;simp [step,hc,l7.of]
theorem c3R {σ:b7} {nm:Nat} {ev:RA→AV} {c x y:RA} {b:Bool} (hc:ev c= .pv (.bool b)) (h:b=false):step σ nm ev (.pick c x y)=some {v:=ev y}:=by
 subst h;simp [step,hc,l7.of]
end Go.Ab
namespace Go.Ab
theorem c3j {σ:b7} {nm:Nat} {ev:RA→AV} {c x y:RA} {b:Bool} {K:l7→Prop} (hc:ev c= .pv (.bool b)) (hT:b=true→K {v:=ev x}) (hF:b=false→K {v:=ev y}):
 (match (generalizing:=false) step σ nm ev (.pick c x y) with | some e=>K e | none=>False):=by
 cases b with
 | true=>exact j6 (c3S hc rfl) (hT rfl)
 | false=>exact j6 (c3R hc rfl) (hF rfl)
end Go.Ab
namespace Go.Ab
section
variable {A A' B C:Prop} {b:Bool}
theorem sB (h:(b=true∧A)∨(b=false∧B)∨((b=true→A)∧(b=false→B))):Q7.match_1 (fun _=>Prop) b (fun _=>A) (fun _=>B):=by
 rcases h with ⟨rfl,h⟩ | ⟨rfl,h⟩ | ⟨h1,h2⟩
 ·exact h
 ·exact h
 ·cases b with
  | true=>exact h1 rfl
  | false=>exact h2 rfl
theorem sC {recs:List Rec} (h:e9 [] recs=true) (hT:A):Q7.match_1 (fun _=>Prop) (e9 [] recs) (fun _=>A) (fun _=>B):=by rw [h];exact hT
theorem z8 (h:(b=true∧A)∨(b=false∧C)∨((b=true→A)∧(b=false→C))):a8Z.match_1 (fun _ _=>Prop) b true (fun _=>A) (fun _=>A') (fun _ _=>C):=by
 rcases h with ⟨rfl,h⟩ | ⟨rfl,h⟩ | ⟨h1,h2⟩
 ·exact h
 ·exact h
 ·exact c3i h1 h2
theorem z7 (h:(b=true∧C)∨(b=false∧A')∨((b=true→C)∧(b=false→A'))):a8Z.match_1 (fun _ _=>Prop) b false (fun _=>A) (fun _=>A') (fun _ _=>C):=by
 rcases h with ⟨rfl,h⟩ | ⟨rfl,h⟩ | ⟨h1,h2⟩
 ·exact h
 ·exact h
 ·exact c3h h1 h2
theorem sS {o:Option l7} {e:l7} {K:l7→Prop} (h:o=some e) (hK:K e):opW.match_5 (fun _=>Prop) o (fun e=>K e) (fun _=>False):=by subst h;exact hK
theorem sP {σ:b7} {nm:Nat} {ev:RA→AV} {c x y:RA} {K:l7→Prop} (hc:ev c= .pv (.bool b)) (h:(b=true∧K {v:=ev x})∨(b=false∧K {v:=ev y})∨((b=true→K {v:=ev x})∧(b=false→K {v:=ev y}))):
 opW.match_5 (fun _=>Prop) (step σ nm ev (.pick c x y)) (fun e=>K e) (fun _=>False):=by
 rcases h with ⟨h0,h⟩ | ⟨h0,h⟩ | ⟨h1,h2⟩
 ·exact sS (c3S hc h0) h
 ·exact sS (c3R hc h0) h
 ·exact c3j hc h1 h2
end
end Go.Ab
namespace Go.Ab
theorem a3T {X:St→Prop} {live:List Nat} {F:St→Prop} (hX:∀ s,a6F live s F→X s) {st:St} {α:Sort _} (sh:St→α→St) (I:α→Nat→Prop) (a:α) (m:Nat) (h:b0y live st (sh st a)) (hI:I a m)
 (key:∀ (m:Nat) (a:α),(∀ (m':Nat) (a':α) (s':St),m'<m→I a' m'→b0y live s' (sh st a')→X s')→I a m→a6F live (sh st a) F):X st:=by
 have all:∀ (n m:Nat),m<n→∀ (a:α) (s:St),I a m→b0y live s (sh st a)→X s:=by
  intro n
  induction n with
  | zero=>intro m hm;omega
  | succ n ihn=>intro m hm a s hI hs;exact loopGo hX hs (key m a (fun m' a' s' hm'=>ihn m' (by omega) a' s') hI)
 exact all (m+1) m (by omega) a st hI h
theorem P9 {i:Nat} (h:i<2 ^ 62):IntKind.i64.wrap ((i:Int)+1)=((i+1:Nat):Int):=by rw [wrap_small (by omega) (by omega)];omega
theorem K4 {α:Type} {f:α→List PV} {l:List α} {i:Nat} {x:α} (h:l[i]?=some x):(l.map f)[((i:Nat):Int).toNat]?=some (f x):=by simp [h]
theorem a5r {α:Type} {l:List α} {i:Nat} {x:α} (h:l[i]?=some x):l.drop i=x::l.drop (i+1):=by
 obtain ⟨hi,he⟩:=List.getElem?_eq_some_iff.1 h
 rw [List.drop_eq_getElem_cons hi,he]
theorem a3I {α:Type} (l:List α) (i:Nat):(∃ x,i<l.length∧l[i]?=some x)∨l.length≤i:=by
 rcases Nat.lt_or_ge i l.length with h | h
 ·exact .inl ⟨_,h,List.getElem?_eq_getElem h⟩
 ·exact .inr h
end Go.Ab
namespace Go.Ab
theorem b7h {σ:b7} {nm n es:Nat} {ev:RA→AV} {a v:RA} {b i:Nat} {rows:List (List PV)} {ps:List PV} (ha:ev a= .ptr b i 0) (hf:find σ b=some (.arr es rows false)) (hi:i<rows.length) (hw:∀ r ∈ rows,r.length=n) (hp:T6 (ev v).cells=some ps) (hn:(ev v).cells.length=n) (hl:ps.length=n) (hc:v5 (ev v).cells=true):
 step σ nm ev (.store n a v)=some {v:=.undef,rd:=[b],up:=[(b,some (.arr es (rows.set i ps) false))]}:=by
 have hr:rows[i]?=some rows[i]:=List.getElem?_eq_getElem hi
 have hl':rows[i].length=n:=hw _ (List.getElem_mem hi)
 rw [c1B ha hf hr hp hn (by omega) hc]
 have:List.drop (0+ps.length) rows[i]=[]:=List.drop_eq_nil_of_le (by omega)
 simp only [List.take_zero,List.nil_append,this,List.append_nil]
end Go.Ab
namespace Go.Ab
structure Ob where
 kind:Int
 exec:Bool
 n:Int
 name:List UInt8
 ref:Int
 off:Int
 len:Int
 deriving DecidableEq
structure Cl where
 kind:Int
 bytes:List UInt8
 items:List Ob
 keys:List Ob
 B2:List Ob
 max:Int
 at':Int
 deriving DecidableEq
def i4 (o:Ob):List PV:=[.int .i64 o.kind,.bool o.exec,.int .i64 o.n,.str o.name,.int .i64 o.ref,.int .i64 o.off,.int .i64 o.len]
def j8 (c:Cl):List PV:=[.int .i64 c.kind,.str c.bytes,.sl 7 (c.items.map i4),.sl 7 (c.keys.map i4),.sl 7 (c.B2.map i4),.int .i64 c.max,.int .i64 c.at']
abbrev aO (o:Ob):PV:=.agg (i4 o)
abbrev aC (c:Cl):PV:=.agg (j8 c)
abbrev slO (l:List Ob):PV:=.sl 7 (l.map i4)
abbrev pI (n:Int):PV:=.int .i64 n
theorem Ob.eta (o:Ob):(⟨o.kind,o.exec,o.n,o.name,o.ref,o.off,o.len⟩:Ob)=o:=rfl
theorem Cl.eta (o:Cl):(⟨o.kind,o.bytes,o.items,o.keys,o.B2,o.max,o.at'⟩:Cl)=o:=rfl
end Go.Ab
namespace Go.Ab
noncomputable def tt (p:Prop):Bool:=@decide p (Classical.propDecidable p)
theorem b1B {p:Prop}:(tt p=true)=p:=by simp [tt]
theorem b2I {p:Prop}:(tt p=false)=¬ p:=by simp [tt]
theorem A9 {p:Prop} (h:p):PV.le (.bool true) (.bool (tt p)):=le_of_eq (by rw [show tt p=true from b1B.mpr h])
theorem z9 {p:Prop} (h:¬ p):PV.le (.bool false) (.bool (tt p)):=le_of_eq (by rw [show tt p=false from b2I.mpr h])
theorem l0 {k:IntKind} {a b:Int} (h:a=b):PV.le (.int k a) (.int k b):=le_of_eq (by rw [h])
theorem q8 {a b:List UInt8} (h:a=b):PV.le (.str a) (.str b):=le_of_eq (by rw [h])
theorem o3 {es:Nat} {a b:List (List PV)} (h:a=b):PV.le (.sl es a) (.sl es b):=le_of_eq (by rw [h])
theorem A8 {p:Prop} {b:Bool} (h:b=true↔p):PV.le (.bool b) (.bool (tt p)):=le_of_eq (by
 congr 1
 cases b with
 | true=>exact (b1B.mpr (h.1 rfl)).symm
 | false=>exact (b2I.mpr fun hp=>by cases h.2 hp).symm)
def Ob.comp (o:Ob):Prop:=o.kind=6∨o.kind=7∨o.kind=8∨o.kind=9∨o.kind=11
def Ob.blank (o:Ob):Prop:=
 (o.n=0∨o.kind=2∨o.kind=3∨o.kind=4∨o.kind=12)∧(o.name.length=0∨o.kind=5∨o.kind=10)∧(o.ref=0∨o.kind=6∨o.kind=7∨o.kind=8∨o.kind=9∨o.kind=11)∧(o.off=0∨o.kind=6∨o.kind=7∨o.kind=8)∧(o.len=0∨o.kind=6∨o.kind=7∨o.kind=8)
def Ob.right (o:Ob):Prop:=
 (0≤o.kind∧o.kind≤12)∧o.blank∧
 (o.kind=2→o.n=0∨o.n=1)∧(o.kind=3→ -2147483648≤o.n∧o.n≤2147483647)∧(o.kind=4→ -2147483648≤o.n∧o.n≤2147483648)∧(o.kind=12→1≤o.n)∧
 (o.kind=5→o.name.length≤100)∧(o.kind=10→1≤o.name.length∧o.name.length≤100)∧
 (o.kind=6∨o.kind=7∨o.kind=8→0≤o.off∧0≤o.len∧o.off+o.len≤1000)∧(o.kind=6∨o.kind=7∨o.kind=8∨o.kind=9∨o.kind=11→0≤o.ref∧o.ref≤20000)
end Go.Ab
namespace Go.Ab
def i3 (o:Ob):Nat→List Ob→Int
 | _,[]=> -1
 | i,x::l=>if x=o then (i:Int) else i3 o (i+1) l
def Cl.size (c:Cl):Int:=
 if c.kind=3 then (if c.max<0 then 1 else if c.max>200 then 401 else 1+2*c.max) else IntKind.i64.wrap (IntKind.i64.wrap (1+(c.bytes.length:Int))+(c.items.length:Int))
def F8:Int→List Cl→Int
 | n,[]=>n
 | n,c::l=>F8 (IntKind.i64.wrap (n+c.size)) l
theorem eqO {k k' n n' r r' f f' l l':Int} {e e':Bool} {s s':List UInt8}:(k==k'&&(e==e'&&(n==n'&&(s==s'&&(r==r'&&(f==f'&&(l==l'&&true)))))))=tt ((⟨k,e,n,s,r,f,l⟩:Ob)=⟨k',e',n',s',r',f',l'⟩):=by
 rw [Bool.eq_iff_iff]
 simp [tt]
theorem Ob.ext' (a b:Ob):(a=b)=(a.kind=b.kind∧a.exec=b.exec∧a.n=b.n∧a.name=b.name∧a.ref=b.ref∧a.off=b.off∧a.len=b.len):=by
 cases a;cases b;simp
end Go.Ab
namespace Go.Ab
def b8X {α:Type} (l:List α) (i:Nat) (x:List α):List α:=l.take i++x++l.drop (i+x.length)
theorem a0l {σ:b7} {nm:Nat} {ev:RA→AV} {x y:RA} {k:IntKind} {a b:Int} (hx:ev x= .pv (.int k a)) (hy:ev y= .pv (.int k b)) (hb:b≠0):step σ nm ev (.bin .quo x y)=some {v:=.pv (.int k (k.wrap (a.tdiv b)))}:=by
 simp only [step,hx,hy,binop,if_true,l7.of]
 rw [if_neg hb]
section
variable {σ:b7} {nm es bytes:Nat} {ev:RA→AV} {α:Type} {f:α→List PV} {l x':List α} {xs:List (List PV)} {rd:List Nat}
theorem j3 {s x:RA} (hs:ev s= .fsl es (l.map f)) (hx:l4 σ es (ev x)=some (xs,rd)) (hxs:xs=x'.map f) (hb:(l.length+x'.length)*bytes≤2 ^ 40):
 step σ nm ev (.append es bytes s x)=some {v:=.pv (.sl es ((l++x').map f)),rd:=rd}:=by
 subst hxs
 rw [b9O hs hx (by simpa using hb),List.map_append]
theorem i9 {s x:RA} {b c:Nat} {sl:Bool} (hs:ev s= .own b 0 c) (hf:find σ b=some (.arr es (l.map f) sl)) (hc:l.length=c) (hx:l4 σ es (ev x)=some (xs,rd)) (hxs:xs=x'.map f) (hb:(c+x'.length)*bytes≤2 ^ 40):
 step σ nm ev (.append es bytes s x)=some {v:=.own nm 0 (c+x'.length),rd:=b::rd,up:=[(b,none),(nm,some (.arr es ((l++x').map f) sl))]}:=by
 subst hxs
 rw [b9P hs hf (by simpa using hc) hx (by simpa using hb),List.map_append,List.length_map]
theorem b8R:∀ rows:List (List PV),mkObj es (rows.map (·.map .pv))= .arr es rows false:=by
 intro rows
 have row:∀ r:List PV,T6 (r.map AV.pv)=some r:=by
  intro r
  induction r with
  | nil=>rfl
  | cons p r ih=>simp [T6,AV.a5b,ih]
 have all:a0s (rows.map (·.map AV.pv))=some rows:=by
  induction rows with
  | nil=>rfl
  | cons r rows ih=>simp [a0s,row r,ih]
 simp [mkObj,all]
theorem b6U {a:AV} {rows:List (List PV)} (h:l4 σ es a=some (rows,rd)):rowsOf σ es a=some (rows.map (·.map .pv),rd):=by
 unfold l4 at h
 unfold rowsOf
 split at h
 ·cases h;rfl
 ·split at h <;>cases h;simp [*]
 ·split at h <;>cases h;simp [*]
 ·split at h
  ·split at h <;>cases h;simp [*]
  ·cases h
 ·cases h
theorem j2 {s x:RA} {e:Nat} (hs:(ev s).e= .emp e) (hx:l4 σ es (ev x)=some (xs,rd)) (hxs:xs=x'.map f) (hb:x'.length*bytes≤2 ^ 40):
 step σ nm ev (.append es bytes s x)=some {v:=.own nm 0 x'.length,rd:=rd,up:=[(nm,some (.arr es (x'.map f) false))]}:=by
 subst hxs
 rw [b6o hs (b6U hx) (by simpa using hb),b8R,List.length_map]
theorem I4 {x m:RA} {lo hi:Option RA} {a h k:Int} (hx:ev x= .pv (.sl es (l.map f))) (hl:j4 ev 0 lo=some a) (hh:j4 ev ((l.map f).length:Nat) hi=some h) (hm:j4 ev ((l.map f).length:Nat) (some m)=some k) (h1:0≤a) (h2:a≤h) (h3:h=k) (h4:k≤l.length):
 step σ nm ev (.slice es x lo hi (some m))=some {v:=.fsl es (((l.take h.toNat).drop a.toNat).map f)}:=by
 rw [c2O hx hl hh hm h1 h2 h3 (by simpa using h4),List.map_drop,List.map_take]
theorem O4 {x:RA} {lo hi:Option RA} {a h:Int} (hx:ev x= .pv (.sl es (l.map f))) (hl:j4 ev 0 lo=some a) (hh:j4 ev ((l.map f).length:Nat) hi=some h) (h1:0≤a) (h2:a≤h) (h3:h≤l.length):
 step σ nm ev (.slice es x lo hi none)=some {v:=.pv (.sl es (((l.take h.toNat).drop a.toNat).map f))}:=by
 rw [c1a hx hl hh h1 h2 (by simpa using h3),List.map_drop,List.map_take]
theorem P1 {x:RA} {lo hi:Option RA} {a h:Int} (hx:ev x= .fsl es (l.map f)) (hl:j4 ev 0 lo=some a) (hh:j4 ev ((l.map f).length:Nat) hi=some h) (h1:0≤a) (h2:a≤h) (h3:h≤l.length):
 step σ nm ev (.slice es x lo hi none)=some {v:=.pv (.sl es (((l.take h.toNat).drop a.toNat).map f))}:=by
 rw [c2N hx hl hh h1 h2 (by simpa using h3),List.map_drop,List.map_take]
theorem b9Y {d s:RA} {b n:Nat} {rows:List (List PV)} (hd:ev d= .own b 0 n) (hf:find σ b=some (.arr es rows false)) (hs:l4 σ es (ev s)=some (l.map f,rd)) (hn:rows.length=n) (hl:l.length=n):
 step σ nm ev (.copy es d s)=some {v:=.pv (.int .i64 ((l.length:Nat):Int)),rd:=b::rd,up:=[(b,some (.arr es (l.map f) false))]}:=by
 rw [b7w hd hf hs (by omega)]
 have e:min (l.map f).length n=l.length:=by simp;omega
 rw [e]
 have e2:List.drop (0+l.length) rows=[]:=List.drop_eq_nil_of_le (by omega)
 have e3:List.take l.length (l.map f)=l.map f:=List.take_of_length_le (by simp)
 simp only [List.take_zero,List.nil_append,e2,e3,List.append_nil]
theorem c4n {d s:RA} {b i n:Nat} (hd:ev d= .own b i n) (hf:find σ b=some (.arr es (l.map f) false)) (hs:l4 σ es (ev s)=some (x'.map f,rd)) (hn:i+n≤l.length) (hl:x'.length≤n):
 step σ nm ev (.copy es d s)=some {v:=.pv (.int .i64 ((x'.length:Nat):Int)),rd:=b::rd,up:=[(b,some (.arr es ((b8X l i x').map f) false))]}:=by
 rw [b7w hd hf hs (by simpa using hn)]
 have e:min (x'.map f).length n=x'.length:=by simp;omega
 rw [e]
 have e3:List.take x'.length (x'.map f)=x'.map f:=List.take_of_length_le (by simp)
 rw [e3]
 simp only [b8X,List.map_append,List.map_take,List.map_drop]
theorem c3g {a v:RA} {b i n:Nat} {c:α} (ha:ev a= .ptr b i 0) (hf:find σ b=some (.arr es (l.map f) false)) (hi:i<l.length) (hw:∀ y:α,(f y).length=n) (hp:T6 (ev v).cells=some (f c)) (hn:(ev v).cells.length=n) (hc:v5 (ev v).cells=true):
 step σ nm ev (.store n a v)=some {v:=.undef,rd:=[b],up:=[(b,some (.arr es ((l.set i c).map f) false))]}:=by
 rw [b7h ha hf (by simpa using hi) (by intro r hr;obtain ⟨y,_,rfl⟩:=List.mem_map.1 hr;exact hw y) hp hn (hw c) hc,List.map_set]
theorem c1b {x:RA} {lo:Option RA} {b i n:Nat} {o:d9} {a:Int} (hx:ev x= .own b i n) (hf:find σ b=some o) (hl:j4 ev 0 lo=some a) (h1:0≤a) (h2:a≤n) (h3:i+n≤o.len) (he:o.es=es):
 step σ nm ev (.slice es x lo none none)=some {v:=.own b (i+a.toNat) (n - a.toNat),rd:=[b]}:=by
 have e:((n:Int) - a).toNat=n - a.toNat:=by omega
 simp only [step,hx,AV.e,hf,hl,show j4 ev (n:Int) none=some (n:Int) from rfl,show j4 ev ((o.len:Int) - i) none=some ((o.len:Int) - i) from rfl]
 rw [if_pos ⟨h1,h2,by omega,.inl rfl,he,.inl rfl⟩,e]
end
end Go.Ab
namespace Go.Ab
end Go.Ab
namespace Go.Ab
open Classical
noncomputable section
def V8:Ob:=⟨0,false,0,[],0,0,0⟩
def cl0:Cl:=⟨0,[],[],[],[],0,0⟩
def Ob.ck (o:Ob):Int:=if o.right then 0 else 200
def E8 (k:Int):Int:=if k=6 then 1 else if k=7∨k=8 then 2 else if k=9 then 3 else if k=11 then 4 else 0
def Cl.length (c:Cl):Int:=if c.kind=1 then c.bytes.length else c.items.length
def fits (h:List Cl) (o:Ob):Prop:=o.right∧(E8 o.kind≠0→∃ c,h[o.ref.toNat]?=some c∧c.kind=E8 o.kind∧(o.kind≠9∧o.kind≠11→o.off+o.len≤c.length))
def Ob.isNum (o:Ob):Prop:=o.kind=3∨o.kind=4
def Ob.val (o:Ob):Int:=if o.kind=3 then IntKind.i64.wrap (o.n*65536) else o.n
def Ob.key (o:Ob):Ob:=if o.kind=4∧o.n.tmod 65536=0 then ⟨3,false,o.n.tdiv 65536,[],0,0,0⟩ else {o with exec:=false}
def cellAt (h:List Cl) (o:Ob):Cl:=(h[o.ref.toNat]?).getD cl0
def sub (h:List Cl) (o:Ob):List UInt8:=((cellAt h o).bytes.take (o.off+o.len).toNat).drop o.off.toNat
def nmO (s:List UInt8):Ob:=⟨5,false,0,s,0,0,0⟩
def b8L (o:Ob):Ob × Int:=if ¬ o.right then (V8,200) else if o.kind=0∨o.kind=6 then (V8,22) else (o.key,0)
def n4 (h:List Cl) (o:Ob):Ob × Int:=if ¬ fits h o then (V8,2) else if o.kind=6 then (if 100<(sub h o).length then (V8,23) else (nmO (sub h o),0)) else if o.kind=0 then (V8,22) else (o.key,0)
def U0 (h:List Cl) (o:Ob) (ks:List Int):Int:=if ¬ fits h o then 2 else if o.kind ∈ ks then 0 else 22
def look (c:Cl) (k:Ob):Option Ob:=if i3 k 0 c.keys<0 then none else c.B2[(i3 k 0 c.keys).toNat]?
def Y2 (c:Cl) (k v:Ob):Option Cl:=
 if 0≤i3 k 0 c.keys∧i3 k 0 c.keys<c.B2.length then some {c with B2:=c.B2.set (i3 k 0 c.keys).toNat v}
 else if c.max≤c.keys.length then none else some {c with keys:=c.keys++[k],B2:=c.B2++[v]}
theorem b7L {Q:Prop} (k:Int) (h0:0≤k) (h1:k<13) (c0:k=0→Q) (c1:k=1→Q) (c2:k=2→Q) (c3:k=3→Q) (c4:k=4→Q) (c5:k=5→Q) (c6:k=6→Q) (c7:k=7→Q) (c8:k=8→Q) (c9:k=9→Q) (c10:k=10→Q) (c11:k=11→Q) (c12:k=12→Q):Q:=by
 have:k=0∨k=1∨k=2∨k=3∨k=4∨k=5∨k=6∨k=7∨k=8∨k=9∨k=10∨k=11∨k=12:=by omega
 rcases this with h | h | h | h | h | h | h | h | h | h | h | h | h
 ·exact c0 h
 ·exact c1 h
 ·exact c2 h
 ·exact c3 h
 ·exact c4 h
 ·exact c5 h
 ·exact c6 h
 ·exact c7 h
 ·exact c8 h
 ·exact c9 h
 ·exact c10 h
 ·exact c11 h
 ·exact c12 h
theorem b6x {h:List Cl} {o:Ob} (hf:fits h o):o.right:=hf.1
theorem a7g {o:Ob} (h:o.right):0≤o.ref∧o.ref≤20000:=by
 obtain ⟨-,⟨-, -,h3, -⟩, -, -, -, -, -, -, -,h9⟩:=h
 rcases h3 with h3 | h3
 ·omega
 ·exact h9 (by omega)
theorem b3M {o:Ob} (h:o.right):0≤o.off∧0≤o.len∧o.off+o.len≤1000:=by
 obtain ⟨-,⟨-, -, -,h4,h5⟩, -, -, -, -, -, -,h8, -⟩:=h
 by_cases hk:o.kind=6∨o.kind=7∨o.kind=8
 ·exact h8 hk
 ·omega
theorem a3N (k:Int):(k=6∧E8 k=1)∨((k=7∨k=8)∧E8 k=2)∨(k=9∧E8 k=3)∨(k=11∧E8 k=4)∨(k≠6∧k≠7∧k≠8∧k≠9∧k≠11∧E8 k=0):=by
 by_cases h6:k=6
 ·exact .inl ⟨h6,by simp [E8,h6]⟩
 by_cases h7:k=7∨k=8
 ·exact .inr (.inl ⟨h7,by simp [E8,h6,h7]⟩)
 by_cases h9:k=9
 ·exact .inr (.inr (.inl ⟨h9,by simp [E8,h9]⟩))
 by_cases h11:k=11
 ·exact .inr (.inr (.inr (.inl ⟨h11,by simp [E8,h11]⟩)))
 ·exact .inr (.inr (.inr (.inr ⟨h6,by omega,by omega,h9,h11,by simp [E8,h6,h7,h9,h11]⟩)))
theorem a9V {h:List Cl} {o:Ob} (hf:fits h o) (hk:E8 o.kind≠0):h[o.ref.toNat]?=some (cellAt h o)∧(cellAt h o).kind=E8 o.kind∧(o.kind≠9∧o.kind≠11→o.off+o.len≤(cellAt h o).length):=by
 obtain ⟨c,hc,h1,h2⟩:=hf.2 hk
 have:cellAt h o=c:=by simp [cellAt,hc]
 rw [this];exact ⟨hc,h1,h2⟩
theorem b6z (k:Ob):∀ (l:List Ob) (i:Nat),i3 k i l= -1∨((i:Int)≤i3 k i l∧i3 k i l<i+l.length)
 | [],i=>.inl rfl
 | x::l,i=>by
   unfold i3
   split
   ·right;simp;omega
   ·rcases b6z k l (i+1) with h | h
    ·exact .inl h
    ·right;simp at h ⊢;omega
end
end Go.Ab
namespace Go.Ab
open Classical
theorem n8 (o:Ob):(o.ck=0)=o.right:=by unfold Ob.ck;split <;>simp_all
theorem n9 (o:Ob):(o.ck=200)=¬ o.right:=by unfold Ob.ck;split <;>simp_all
theorem b6Q {o:Ob} (h:o.right):0≤o.kind∧o.kind≤12:=h.1
theorem y6 {α:Type} {f:α→List PV} {l:List α} {d:α} {j:Int} (h0:0≤j) (h1:j<l.length):(l.map f)[j.toNat]?=some (f ((l[j.toNat]?).getD d)):=by
 have:j.toNat<l.length:=by omega
 simp [List.getElem?_eq_getElem this]
theorem b1N {h:List Cl} {o:Ob} (hr:o.right):fits h o↔(E8 o.kind=0∨(o.ref<h.length∧(cellAt h o).kind=E8 o.kind∧(o.kind=9∨o.kind=11∨o.off+o.len≤(cellAt h o).length))):=by
 have hb:=a7g hr
 constructor
 ·intro hf
  by_cases hk:E8 o.kind=0
  ·exact .inl hk
  ·obtain ⟨h1,h2,h3⟩:=a9V hf hk
   have:=(List.getElem?_eq_some_iff.1 h1).1
   refine .inr ⟨by omega,h2,?_⟩
   by_cases h9:o.kind=9
   ·exact .inl h9
   ·by_cases h11:o.kind=11
    ·exact .inr (.inl h11)
    ·exact .inr (.inr (h3 ⟨h9,h11⟩))
 ·intro hx
  refine ⟨hr,fun hk=>?_⟩
  rcases hx with hx | ⟨h1,h2,h3⟩
  ·exact absurd hx hk
  ·have:o.ref.toNat<h.length:=by omega
   have hc:h[o.ref.toNat]?=some (cellAt h o):=by simp [cellAt,List.getElem?_eq_getElem this]
   exact ⟨_,hc,h2,fun h9=>by rcases h3 with h | h | h <;>first | exact h | (exact absurd h h9.1) | (exact absurd h h9.2)⟩
end Go.Ab
namespace Go.Ab
open Classical
def a5w (k:Int):Nat→List Int→Int
 | _,[]=> -1
 | i,x::l=>if k=x then (i:Int) else a5w k (i+1) l
theorem b1U (k:Int):∀ (l:List Int) (i:Nat),(0≤a5w k i l)↔k ∈ l
 | [],i=>by simp [a5w]
 | x::l,i=>by
   unfold a5w
   split
   ·rename_i h;simp [h]
   ·rename_i h;rw [b1U k l (i+1)];simp [h]
theorem b8e {h:List Cl} {o:Ob} {ks:List Int} (hv:U0 h o ks=0):fits h o∧o.kind ∈ ks:=by
 unfold U0 at hv
 split at hv
 ·cases hv
 ·rename_i hf
  split at hv
  ·rename_i hk;exact ⟨Classical.not_not.1 hf,hk⟩
  ·cases hv
theorem c2j {h:List Cl} {o:Ob} {ks:List Int} (hv:U0 h o ks≠0):(¬ fits h o∧U0 h o ks=2)∨(fits h o∧¬ o.kind ∈ ks∧U0 h o ks=22):=by
 unfold U0 at hv ⊢
 split
 ·rename_i hf;exact .inl ⟨hf,rfl⟩
 ·rename_i hf
  split
  ·rename_i hk;simp [hf,hk] at hv
  ·rename_i hk;exact .inr ⟨Classical.not_not.1 hf,hk,rfl⟩
end Go.Ab
namespace Go.Ab
theorem nm:(∀ {k k' n n' r r' f f' l l':Int} {e e':Bool} {s s':List UInt8},(k==k'&&(e==e'&&(n==n'&&(s==s'&&(r==r'&&(f==f'&&(l==l'&&true)))))))=tt ((⟨k,e,n,s,r,f,l⟩:Ob)=⟨k',e',n',s',r',f',l'⟩))∧(∀ (o:Ob),(⟨o.kind,o.exec,o.n,o.name,o.ref,o.off,o.len⟩:Ob)=o)∧(∀ (o:Cl),(⟨o.kind,o.bytes,o.items,o.keys,o.B2,o.max,o.at'⟩:Cl)=o)∧(∀ {p:Prop},(tt p=true)=p)∧(∀ {p:Prop},(tt p=false)=¬ p)∧(∀ {p:Prop} [Decidable p],(decide p=true)=p)∧(∀ {p:Prop} [Decidable p],(decide p=false)↔¬ p)∧(∀ {α:Type} [BEq α] [LawfulBEq α] {a b:α},(a==b)=true↔a=b)∧(∀ {α:Type} [BEq α] [LawfulBEq α] {a b:α},(a==b)=false↔a≠b)∧(∀ {α:Type} [BEq α] [LawfulBEq α] {a b:α},(a != b)=true↔a≠b)∧(∀ {α:Type} (a b:α),(a≠b)=¬ (a=b))∧(∀ (b:Bool),(¬ (b=true))=(b=false))∧(∀ (b:Bool),(¬ (b=false))=(b=true))∧(∀ {a b:Bool},((!a)=b)↔(a=!b))∧(((!true)=false))∧(((!false)=true))∧(∀ {p:Prop} [Decidable p],¬ ¬ p↔p)∧(∀ {a b:Int},¬ a<b↔b≤a)∧(∀ {a b:Int},¬ a≤b↔b<a)∧(∀ {α:Type} [LT α] {x y:α},x>y↔y<x)∧(∀ {α:Type} [LE α] {x y:α},x≥y↔y≤x)∧(∀ {α:Type} [BEq α] [LawfulBEq α] {a b:α},(a != b)=false↔a=b):=⟨eqO,Ob.eta,Cl.eta,b1B,b2I,decide_eq_true_eq,decide_eq_false_iff_not,beq_iff_eq,beq_eq_false_iff_ne,bne_iff_ne,fun _ _=>rfl,Bool.not_eq_true,Bool.not_eq_false,Bool.not_eq_eq_eq_not,Bool.not_true,Bool.not_false,Decidable.not_not,Int.not_lt,Int.not_le,gt_iff_lt,ge_iff_le,bne_eq_false_iff_eq⟩
theorem ln:(∀ {α β:Type} {as:List α} (f:α→β),(as.map f).length=as.length)∧(∀ {α:Type} {as bs:List α},(as++bs).length=as.length+bs.length)∧(∀ {α:Type} {i:Nat} {l:List α},(l.take i).length=min i l.length)∧(∀ {α:Type} {i:Nat} {l:List α},(l.drop i).length=l.length - i)∧(∀ {α:Type} {a:α} {as:List α},(a::as).length=as.length+1)∧(∀ {α:Type},([]:List α).length=0)∧(∀ {α:Type} {n:Nat} {a:α},(List.replicate n a).length=n)∧(∀ {α:Type} {as:List α} {i:Nat} {a:α},(as.set i a).length=as.length)∧(∀ (n:Nat),(n:Int).toNat=n):=⟨fun f=>List.length_map f,List.length_append,List.length_take,List.length_drop,List.length_cons,List.length_nil,List.length_replicate,List.length_set,Int.toNat_natCast⟩
theorem oT {b:Bool} {A B C:Prop} (k:A) (h:b=true:=by first | assumption | (simp only [nm,List.length_map,n8,n9];first | done | assumption | omega)):(b=true∧A)∨B∨C:=.inl ⟨h,k⟩
theorem oF {b:Bool} {A B C:Prop} (k:A) (h:b=false:=by first | assumption | (simp only [nm,List.length_map,n8,n9];first | done | assumption | omega)):B∨(b=false∧A)∨C:=.inr (.inl ⟨h,k⟩)
end Go.Ab
namespace Go.Ab
open Classical
theorem b3E (c:Cl) (k:Ob):(i3 k 0 c.keys<0∨(c.B2.length:Int)≤i3 k 0 c.keys→look c k=none)∧(0≤i3 k 0 c.keys→i3 k 0 c.keys<c.B2.length→look c k=some ((c.B2[(i3 k 0 c.keys).toNat]?).getD V8)):=by
 unfold look
 constructor
 ·intro h
  split
  ·rfl
  ·rename_i h0
   exact List.getElem?_eq_none (by omega)
 ·intro h0 h1
  rw [if_neg (by omega)]
  have:(i3 k 0 c.keys).toNat<c.B2.length:=by omega
  simp [List.getElem?_eq_getElem this]
theorem b2u (c:Cl) (k v:Ob):(0≤i3 k 0 c.keys→i3 k 0 c.keys<c.B2.length→Y2 c k v=some {c with B2:=c.B2.set (i3 k 0 c.keys).toNat v})∧(¬ (0≤i3 k 0 c.keys∧i3 k 0 c.keys<c.B2.length)→c.max≤c.keys.length→Y2 c k v=none)∧(¬ (0≤i3 k 0 c.keys∧i3 k 0 c.keys<c.B2.length)→(c.keys.length:Int)<c.max→Y2 c k v=some {c with keys:=c.keys++[k],B2:=c.B2++[v]}):=by
 unfold Y2
 refine ⟨fun a b=>by rw [if_pos ⟨a,b⟩],fun a b=>by rw [if_neg a,if_pos b],fun a b=>by rw [if_neg a,if_neg (by omega)]⟩
def Cl.small (c:Cl):Prop:=c.keys.length≤1000000∧c.B2.length≤1000000∧c.items.length≤1000000∧c.bytes.length≤1000000
def small (h:List Cl):Prop:=h.length≤1000000∧∀ c ∈ h,c.small
theorem a9C {h:List Cl} (hs:small h) (o:Ob):(cellAt h o).small:=by
 unfold cellAt
 cases hc:h[o.ref.toNat]? with
 | none=>simp [cl0,Cl.small]
 | some c=>exact hs.2 c (List.mem_of_getElem? hc)
theorem a3x {h:List Cl} {o:Ob} {ks:List Int} (hv:U0 h o ks=0):(0≤o.ref∧o.ref≤20000)∧(0≤o.off∧0≤o.len∧o.off+o.len≤1000)∧o.kind ∈ ks∧(E8 o.kind=0∨(o.ref<h.length∧(cellAt h o).kind=E8 o.kind∧(o.kind=9∨o.kind=11∨o.off+o.len≤(cellAt h o).length))):=by
 obtain ⟨hf,hk⟩:=b8e hv
 exact ⟨a7g hf.1,b3M hf.1,hk,(b1N hf.1).1 hf⟩
noncomputable def b0X (o:Ob):Int:=if ¬ o.right then 200 else if o.kind=3∨o.kind=4 then 0 else 22
noncomputable def mkInt (n:Int):Ob × Int:=if -2147483648≤n∧n≤2147483647 then (⟨3,false,n,[],0,0,0⟩,0) else (V8,2)
theorem G8 (n:Int):(⟨3,false,n,[],0,0,0⟩:Ob).right↔(-2147483648≤n∧n≤2147483647):=by
 unfold Ob.right Ob.blank;simp
theorem F2 (s:List UInt8) (e:Bool):(⟨5,e,0,s,0,0,0⟩:Ob).right↔s.length≤100:=by
 unfold Ob.right Ob.blank;simp
theorem b6T {o:Ob} (h:o.right) (hk:o.kind=4): -2147483648≤o.n∧o.n≤2147483648:=by
 obtain ⟨-, -, -, -,h4, -⟩:=h
 exact h4 hk
theorem b8Y {o:Ob} (h:o.right) (hk:o.kind=3∨o.kind=4): -2147483648≤o.n∧o.n≤2147483648∧o.name.length=0∧o.ref=0∧o.off=0∧o.len=0:=by
 obtain ⟨-,⟨-,b2,b3,b4,b5⟩, -,h3,h4, -⟩:=h
 rcases hk with hk | hk
 ·have:=h3 hk;exact ⟨by omega,by omega,by omega,by omega,by omega,by omega⟩
 ·have:=h4 hk;exact ⟨by omega,by omega,by omega,by omega,by omega,by omega⟩
theorem b6R {o:Ob} (h:o.right) (hk:o.kind=0):o=⟨0,o.exec,0,[],0,0,0⟩:=by
 obtain ⟨-,⟨b1,b2,b3,b4,b5⟩, -⟩:=h
 have e1:o.n=0:=by omega
 have e2:o.name=[]:=List.length_eq_zero_iff.1 (by omega)
 have e3:o.ref=0:=by omega
 have e4:o.off=0:=by omega
 have e5:o.len=0:=by omega
 cases o;simp_all
theorem b2H {n:Int} (h1: -2147483648≤n) (h2:n≤2147483648): -32768≤n.tdiv 65536∧n.tdiv 65536≤32768:=by
 rcases Int.le_total 0 n with h | h
 ·rw [Int.tdiv_eq_ediv_of_nonneg h];omega
 ·have e:n.tdiv 65536= -((-n).tdiv 65536):=by rw [Int.neg_tdiv,Int.neg_neg]
  rw [e,Int.tdiv_eq_ediv_of_nonneg (by omega)];omega
theorem c0S {α:Type} {l:List α} {i:Nat} {v:α} (h:i<l.length):b8X l i [v]=l.set i v:=by
 unfold b8X
 rw [List.set_eq_take_append_cons_drop,if_pos h]
 simp
end Go.Ab
namespace Go.Ab
open Classical
structure B8 where
 ops:List Ob
 d5:List Ob
 heap:List Cl
 f3:List (List PV)
 f4:Int
 f5:Int
 f6:Int
 f7:Int
 f8:Int
 f9:Int
 f10:Int
 f11:List (List PV)
 f12:Int
 f13:Int
 f14:Int
 f15:Int
 f16:Int
 f17:Int
 f18:Int
 f19:Int
 f20:Int
 f21:Int
 f22:Int
 f23:Int
 f24:Int
 f25:Int
 f26:Int
 f27:Int
 f28:Int
 f29:Int
 f30:Int
 f31:Int
 f32:Bool
 f33:Bool
 f34:List (List PV)
 f35:Int
 f36:Int
 f37:Int
 f38:Int
 f39:Int
 f40:Int
 f41:Int
 f42:Int
 f43:List (List PV)
 f44:Int
 f45:Int
 f46:List (List PV)
 f47:Int
 f48:Bool
 f49:Int
 f50:List UInt8
 f51:Int
 f52:Int
 f53:Int
 f54:Int
 f55:Int
 f56:Int
 f57:Int
 f58:Int
 f59:Int
 f60:Int
 f61:Int
 f62:List (List PV)
 f63:List (List PV)
 f64:List (List PV)
 f65:List UInt8
 f66:Int
def c5y (s:B8):List PV:=[.sl 7 (List.map i4 s.ops),.sl 7 (List.map i4 s.d5),.sl 7 (List.map j8 s.heap),.sl 3 s.f3,.int .i64 s.f4,.int .i64 s.f5,.int .i64 s.f6,.int .i64 s.f7,.int .i64 s.f8,.int .i64 s.f9,.int .i64 s.f10,.sl 7 s.f11,.int .i64 s.f12,.int .i64 s.f13,.int .i64 s.f14,.int .i64 s.f15,.int .i64 s.f16,.int .i64 s.f17,.int .i64 s.f18,.int .i64 s.f19,.int .i64 s.f20,.int .i64 s.f21,.int .i64 s.f22,.int .i64 s.f23,.int .i64 s.f24,.int .i64 s.f25,.int .i64 s.f26,.int .i64 s.f27,.int .i64 s.f28,.int .i64 s.f29,.int .i64 s.f30,.int .i64 s.f31,.bool s.f32,.bool s.f33,.sl 47 s.f34,.int .i64 s.f35,.int .i64 s.f36,.int .i64 s.f37,.int .i64 s.f38,.int .i64 s.f39,.int .i64 s.f40,.int .i64 s.f41,.int .i64 s.f42,.sl 1 s.f43,.int .i64 s.f44,.int .i64 s.f45,.sl 2 s.f46,.int .i64 s.f47,.bool s.f48,.int .i64 s.f49,.str s.f50,.int .i64 s.f51,.int .i64 s.f52,.int .i64 s.f53,.int .i64 s.f54,.int .i64 s.f55,.int .i64 s.f56,.int .i64 s.f57,.int .i64 s.f58,.int .i64 s.f59,.int .i64 s.f60,.int .i64 s.f61,.sl 57 s.f62,.sl 47 s.f63,.sl 3 s.f64,.str s.f65,.int .i64 s.f66]
abbrev aS (s:B8):PV:=.agg (c5y s)
def b8o:Ob:=⟨9,false,0,[],4,0,0⟩
noncomputable def b5h (h:List Cl) (c:Ob):Int:=if U0 h b8o [9]=0∧((look (cellAt h b8o) c).isSome=true∧((look (cellAt h b8o) c).getD V8).kind=9) then 0 else 24
noncomputable def c2y (h:List Cl) (c:Ob):Ob:=if b5h h c=0 then (look (cellAt h b8o) c).getD V8 else V8
def c7N (s:B8) (n:Int):List Ob:=s.ops.drop (s.ops.length - n.toNat)
def opA (s:B8) (n i:Int):Ob:=((c7N s n)[i.toNat]?).getD V8
noncomputable def c5t (s:B8) (n:Int):Int:=
 if (s.ops.length:Int)<n then 20 else if (opA s n 0).kind=0∨((opA s n (n - 1)).kind≠5∧(opA s n (n - 1)).kind≠6) then 22
 else if (n4 s.heap (opA s n 0)).2≠0 then (n4 s.heap (opA s n 0)).2 else if (n4 s.heap (opA s n (n - 1))).2≠0 then (n4 s.heap (opA s n (n - 1))).2
 else b5h s.heap (n4 s.heap (opA s n (n - 1))).1
def nOk (s:B8):Prop:=small s.heap∧s.ops.length≤1000000∧(∀ o ∈ s.ops,o.n<9223372036854775808)∧∀ c ∈ s.heap,∀ o ∈ c.B2,o.n<9223372036854775808
noncomputable def c5D (h:List Cl) (d k:Ob):Int:=if U0 h d [9]≠0 then U0 h d [9] else if (look (cellAt h d) k).isSome=true then 0 else 40
noncomputable def c5E (h:List Cl) (d k:Ob):Ob:=if U0 h d [9]≠0 then V8 else (look (cellAt h d) k).getD V8
end Go.Ab
namespace Go.Ab
section
variable {σ:b7} {nm es:Nat} {ev:RA→AV} {α:Type} {f:α→List PV} {l:List α}
end
end Go.Ab
namespace Go.Ab
section
variable {σ:b7} {nm:Nat} {ev:RA→AV}
end
end Go.Ab
namespace Go.Ab
def b2b {α:Sort _} (n0:Nat) (live:List Nat) (st:St) (K:St→α):α:=
 match st with
 | ⟨tm,σ,nx,nt⟩=>a8U (a5Y n0 live ⟨tm,σ,nx,nt⟩) fun ns=>b2c (fun b=>H5 ns b 0) tm (live++[L2]) .nil fun tm'=>b0k (fun b=>H5 ns b 0) σ ns 0 fun σ'=>D3 ns.length fun nx'=>K ⟨tm',σ',nx',nt⟩
theorem b8K {α:Sort _} (n0:Nat) (live:List Nat) (st:St) (K:St→α):b2b n0 live st K=K (b3H n0 live st):=by
 obtain ⟨tm,σ,nx,nt⟩:=st
 simp only [b2b,a7V,b0l,a7d,j7]
 rfl
def b7t (n0:Nat) (live:List Nat) (s s':St):Prop:=b2b n0 live s' fun n'=>b2b n0 live s fun n=>n=n'
theorem c3O {X:St→Prop} {live:List Nat} {n0:Nat} {F:St→Prop} (hX:∀ s,F s→X s) (hW:∀ s s',Wk (some (n0,live)) s s'→X s'→X s) {st:St} {α:Sort _} (sh:St→α→St) (I:α→Nat→Prop) (a:α) (m:Nat) (h:b7t n0 live st (sh st a)) (hI:I a m)
 (key:∀ (m:Nat) (a:α),(∀ (m':Nat) (a':α) (s':St),m'<m→I a' m'→b7t n0 live s' (sh st a')→X s')→I a m→b2b n0 live (sh st a) F):X st:=by
 have all:∀ (n m:Nat),m<n→∀ (a:α) (s:St),I a m→b7t n0 live s (sh st a)→X s:=by
  intro n
  induction n with
  | zero=>intro m hm;omega
  | succ n ihn=>
    intro m hm a s hI hs
    have g:=key m a (fun m' a' s' hm'=>ihn m' (by omega) a' s') hI
    refine hW s _ (.F9 n0 live rfl) (hX _ ?_)
    simp only [b7t,b8K] at hs g ⊢
    rw [hs];exact g
 exact all (m+1) m (by omega) a st hI h
section
variable {σ:b7} {nm:Nat} {ev:RA→AV}
theorem index3_false {i:Nat} {a b c y:PV} {x r:RA} (hy:[a,b,c][i]?=some y) (hx:(ev x).cells=[.pv a,.pv b,.pv c]) (hg:(ev x).a2n=true) (hi:ev r= .pv (.int .i64 (i:Int))):
 step σ nm ev (.index false 3 1 x r)=some {v:=.pv y}:=by
 have hlt:i<3:=(List.getElem?_eq_some_iff.1 hy).1
 have hl:(ev x).cells.length=3*1:=by rw [hx];rfl
 simp only [step,hi,idxOf,hg,hl]
 rw [if_pos (by refine ⟨by omega,by show ((i:Nat):Int)<((3:Nat):Int);omega,?_,?_⟩ <;>first | trivial | rfl | assumption),hx]
 match i,hlt with
 | 0,_=>cases hy;rfl
 | 1,_=>cases hy;rfl
 | 2,_=>cases hy;rfl
end
end Go.Ab
namespace Go.Ab
theorem sD {o:Option (AV × Nat × Nat × List (List PV))} {v:AV} {c es:Nat} {rows:List (List PV)} {st:St} {K:AV→Nat→Nat→List (List PV)→T→b7→Nat→Nat→Prop} (h:o=some (v,c,es,rows)) (hK:K v c es rows st.tm st.σ st.nx st.nt):
 opW.match_1 (fun _ _=>Prop) o st (fun v c es rows tm σ nx nt=>K v c es rows tm σ nx nt) (fun _=>False):=by subst h;exact hK
theorem delete_at {es n i j b:Nat} {zero:List PV} {args:List AV} {σ:b7} {rows:List (List PV)} {y z:Int} (ha:args=[.own b 0 n,.pv (.int .i64 y),.pv (.int .i64 z)]) (hf:find σ b=some (.arr es rows false)) (hy:y=(i:Int)) (hz:z=(j:Int)) (hn:rows.length=n) (hij:i≤j) (hjn:j≤n) (hz0:zero.length=es):
 c2x es zero args σ=some (.own b 0 (n - (j - i)),b,es,c2w zero rows i j):=by
 subst ha hy hz
 show c2x es zero [.own b 0 n,.pv (.int .i64 (.ofNat i)),.pv (.int .i64 (.ofNat j))] σ=_
 simp only [c2x,hf]
 rw [if_pos ⟨trivial,hn,hij,hjn,hz0⟩]
theorem del_rows {α:Type} {f:α→List PV} {l:List α} {zero:List PV} {n i:Nat} (hn:l.length=n) (hi:i<n):List.take (n - (i+1 - i)) (List.drop 0 (c2w zero (l.map f) i (i+1)))=(l.eraseIdx i).map f:=by
 unfold c2w
 rw [List.drop_zero,List.take_append_of_le_length (by simp;omega),List.take_of_length_le (by simp;omega),List.eraseIdx_eq_take_drop_succ,List.map_append,List.map_take,List.map_drop]
end Go.Ab
namespace Go.Ab
end Go.Ab
namespace Go.Ab
open Go.RowKit Go.ChangeShapes Go.WideShapes
theorem mapM_some {α β:Type} {f:α→Option β}:∀ {l:List α} {ys:List β},l.mapM f=some ys→ys.length=l.length∧∀ (j:Nat) (x:α) (y:β),l[j]?=some x→ys[j]?=some y→f x=some y
 | [],ys,h=>by simp at h;subst h;exact ⟨rfl,fun j x y hx=>by simp at hx⟩
 | a::l,ys,h=>by
   simp only [List.mapM_cons,Option.bind_eq_bind,Option.pure_def] at h
   cases ha:f a with
   | none=>simp [ha] at h
   | some b=>
     cases hl:l.mapM f with
     | none=>simp [ha,hl] at h
     | some bs=>
       simp [ha,hl] at h
       subst h
       obtain ⟨e1,e2⟩:=mapM_some hl
       refine ⟨by simp [e1],fun j x y hx hy=>?_⟩
       cases j with
       | zero=>simp at hx hy;subst hx hy;exact ha
       | succ j=>simp at hx hy;exact e2 j x y hx hy
theorem b3y {P:Program} {W:World} {name:String} {g t e:Nat} {ss:List (List UInt8)} (hg:P.globalNamed name=some g) (ht:(P.globals[g]?).map (·.type)=some t) (ha:P.underlying t=some (.array ss.length e)) (he:P.underlying e=some .string) (hc:P.cellsOf e=1) (_hct:P.cellsOf t=ss.length)
 (h:laidMet P [(name,.agg (ss.map fun s=>.lit (.string s)))] W):z5 W (a9K W) (.pointer (some ⟨g,0,none⟩)) (.ref (ss.map .str)):=by
 obtain ⟨ps,⟨g',t',cs,fuel,p,q,h1,h2,h3,h4,_⟩,_⟩:=h
 obtain rfl:=Option.some.inj (hg.symm.trans h1)
 obtain rfl:=Option.some.inj (ht.symm.trans h2)
 obtain ⟨f,hlen,xs,hx,hd⟩:∃ f,cs.toList.length=P.cellsOf t∧∃ xs,(List.range ss.length).mapM (fun i=>DataW.trod (fun _=>()) P W 0 (fun _=>true) false f e ((cs.toList.drop (i*P.cellsOf e)).take (P.cellsOf e)))=some xs∧((DataW.agg (xs.map (·.1)):DataW Unit),xs.flatMap (·.2))=(.agg (ss.map fun s=>.lit (.string s)),p):=by
  cases fuel with
  | zero=>simp [DataW.trod] at h4
  | succ f=>
    simp only [DataW.trod,ha] at h4
    split at h4
    ·rename_i hl
     rw [Option.map_eq_some_iff] at h4
     obtain ⟨xs,hx,hd⟩:=h4
     exact ⟨f,hl,xs,hx,hd⟩
    ·cases h4
 obtain ⟨e1,e2⟩:=mapM_some hx
 have hd1:xs.map (·.1)=ss.map fun s=>(DataW.lit (.string s):DataW Unit):=by
  have:=congrArg Prod.fst hd
  simpa using this
 have cell:∀ (j:Nat) (s:List UInt8),ss[j]?=some s→∃ b:ByteArray,W.cell? ⟨g,0+j,none⟩=some (.string b)∧b.data.toList=s:=by
  intro j s hs
  have hj:j<ss.length:=(List.getElem?_eq_some_iff.1 hs).1
  have hjx:j<xs.length:=by rw [e1,List.length_range];exact hj
  have hxj:xs[j]?=some xs[j]:=List.getElem?_eq_getElem hjx
  have hr:(List.range ss.length)[j]?=some j:=by rw [List.getElem?_range hj]
  have ht:=e2 j j _ hr hxj
  obtain ⟨b,hb,hv,_⟩:=DataW.trod_string he ht
  have h5:(xs.map (·.1))[j]?=some (DataW.lit (.string b.data.toList)):=by rw [List.getElem?_map,hxj,hv];rfl
  rw [hd1,List.getElem?_map,hs] at h5
  simp at h5
  rw [hc,Nat.mul_one] at hb
  have h6:cs[j]?=some (.string b):=by
   have:((cs.toList.drop j).take 1)[0]?=some (.string b):=by rw [hb];rfl
   rw [List.getElem?_take_of_lt (by decide),List.getElem?_drop] at this
   simpa using this
  exact ⟨b,by rw [Nat.zero_add,World.var?_cell hg h3 j];exact h6,h5.symm⟩
 refine .ref (fun j=>((W.cell? ⟨g,0+j,none⟩).getD .nilFunc)) rfl (fun j hj=>?_) (fun j q hq=>?_)
 ·obtain ⟨s,hs⟩:∃ s,ss[j]?=some s:=⟨_,List.getElem?_eq_getElem (by simpa using hj)⟩
  obtain ⟨b,hb,_⟩:=cell j s hs
  refine ⟨by rw [hb];rfl,by unfold a9K;rw [hb];rfl,by rw [hb];rfl⟩
 ·rw [List.getElem?_map,Option.map_eq_some_iff] at hq
  obtain ⟨s,hs,rfl⟩:=hq
  obtain ⟨b,hb,rfl⟩:=cell j s hs
  rw [hb]
  exact .str b
end Go.Ab
