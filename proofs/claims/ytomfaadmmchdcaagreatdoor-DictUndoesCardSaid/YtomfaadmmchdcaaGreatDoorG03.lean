/- A part of the proof: the texts Ab26, Ab27, Ab28, Ab29, Ab30, Ab31, Ab32. Under: nothing. -/
import Derived.Test.YtomfaadmmchdcaaGreatDoorG02
import Derived.OrdersIn
import Derived.RangeFuncRecord
import Derived.RangeFuncIn
set_option linter.unusedVariables false
namespace Go.Ab
def raT:RA→List Nat | .t n=>[n] | _=>[]
def m7.reads (r:m7):List Nat:=(r.op.operands.map raT).flatten++(match r.guard with | some (t,_)=>[t] | none=>[])
def b7A (d:Option Nat) (l:List Nat):Bool:=match d with | none=>false | some d=>l.any (·==d)
def a4d (a b:m7):Bool:=!b7A a.dst b.reads&&!b7A b.dst a.reads&&(match a.dst,b.dst with | some x,some y=>x != y | _,_=>true)
def a1b (r:m7):Bool:=r.reads.all (decide <| ·<1024)&&(match r.dst with | some d=>decide (d<1024) | none=>true)
abbrev Ins:=Option (Nat × List UInt8 × AV)
def b5q (σ:b7):Ins→b7
 | none=>σ
 | some (b,k,v)=>match find σ b with
   | some (.map ents)=>Q7 σ b (some (.map (W5 k v ents)))
   | _=>σ
def a7m (ins:Ins) (b:Nat) (o:Option d9):Option d9:=match ins with
 | none=>o
 | some (b',k,v)=>if b'=b then (match o with | some (.map ents)=>some (.map (W5 k v ents)) | o=>o) else o
theorem U5 {σ:b7} {ins:Ins} {b:Nat}:find (b5q σ ins) b=a7m ins b (find σ b):=by
 cases ins with
 | none=>rfl
 | some x=>
   obtain ⟨b',k,v⟩:=x
   simp only [b5q,a7m]
   by_cases h:b'=b
   ·subst h
    rw [if_pos rfl]
    cases hf:find σ b' with
    | none=>simp only [hf]
    | some o=>
      cases o with
      | map ents=>simp only [l6,if_true]
      | arr e rs sl=>simp only [hf]
      | box e rs sl=>simp only [hf]
   ·rw [if_neg h]
    split
    ·rw [l6,if_neg (fun e=>h e.symm)]
    ·rfl
theorem b1r {b b':Nat} {k:List UInt8} {v:AV} {o:Option d9} (h:b'≠b):a7m (some (b',k,v)) b o=o:=by simp only [a7m,if_neg h]
def after (st:St) (r:m7) (v:AV) (sl:List Nat) (up:List (Nat × Option d9)) (ins:Ins):St:=D5 st r.dst v (b5q (m0 (A6 st.σ sl) up) ins)
def b6A (ins:Ins):Option (Nat × List UInt8):=match ins with | some (b,k,_)=>some (b,k) | none=>none
structure a4K (s s':St):Prop where
 tm:∀ n,s'.tm.get d7 n=s.tm.get d7 n
 σ:∀ b,find s'.σ b=find s.σ b
 nx:s'.nx=s.nx
 nt:s'.nt=s.nt
theorem a4K.refl (s:St):a4K s s:=⟨fun _=>rfl,fun _=>rfl,rfl,rfl⟩
theorem a4K.trans {a b c:St} (h:a4K a b) (k:a4K b c):a4K a c:=⟨fun n=>(k.tm n).trans (h.tm n),fun n=>(k.σ n).trans (h.σ n),k.nx.trans h.nx,k.nt.trans h.nt⟩
def upF:List (Nat × Option d9)→Nat→Option (Option d9)
 | [],_=>none
 | (b,x)::l,b'=>match upF l b' with | some y=>some y | none=>if b'=b then some x else none
theorem a5t:∀ (l:List (Nat × Option d9)) (s:b7) (b:Nat),find (m0 s l) b=match upF l b with | some x=>x | none=>find s b
 | [],s,b=>rfl
 | (k,x)::l,s,b=>by
   simp only [m0,upF]
   rw [a5t l,l6]
   cases upF l b with
   | some y=>rfl
   | none=>by_cases h:b=k <;>simp [h]
theorem P2:∀ {l:List (Nat × Option d9)} {b:Nat},b ∉ l.map (·.1)→upF l b=none
 | [],_,_=>rfl
 | (k,x)::l,b,h=>by
   simp only [List.map_cons,List.mem_cons,not_or] at h
   simp only [upF]
   rw [P2 h.2,if_neg h.1]
def v3 (sl:List Nat) (b:Nat) (o:d9):d9:=if b ∈ sl then o.C3 else o
theorem M9 {σ:b7} {sl:List Nat} {up:List (Nat × Option d9)} {b:Nat}:find (m0 (A6 σ sl) up) b=match upF up b with | some x=>x | none=>(find σ b).map (v3 sl b):=by
 rw [a5t,a0N];rfl
theorem b3N (o:d9):o.C3.C3=o.C3:=by cases o <;>rfl
theorem b0S (sl:List Nat) (b:Nat) (o:d9):(v3 sl b o).C3=o.C3:=by unfold v3;split <;>simp [b3N]
theorem b5W (a c:List Nat) (b:Nat) (o:d9):v3 a b (v3 c b o)=v3 c b (v3 a b o):=by
 unfold v3;split <;>split <;>simp [b3N]
section
variable (G:Gl) (Ok:Nat→List PV→Own→PV→Prop)
inductive a3B (r:m7) (nm:Nat) (st:St):AV→List Nat→List Nat→List (Nat × Option d9)→Ins→Prop
 | ins {m k x:RA} {b:Nat} {s:List UInt8} {ents:List (List UInt8 × AV)} (hg:∀ t want,r.guard=some (t,want)→st.ev G (.t t)= .pv (.bool want)) (ho:r.op= .insert m k x) (hm:st.ev G m= .a0u b) (hk:st.ev G k= .pv (.str s))
  (hf:find st.σ b=some (.map ents)) (hl:m9 s ents=none):a3B r nm st .undef [] [] [] (some (b,s,st.ev G x))
 | op {e:l7} (hni:∀ m k x,r.op≠ .insert m k x) (hg:∀ t want,r.guard=some (t,want)→st.ev G (.t t)= .pv (.bool want)) (h:step st.σ nm (st.ev G) r.op=some e):a3B r nm st e.v e.rd [] e.up none
 | call {f:RA} {args:List RA} {g:Nat} {a b:List AV} {ps:List PV} {m:List Nat} {own:Own} {res:PV} {v:AV} {up:List (Nat × Option d9)}
  (hg:∀ t want,r.guard=some (t,want)→st.ev G (.t t)= .pv (.bool want)) (ho:r.op= .call f args) (hc:S6 (st.ev G f)=some (g,a,b))
  (hnp:G.a9v g=none) (hp:a6O (pub st.σ 8) (a++args.map (st.ev G)++b)=some (ps,m)) (hok:Ok g ps own res) (hi:imp own nm res=(v,up)):a3B r nm st v [] m up none
 | a9v {f:RA} {args:List RA} {g:Nat} {a b:List AV} {p:b7s} {v:AV} {c es:Nat} {rows:List (List PV)} (hg:∀ t want,r.guard=some (t,want)→st.ev G (.t t)= .pv (.bool want)) (ho:r.op= .call f args)
  (hc:S6 (st.ev G f)=some (g,a,b)) (hp:G.a9v g=some p) (hr:p.run (a++args.map (st.ev G)++b) st.σ=some (v,c,es,rows)):a3B r nm st v [c] [] [(c,some (.arr es rows false))] none
 | left {t:Nat} {want:Bool} (hg:r.guard=some (t,want)) (hv:st.ev G (.t t)= .pv (.bool (!want))∨st.ev G (.t t)= .o0 []):a3B r nm st (.o0 []) [] [] [] none
variable {G Ok}
theorem a3B.frame {r:m7} {nm:Nat} {st st':St} {v:AV} {rd sl:List Nat} {up:List (Nat × Option d9)} {ins:Ins} (h:a3B G Ok r nm st v rd sl up ins)
 (ht:∀ t ∈ r.reads,st'.tm.get d7 t=st.tm.get d7 t)
 (hb:∀ b,b ∈ rd∨b ∈ sl→Alike st.σ st'.σ b∧(b ∈ up.map (·.1)→find st'.σ b=find st.σ b))
 (hins:∀ b k v,ins=some (b,k,v)→∀ ents,find st.σ b=some (.map ents)→m9 k ents=none→∃ ents',find st'.σ b=some (.map ents')∧m9 k ents'=none):a3B G Ok r nm st' v rd sl up ins:=by
 have hev:∀ x ∈ r.op.operands,st'.ev G x=st.ev G x:=by
  intro x hx
  cases x with
  | t n=>exact ht n (List.mem_append_left _ (List.mem_flatten.2 ⟨[n],List.mem_map.2 ⟨_,hx,rfl⟩,by simp⟩))
  | c v=>rfl
  | f g=>rfl
  | g i=>rfl
 have hgd:∀ t want,r.guard=some (t,want)→st'.ev G (.t t)=st.ev G (.t t):=fun t want hg=>ht t (List.mem_append_right _ (by rw [hg];simp))
 cases h with
 | ins hg ho hm hk hf hl=>
   rename_i m k x b s ents
   rw [ho] at hev
   simp only [ROp.operands,List.mem_cons,List.not_mem_nil,or_false,forall_eq_or_imp,forall_eq] at hev
   obtain ⟨ents',hf',hl'⟩:=hins _ _ _ rfl ents hf hl
   rw [← hev.2.2]
   exact .ins (fun t want e=>(hgd t want e).trans (hg t want e)) ho (hev.1.trans hm) (hev.2.1.trans hk) hf' hl'
 | op hni hg h=>
   exact .op hni (fun t want e=>(hgd t want e).trans (hg t want e)) (a8r h hev fun b hb'=>hb b (.inl hb'))
 | call hg ho hc hnp hp hok hi=>
   rename_i f args g a b ps own res
   rw [ho] at hev
   simp only [ROp.operands,List.mem_cons,forall_eq_or_imp] at hev
   refine .call (fun t want e=>(hgd t want e).trans (hg t want e)) ho (by rw [hev.1];exact hc) hnp ?_ hok hi
   rw [List.map_congr_left hev.2]
   exact T5 (fun a p m=>b8Q 8 a p m) _ _ _ hp fun b hb'=>(hb b (.inr hb')).1
 | a9v hg ho hc hp hr=>
   rw [ho] at hev
   simp only [ROp.operands,List.mem_cons,forall_eq_or_imp] at hev
   refine .a9v (fun t want e=>(hgd t want e).trans (hg t want e)) ho (by rw [hev.1];exact hc) hp ?_
   rw [List.map_congr_left hev.2]
   exact b7s.frame _ hr ((hb _ (.inl (by simp))).2 (by simp))
 | left hg hv=>exact .left hg (hv.imp (hgd _ _ hg).trans (hgd _ _ hg).trans)
theorem a3B.b4u {r:m7} {nm:Nat} {st:St} {v:AV} {rd sl:List Nat} {up:List (Nat × Option d9)} {x:Nat × List UInt8 × AV} (h:a3B G Ok r nm st v rd sl up (some x)):rd=[]∧sl=[]∧up=[]:=by
 cases h with
 | ins=>exact ⟨rfl,rfl,rfl⟩
theorem a0O {st:St} {dst:Option Nat} {v:AV} {σ:b7} {n:Nat} (hn:n<1024) (hd:∀ d,dst=some d→d<1024):
 (D5 st dst v σ).tm.get d7 n=if dst=some n then v else st.tm.get d7 n:=by
 cases dst with
 | none=>simp [D5]
 | some d=>
   simp only [D5,H4]
   have:=hd d rfl
   have e1:n % 2 ^ d7=n:=Nat.mod_eq_of_lt hn
   have e2:d % 2 ^ d7=d:=Nat.mod_eq_of_lt this
   rw [e1,e2]
   by_cases h:n=d
   ·subst h;simp
   ·have:¬ d=n:=fun e=>h e.symm
    simp [h,this]
theorem b6y {st st':St} {dst:Option Nat} {v:AV} {σ σ':b7} {n:Nat} (h:∀ n,st'.tm.get d7 n=st.tm.get d7 n):
 (D5 st' dst v σ').tm.get d7 n=(D5 st dst v σ).tm.get d7 n:=by
 cases dst with
 | none=>exact h n
 | some d=>
   simp only [D5,H4]
   split
   ·rfl
   ·exact h n
theorem T8 {r:m7} (h:a1b r=true):(∀ t ∈ r.reads,t<1024)∧∀ d,r.dst=some d→d<1024:=by
 unfold a1b at h
 rw [Bool.and_eq_true] at h
 refine ⟨fun t ht=>by simpa using List.all_eq_true.1 h.1 t ht,fun d hd=>?_⟩
 have:=h.2
 rw [hd] at this
 simpa using this
theorem b1H {d:Option Nat} {l:List Nat} (h:b7A d l=false):∀ t ∈ l,d≠some t:=by
 intro t ht e
 subst e
 simp only [b7A,List.any_eq_false,beq_iff_eq] at h
 exact h t ht rfl
theorem b0A {a b:m7} (h:a4d a b=true):(∀ t ∈ b.reads,a.dst≠some t)∧(∀ t ∈ a.reads,b.dst≠some t)∧∀ x y,a.dst=some x→b.dst=some y→x≠y:=by
 simp only [a4d,Bool.and_eq_true,Bool.not_eq_true'] at h
 refine ⟨b1H h.1.1,b1H h.1.2,fun x y hx hy=>?_⟩
 have:=h.2
 rw [hx,hy] at this
 simpa using this
theorem a3B.congr {r:m7} {nm:Nat} {st st':St} {v:AV} {rd sl:List Nat} {up:List (Nat × Option d9)} {ins:Ins} (h:a3B G Ok r nm st v rd sl up ins) (he:a4K st st'):a3B G Ok r nm st' v rd sl up ins:=
 h.frame (fun t _=>he.tm t) (fun b _=>⟨.of_eq (he.σ b),fun _=>he.σ b⟩) fun b _ _ _ ents hf hl=>⟨ents,(he.σ b).trans hf,hl⟩
theorem a4K.after {r:m7} {st st':St} {v:AV} {sl:List Nat} {up:List (Nat × Option d9)} {ins:Ins} (he:a4K st st'):a4K (after st r v sl up ins) (after st' r v sl up ins):=by
 obtain ⟨d,o,g,p⟩:=r
 have hσ:∀ b,find (b5q (m0 (A6 st'.σ sl) up) ins) b=find (b5q (m0 (A6 st.σ sl) up) ins) b:=fun b=>by rw [U5,U5,M9,M9,he.σ b]
 refine ⟨fun n=>b6y he.tm,?_,?_,?_⟩ <;>cases d <;>first | exact hσ | exact he.nx | exact he.nt
theorem N5 {a b:List Nat} (h:meets a b=false) {x:Nat} (h1:x ∈ a) (h2:x ∈ b):False:=by
 unfold meets at h
 rw [List.any_eq_false] at h
 have:=h x h1
 simp only [Bool.not_eq_true,List.any_eq_false,beq_iff_eq] at this
 exact this x h2 rfl
theorem a3f {st:St} {r:m7} {v:AV} {sl:List Nat} {up:List (Nat × Option d9)} {ins:Ins}:(Ab.after st r v sl up ins).σ=b5q (m0 (A6 st.σ sl) up) ins:=by
 unfold Ab.after D5;cases r.dst <;>rfl
theorem a5N {st:St} {d:Option Nat} {v:AV} {σ:b7}:(D5 st d v σ).σ=σ:=by cases d <;>rfl
theorem a9w {st:St} {d:Option Nat} {v:AV} {σ:b7}:(D5 st d v σ).nx=st.nx:=by cases d <;>rfl
theorem a1S {st:St} {d:Option Nat} {v:AV} {σ:b7}:(D5 st d v σ).nt=st.nt:=by cases d <;>rfl
theorem any_false {l:List Nat} {x:Nat} (h:l.any (·==x)=false):x ∉ l:=by
 intro hx
 rw [List.any_eq_false] at h
 exact h x hx (by simp)
theorem a7A {a b:Rec} {m:Nat} {k:List UInt8} (h:a.a4S b=false) (ha:a.ins=some (m,k)):m ∉ b.rd∧m ∉ b.sl∧m ∉ b.wr∧∀ k',b.ins=some (m,k')→k≠k':=by
 unfold Rec.a4S at h
 rw [ha] at h
 simp only [Bool.or_eq_false_iff] at h
 obtain ⟨⟨⟨h1,h2⟩,h3⟩,h4⟩:=h
 refine ⟨any_false h1,any_false h2,any_false h3,fun k' hb e=>?_⟩
 rw [hb] at h4
 simp [e] at h4
theorem a3q {o:Option d9} {sl:List Nat} {b:Nat} {ents:List (List UInt8 × AV)}:o.map (v3 sl b)=some (.map ents)↔o=some (.map ents):=by
 cases o with
 | none=>simp
 | some x=>
   simp only [Option.map_some,Option.some.injEq]
   unfold v3
   split
   ·cases x <;>simp [d9.C3]
   ·rfl
theorem b8B {i j:Ins} {b:Nat} {o:Option d9} (h:∀ m k v k' v',i=some (m,k,v)→j=some (m,k',v')→k≠k'):a7m j b (a7m i b o)=a7m i b (a7m j b o):=by
 cases i with
 | none=>rfl
 | some x=>
   cases j with
   | none=>rfl
   | some y=>
     obtain ⟨bi,ki,vi⟩:=x
     obtain ⟨bj,kj,vj⟩:=y
     simp only [a7m]
     by_cases h1:bi=b <;>by_cases h2:bj=b <;>simp only [h1,h2,if_true,if_false]
     subst h1;subst h2
     cases o with
     | none=>rfl
     | some o=>
       cases o with
       | map ents=>simp only;rw [b8C (fun e=>h _ _ _ _ _ rfl rfl e.symm)]
       | _=>rfl
theorem a3B.swap {i j:m7} {ni nj:Nat} {st:St} {vi vj:AV} {rdi sli rdj slj:List Nat} {upi upj:List (Nat × Option d9)} {insi insj:Ins}
 (hi:a3B G Ok i ni st vi rdi sli upi insi) (hj:a3B G Ok j nj (Ab.after st i vi sli upi insi) vj rdj slj upj insj)
 (hsi:a1b i=true) (hsj:a1b j=true) (ha:a4d i j=true)
 (hc:Rec.a1Z ⟨rdi,sli,upi.map (·.1),i.pre,b6A insi⟩ ⟨rdj,slj,upj.map (·.1),j.pre,b6A insj⟩=false):
 a3B G Ok j nj st vj rdj slj upj insj∧a3B G Ok i ni (Ab.after st j vj slj upj insj) vi rdi sli upi insi∧
  a4K (Ab.after (Ab.after st i vi sli upi insi) j vj slj upj insj) (Ab.after (Ab.after st j vj slj upj insj) i vi sli upi insi):=by
 simp only [Rec.a1Z,Bool.or_eq_false_iff] at hc
 obtain ⟨⟨⟨⟨⟨⟨c1,c2⟩,c3⟩,c4⟩,c5⟩,c6⟩,c7⟩:=hc
 obtain ⟨a1,a2,a3⟩:=b0A ha
 obtain ⟨ri,di⟩:=T8 hsi
 obtain ⟨rj,dj⟩:=T8 hsj
 have ci:∀ m k v,insi=some (m,k,v)→m ∉ rdj∧m ∉ slj∧m ∉ upj.map (·.1)∧∀ k' v',insj=some (m,k',v')→k≠k':=fun m k v e=>by
  subst e
  obtain ⟨h1,h2,h3,h4⟩:=a7A c6 rfl
  exact ⟨h1,h2,h3,fun k' v' e=>by subst e;exact h4 k' rfl⟩
 have cj:∀ m k v,insj=some (m,k,v)→m ∉ rdi∧m ∉ sli∧m ∉ upi.map (·.1)∧∀ k' v',insi=some (m,k',v')→k≠k':=fun m k v e=>by
  subst e
  obtain ⟨h1,h2,h3,h4⟩:=a7A c7 rfl
  exact ⟨h1,h2,h3,fun k' v' e=>by subst e;exact h4 k' rfl⟩
 have ineI:∀ b,b ∈ rdj∨b ∈ slj→∀ o,a7m insi b o=o:=fun b hb o=>by
  cases insi with
  | none=>rfl
  | some x=>
    obtain ⟨m,k,v⟩:=x
    obtain ⟨h1,h2,_⟩:=ci m k v rfl
    exact b1r fun e=>by subst e;exact hb.elim h1 h2
 have ineJ:∀ b,b ∈ rdi∨b ∈ sli→∀ o,a7m insj b o=o:=fun b hb o=>by
  cases insj with
  | none=>rfl
  | some x=>
    obtain ⟨m,k,v⟩:=x
    obtain ⟨h1,h2,_⟩:=cj m k v rfl
    exact b1r fun e=>by subst e;exact hb.elim h1 h2
 have hj':a3B G Ok j nj st vj rdj slj upj insj:=by
  refine hj.frame (fun t ht=>?_) (fun b hb=>?_) fun b k v e ents hf hl=>?_
  ·show _=(D5 st i.dst vi _).tm.get d7 t
   rw [a0O (rj t ht) di,if_neg (a1 t ht)]
  ·have hn:b ∉ upi.map (·.1):=fun h=>hb.elim (N5 c1 h) (N5 c2 h)
   refine ⟨?_,fun hu=>?_⟩
   ·unfold Alike
    rw [a3f,U5,M9,P2 hn,ineI b hb]
    simp only [Option.map_map]
    congr 1
    funext o;simp [b0S]
   ·have hs:b ∉ sli:=fun h=>N5 c5 h hu
    rw [a3f,U5,M9,P2 hn,ineI b hb]
    simp only
    have:v3 sli b=id:=by funext o;simp [v3,hs]
    rw [this];simp
  ·obtain ⟨h1,h2,h3,h4⟩:=cj b k v e
   rw [a3f,U5,M9,P2 h3] at hf
   simp only at hf
   cases hii:insi with
   | none=>
     rw [hii] at hf
     exact ⟨ents,a3q.1 hf,hl⟩
   | some x=>
     obtain ⟨m,ki,vi'⟩:=x
     rw [hii] at hf
     by_cases em:m=b
     ·subst em
      simp only [a7m,if_true] at hf
      split at hf
      ·rename_i ents0 hf0
       cases hf
       refine ⟨ents0,a3q.1 hf0,?_⟩
       rw [O6 (h4 ki vi' hii)] at hl
       exact hl
      ·exact ⟨ents,a3q.1 hf,hl⟩
     ·rw [b1r em] at hf
      exact ⟨ents,a3q.1 hf,hl⟩
 refine ⟨hj',?_,?_⟩
 ·refine hi.frame (fun t ht=>?_) (fun b hb=>?_) fun b k v e ents hf hl=>?_
  ·show (D5 st j.dst vj _).tm.get d7 t=_
   rw [a0O (ri t ht) dj,if_neg (a2 t ht)]
  ·have hn:b ∉ upj.map (·.1):=fun h=>hb.elim (fun h'=>N5 c4 h' h) (fun h'=>N5 c5 h' h)
   refine ⟨?_,fun hu=>?_⟩
   ·unfold Alike
    rw [a3f,U5,M9,P2 hn,ineJ b hb]
    simp only [Option.map_map]
    congr 1
    funext o;simp [b0S]
   ·have hs:b ∉ slj:=fun h=>N5 c2 hu h
    rw [a3f,U5,M9,P2 hn,ineJ b hb]
    simp only
    have:v3 slj b=id:=by funext o;simp [v3,hs]
    rw [this];simp
  ·obtain ⟨h1,h2,h3,h4⟩:=ci b k v e
   rw [a3f,U5,M9,P2 h3]
   simp only
   rw [a3q.2 hf]
   cases hjj:insj with
   | none=>exact ⟨ents,rfl,hl⟩
   | some x=>
     obtain ⟨m,kj,vj'⟩:=x
     by_cases em:m=b
     ·subst em
      simp only [a7m,if_true]
      exact ⟨_,rfl,by rw [O6 (h4 kj vj' hjj)];exact hl⟩
     ·rw [b1r em];exact ⟨ents,rfl,hl⟩
 ·refine ⟨fun n=>?_,fun b=>?_,?_,?_⟩
  ·simp only [Ab.after,D5]
   cases hid:i.dst with
   | none=>cases j.dst <;>rfl
   | some x=>
     cases hjd:j.dst with
     | none=>rfl
     | some y=>
       have hne:=a3 x y hid hjd
       have e1:x % 2 ^ d7=x:=Nat.mod_eq_of_lt (di x hid)
       have e2:y % 2 ^ d7=y:=Nat.mod_eq_of_lt (dj y hjd)
       simp only [H4,e1,e2]
       by_cases h1:n % 2 ^ d7=x <;>by_cases h2:n % 2 ^ d7=y
       ·exact absurd (h1.symm.trans h2) hne
       ·rw [if_pos h1,if_neg h2,if_pos h1]
       ·rw [if_neg h1,if_pos h2,if_pos h2]
       ·rw [if_neg h1,if_neg h2,if_neg h2,if_neg h1]
  ·have F:∀ (st:St) (r:m7) (v:AV) (sl:List Nat) (up:List (Nat × Option d9)) (ins:Ins),find (Ab.after st r v sl up ins).σ b=a7m ins b (match upF up b with | some x=>x | none=>(find st.σ b).map (v3 sl b)):=fun st r v sl up ins=>by
    rw [a3f,U5,M9]
   rw [F,F,F,F]
   have hcomm:=fun o=>b8B (i:=insi) (j:=insj) (b:=b) (o:=o) fun m k v k' v' e e'=>(ci m k v e).2.2.2 k' v' e'
   have old:(match upF upj b with | some x=>x | none=>(match upF upi b with | some x=>x | none=>(find st.σ b).map (v3 sli b)).map (v3 slj b))=(match upF upi b with | some x=>x | none=>(match upF upj b with | some x=>x | none=>(find st.σ b).map (v3 slj b)).map (v3 sli b)):=by
    by_cases h1:b ∈ upi.map (·.1)
    ·have n2:b ∉ upj.map (·.1):=fun h=>N5 c3 h1 h
     have n3:b ∉ slj:=fun h=>N5 c2 h1 h
     rw [P2 n2]
     cases hu:upF upi b with
     | none=>
       simp only [Option.map_map]
       congr 1
       funext o;simp [v3,n3]
     | some x=>
       simp only
       have:v3 slj b=id:=by funext o;simp [v3,n3]
       rw [this];simp
    ·rw [P2 h1]
     cases hu:upF upj b with
     | none=>
       simp only [Option.map_map]
       congr 1
       funext o;simp [b5W]
     | some x=>
       simp only
       have hm:b ∈ upj.map (·.1):=Decidable.byContradiction fun hm=>by rw [P2 hm] at hu;cases hu
       have n3:b ∉ sli:=fun h=>N5 c5 h hm
       have:v3 sli b=id:=by funext o;simp [v3,n3]
       rw [this];simp
   cases hii:insi with
   | none=>
     cases hjj:insj with
     | none=>exact old.symm
     | some y=>
       subst hjj
       obtain ⟨_,e1,e2⟩:=hj.b4u
       subst e1;subst e2
       obtain ⟨m,k,v⟩:=y
       obtain ⟨h1,h2,h3,_⟩:=cj m k v rfl
       simp only [upF,a7m]
       have hid:v3 [] b=id:=by funext o;simp [v3]
       rw [hid]
       by_cases em:m=b
       ·subst em
        rw [P2 h3]
        have:v3 sli m=id:=by funext o;simp [v3,h2]
        simp only [this,Option.map_id,id]
       ·simp only [if_neg em,Option.map_id,id]
   | some x=>
     subst hii
     obtain ⟨_,e1,e2⟩:=hi.b4u
     subst e1;subst e2
     cases hjj:insj with
     | none=>
       obtain ⟨m,k,v⟩:=x
       obtain ⟨h1,h2,h3,_⟩:=ci m k v rfl
       simp only [upF,a7m]
       have hid:v3 [] b=id:=by funext o;simp [v3]
       rw [hid]
       by_cases em:m=b
       ·subst em
        rw [P2 h3]
        have:v3 slj m=id:=by funext o;simp [v3,h2]
        simp only [this,Option.map_id,id]
       ·simp only [if_neg em,Option.map_id,id]
     | some y=>
       subst hjj
       obtain ⟨_,e1,e2⟩:=hj.b4u
       subst e1;subst e2
       have hid:v3 [] b=id:=by funext o;simp [v3]
       simp only [upF,hid,Option.map_id,id]
       exact (hcomm _).symm
  ·simp only [Ab.after,a9w]
  ·simp only [Ab.after,a1S]
end
end Go.Ab
namespace Go.Ab
structure Dat where
 v:AV
 rd:List Nat
 sl:List Nat
 up:List (Nat × Option d9)
 ins:Ins
def Dat.a2j (d:Dat) (r:m7):Rec:=⟨d.rd,d.sl,d.up.map (·.1),r.pre,b6A d.ins⟩
theorem a4K.symm {a b:St} (h:a4K a b):a4K b a:=⟨fun n=>(h.tm n).symm,fun n=>(h.σ n).symm,h.nx.symm,h.nt.symm⟩
section
variable (G:Gl) (Ok:Nat→List PV→Own→PV→Prop)
def b0z (r:m7) (nm:Nat) (st:St) (d:Dat):Prop:=a3B G Ok r nm st d.v d.rd d.sl d.up d.ins
def W0 (st:St) (r:m7) (d:Dat):St:=after st r d.v d.sl d.up d.ins
def a3e (ins:Nat→m7) (nmf:Nat→Nat) (dat:Nat→Dat):List Nat→St→St→Prop
 | [],st,st'=>a4K st st'
 | i::L,st,st'=>b0z G Ok (ins i) (nmf i) st (dat i)∧a3e ins nmf dat L (W0 st (ins i) (dat i)) st'
variable {G Ok}
variable {ins:Nat→m7} {nmf:Nat→Nat} {dat:Nat→Dat}
theorem a3e.congr:∀ (L:List Nat) {st st' sf:St},a3e G Ok ins nmf dat L st sf→a4K st st'→a3e G Ok ins nmf dat L st' sf
 | [],_,_,_,h,e=>e.symm.trans h
 | _::L,_,_,_,h,e=>⟨a3B.congr h.1 e,a3e.congr L h.2 (a4K.after e)⟩
theorem a3e.b5V {dat':Nat→Dat}:∀ (L:List Nat) {st sf:St},(∀ i ∈ L,dat' i=dat i)→a3e G Ok ins nmf dat L st sf→a3e G Ok ins nmf dat' L st sf
 | [],_,_,_,h=>h
 | i::L,_,_,hd,h=>by
   have e:=hd i (by simp)
   refine ⟨by rw [e];exact h.1,?_⟩
   rw [e]
   exact a3e.b5V L (fun k hk=>hd k (by simp [hk])) h.2
theorem a3e.front {j:Nat} {C:List Nat} (hj:a1b (ins j)=true):∀ (A:List Nat) {st sf:St},
 (∀ i ∈ A,a1b (ins i)=true∧a4d (ins i) (ins j)=true∧((dat i).a2j (ins i)).a1Z ((dat j).a2j (ins j))=false)→
 a3e G Ok ins nmf dat (A++j::C) st sf→b0z G Ok (ins j) (nmf j) st (dat j)∧a3e G Ok ins nmf dat (A++C) (W0 st (ins j) (dat j)) sf
 | [],_,_,_,h=>h
 | i::A,st,sf,hA,h=>by
   obtain ⟨h1,h2⟩:=h
   obtain ⟨h3,h4⟩:=a3e.front hj A (fun k hk=>hA k (by simp [hk])) h2
   obtain ⟨s1,s2,s3⟩:=hA i (by simp)
   obtain ⟨k1,k2,k3⟩:=a3B.swap h1 h3 s1 hj s2 s3
   exact ⟨k1,k2,a3e.congr _ h4 k3⟩
theorem a6s {r:Rec}:∀ (l:List Rec) (i:Nat),a2X r i l=true→∀ k x,l[k]?=some x→x.a1Z r=true→r.pre.testBit (i+k)=true
 | [],_,_,k,x,h=>by simp at h
 | y::l,i,h,k,x,hx=>by
   simp only [a2X,Bool.and_eq_true,Bool.or_eq_true,Bool.not_eq_true'] at h
   cases k with
   | zero=>simp at hx;subst hx;intro hc;rcases h.1 with h | h;·rw [h] at hc;cases hc
           ·exact h
   | succ k=>
     simp at hx
     intro hc
     have:=a6s l (i+1) h.2 k x hx hc
     have e:i+1+k=i+(k+1):=by omega
     rwa [e] at this
theorem b0G:∀ (l done:List Rec),e9 done l=true→∀ i j x r,i<j→done.length≤j→(done++l)[i]?=some x→(done++l)[j]?=some r→x.a1Z r=true→r.pre.testBit i=true
 | [],done,_,i,j,x,r,hij,hd,hx,hr=>by
   simp at hr;have:=(List.getElem?_eq_some_iff.1 hr).1;omega
 | y::l,done,h,i,j,x,r,hij,hd,hx,hr=>by
   simp only [e9,Bool.and_eq_true] at h
   by_cases e:j=done.length
   ·subst e
    simp at hr;subst hr
    intro hc
    rw [List.getElem?_append_left hij] at hx
    have:=a6s done 0 h.1 i x hx hc
    simpa using this
   ·have:done++y::l=(done++[y])++l:=by simp
    rw [this] at hx hr
    exact b0G l _ h.2 i j x r hij (by simp;omega) hx hr
theorem b5I {r:m7} {nm:Nat} {st:St} {K:St→Rec→Prop} (hg:∀ t want,r.guard=some (t,want)→st.ev G (.t t)= .pv (.bool want)) (h:opW G Ok r nm st K):
 ∃ d,b0z G Ok r nm st d∧K (W0 st r d) (d.a2j r):=by
 unfold opW at h
 split at h
 ·rename_i f args ho
  split at h
  ·rename_i g a b hc
   split at h
   ·rename_i p hp
    obtain ⟨tm,σ,nx,nt⟩:=st
    split at h
    ·rename_i v c es rows _ _ _ _ hr he
     cases he
     simp only [j7,H0,I3] at h
     exact ⟨⟨v,[c],[],[(c,some (.arr es rows false))],none⟩,.a9v hg ho hc hp hr,h⟩
    ·exact h.elim
   ·rename_i hnp
    split at h
    ·rename_i ps m hp
     obtain ⟨own,res,hok,h⟩:=h
     obtain ⟨tm,σ,nx,nt⟩:=st
     generalize himp:imp own nm res=vu at h
     obtain ⟨v,up⟩:=vu
     simp only [a2i,H0,I3] at h
     exact ⟨⟨v,[],m,up,none⟩,.call hg ho hc hnp hp hok himp,h⟩
    ·exact h.elim
  ·exact h.elim
 ·rename_i hn
  obtain ⟨tm,σ,nx,nt⟩:=st
  simp only at h
  split at h
  ·rename_i e he
   rw [H0,I3] at h
   by_cases hi:∃ m k x,r.op= .insert m k x
   ·obtain ⟨m,k,x,ho⟩:=hi
    have he':=he
    rw [ho] at he'
    simp only [step] at he'
    split at he'
    ·rename_i b s hm hk
     split at he'
     ·rename_i ents hf
      split at he'
      ·rename_i hl
       cases he'
       refine ⟨⟨.undef,[],[],[],some (b,s,St.ev G ⟨tm,σ,nx,nt⟩ x)⟩,.ins hg ho hm hk hf hl,?_⟩
       have e1:b2w (St.ev G ⟨tm,σ,nx,nt⟩) r.op {v:=.undef,rd:=[b],up:=[(b,some (.map (W5 s (St.ev G ⟨tm,σ,nx,nt⟩ x) ents)))]} r.pre=Dat.a2j ⟨.undef,[],[],[],some (b,s,St.ev G ⟨tm,σ,nx,nt⟩ x)⟩ r:=by
        simp only [b2w,ho,hm,hk];rfl
       rw [e1] at h
       have e2:W0 ⟨tm,σ,nx,nt⟩ r ⟨.undef,[],[],[],some (b,s,St.ev G ⟨tm,σ,nx,nt⟩ x)⟩=D5 ⟨tm,σ,nx,nt⟩ r.dst .undef (m0 σ [(b,some (.map (W5 s (St.ev G ⟨tm,σ,nx,nt⟩ x) ents)))]):=by
        simp only [W0,after,A6,m0,b5q,hf]
       rw [e2]
       exact h
      ·cases he'
     ·cases he'
    ·cases he'
   ·have hni:∀ m k x,r.op≠ .insert m k x:=fun m k x e=>hi ⟨m,k,x,e⟩
    refine ⟨⟨e.v,e.rd,[],e.up,none⟩,.op hni hg he,?_⟩
    have e1:b2w (St.ev G ⟨tm,σ,nx,nt⟩) r.op e r.pre=Dat.a2j ⟨e.v,e.rd,[],e.up,none⟩ r:=by
     unfold b2w
     split
     ·rename_i m k x ho;exact absurd ho (hni m k x)
     ·rfl
    rw [e1] at h
    exact h
  ·exact h.elim
theorem b3C {r:m7} {nm:Nat} {st:St} {K:St→Rec→Prop} (h:a8Z G Ok r nm st K):∃ d,b0z G Ok r nm st d∧K (W0 st r d) (d.a2j r):=by
 unfold a8Z at h
 split at h
 ·rename_i hg
  exact b5I (fun t want e=>by rw [hg] at e;cases e) h
 ·rename_i t want hg
  split at h
  ·rename_i x hx
   have hdo:x=want→opW G Ok r nm st K→∃ d,b0z G Ok r nm st d∧K (W0 st r d) (d.a2j r):=fun e h=>
    b5I (fun t' want' e'=>by rw [hg] at e';cases e';rw [hx,e]) h
   have hno:x=!want→(match st with | ⟨tm,σ,nx,nt⟩=>b2t ⟨tm,σ,nx,nt⟩ r.dst (.o0 []) σ fun st'=>K st' {rd:=[],sl:=[],wr:=[],pre:=r.pre})→
    ∃ d,b0z G Ok r nm st d∧K (W0 st r d) (d.a2j r):=by
    intro e h
    refine ⟨⟨.o0 [],[],[],[],none⟩,.left hg (.inl (by rw [hx,e])),?_⟩
    obtain ⟨tm,σ,nx,nt⟩:=st
    simp only [I3] at h
    exact h
   cases x <;>cases want <;>simp only at h
   ·exact hdo rfl h
   ·exact hno rfl h
   ·exact hno rfl h
   ·exact hdo rfl h
  ·rename_i hx
   refine ⟨⟨.o0 [],[],[],[],none⟩,.left hg (.inr hx),?_⟩
   obtain ⟨tm,σ,nx,nt⟩:=st
   simp only [I3] at h
   exact h
  ·exact h.elim
theorem b5K (full:List m7) (nx0:Nat) (draw:Bool):∀ (l:List m7) (k:Nat) (recs:List Rec) (st:St) (K:St→Prop),full.drop k=l→
 b5J G Ok draw l (nx0+g9*k) recs st K→
 ∃ (dat:Nat→Dat) (sf:St),a3e G Ok (fun i=>full.getD i default) (fun i=>nx0+g9*i) dat (List.range' k l.length) st sf∧K sf∧
   (draw=true→e9 [] (recs++(List.range' k l.length).map fun i=>(dat i).a2j (full.getD i default))=true)
 | [],k,recs,st,K,_,h=>by
   simp only [b5J] at h
   refine ⟨fun _=>⟨.undef,[],[],[],none⟩,st,a4K.refl st,?_⟩
   cases draw
   ·exact ⟨h,fun e=>by cases e⟩
   ·simp only at h
    split at h
    ·rename_i hc;exact ⟨h,fun _=>by simpa using hc⟩
    ·exact h.elim
 | r::l,k,recs,st,K,hfull,h=>by
   simp only [b5J,j7] at h
   obtain ⟨d,hd,h⟩:=b3C h
   have hk:full.getD k default=r:=by
    have:(full.drop k)[0]?=some r:=by rw [hfull];rfl
    rw [List.getElem?_drop] at this
    simp only [Nat.add_zero] at this
    simp [List.getD,this]
   have hdrop:full.drop (k+1)=l:=by
    have:=congrArg (List.drop 1) hfull
    rw [List.drop_drop] at this
    simpa using this
   have e:nx0+g9*k+g9=nx0+g9*(k+1):=by rw [Nat.mul_succ];omega
   rw [e] at h
   obtain ⟨dat,sf,h1,h2,h3⟩:=b5K full nx0 draw l (k+1) _ _ K hdrop h
   have hne:∀ i ∈ List.range' (k+1) l.length,i≠k:=fun i hi=>by have:=List.mem_range'_1.1 hi;omega
   refine ⟨fun i=>if i=k then d else dat i,sf,?_,h2,fun hdr=>?_⟩
   ·show a3e G Ok _ _ _ (k::List.range' (k+1) l.length) st sf
    refine ⟨?_,?_⟩
    ·simp only [if_true,hk];exact hd
    ·simp only [if_true,hk]
     exact a3e.b5V _ (fun i hi=>by rw [if_neg (hne i hi)]) h1
   ·have h3:=h3 hdr
    subst hdr
    simp only at h3
    show e9 [] (recs++List.map _ (k::List.range' (k+1) l.length))=true
    simp only [List.map_cons,if_true]
    rw [hk]
    have em:(List.range' (k+1) l.length).map (fun i=>((if i=k then d else dat i).a2j (full.getD i default)))=(List.range' (k+1) l.length).map fun i=>(dat i).a2j (full.getD i default):=
     List.map_congr_left fun i hi=>by rw [if_neg (hne i hi)]
    rw [em]
    simpa using h3
end
end Go.Ab
namespace Go.Ab
open Go.RowKit
section
variable {B:Nat} {w:World} {I:v9} {ι:Nat→Option Nat} {σ:b7} {D:Nat→Prop} {M:List Nat}
theorem b7T (hs:z6 B w I ι σ D) {b i n:Nat} {o:d9} {v:Value} {ps:List (List PV)} (hM:b ∈ M) (hf:find σ b=some o) (hm:o.L0=false) (hv:b6n w ι o b i n v)
 (hl:ps.length=n) (hrow:∀ k,k<n→∃ row prow,o.row? (i+k)=some row∧ps[k]?=some prow∧row.length=prow.length∧
  ∀ (j:Nat) (a:AV) (q:PV) (x:Value),row[j]?=some a→prow[j]?=some q→e8 w I ι σ D x a→z5 w (P0 I ι σ M) x q):z5 w (P0 I ι σ M) v (.sl o.es ps):=by
 obtain ⟨p,cap,rfl,hin,hcap,hcase⟩:=hv
 by_cases h0:n=0
 ·subst h0
  have:ps=[]:=List.eq_nil_of_length_eq_zero hl
  subst this
  exact .sl (fun _ _=>default) rfl (by omega) (fun i row h=>by simp at h) (fun h=>absurd rfl h) (fun i j row q h=>by simp at h)
 ·rcases hcase with ⟨h,_⟩ | ⟨r,c,T,fz,hr,rfl,hheap,hsz⟩
  ·exact absurd h h0
  ·have cell:∀ k j,k<n→j<o.es→∃ row prow a q x,o.row? (i+k)=some row∧ps[k]?=some prow∧row[j]?=some a∧prow[j]?=some q∧c[(i+k)*o.es+j]?=some x∧a6k w I ι σ D x a∧z5 w (P0 I ι σ M) x q:=by
    intro k j hk hj
    obtain ⟨row,prow,h1,h2,h3,h4⟩:=hrow k hk
    obtain ⟨r',c',T',fz',k1,k2,k3,k4,k5,k6⟩:=P7 hs hf h1
    rw [hr] at k1;cases k1
    rw [hheap] at k2;cases k2
    have ha:j<row.length:=by rw [k5];exact hj
    have hq:j<prow.length:=by rw [← h3];exact ha
    obtain ⟨x,hx,hrep⟩:=k6 j _ (List.getElem?_eq_getElem ha)
    exact ⟨row,prow,_,_,x,h1,h2,List.getElem?_eq_getElem ha,List.getElem?_eq_getElem hq,hx,hrep,h4 j _ _ x (List.getElem?_eq_getElem ha) (List.getElem?_eq_getElem hq) hrep.2⟩
   refine .sl (fun k j=>(c[(i+k)*o.es+j]?).getD default) hl (by omega) (fun k prow h=>?_) (fun _=>⟨_,rfl,rfl,fun k j hk hj=>?_⟩) (fun k j prow q h hq=>?_)
   ·obtain ⟨row,prow',h1,h2,h3,_⟩:=hrow k (by rw [← hl];exact (List.getElem?_eq_some_iff.1 h).1)
    rw [h2] at h;cases h
    obtain ⟨_,_,_,_,_,_,_,_,k5,_⟩:=P7 hs hf h1
    rw [← h3,k5]
   ·obtain ⟨row,prow,a,q,x,h1,h2,h3,h4,h5,h6,h7⟩:=cell k j (by omega) hj
    have e:i*o.es+(k*o.es+j)=(i+k)*o.es+j:=by rw [Nat.add_mul];omega
    refine ⟨?_,?_,?_⟩
    ·rw [cell_of hheap,e,h5];rfl
    ·refine .inr ⟨b,o,hM,hf,hm,hr,?_⟩
     rw [e]
     have:i+k<o.len:=by omega
     calc (i+k)*o.es+j<(i+k)*o.es+o.es:=by omega
      _=(i+k+1)*o.es:=by rw [Nat.add_mul (i+k) 1,Nat.one_mul]
      _≤o.len*o.es:=Nat.mul_le_mul_right _ this
    ·rw [h5];exact h6.1
   ·have hk:k<n:=by rw [← hl];exact (List.getElem?_eq_some_iff.1 h).1
    obtain ⟨row,prow',h1,h2,h3,_⟩:=hrow k hk
    rw [h2] at h;cases h
    have hj:j<o.es:=by
     obtain ⟨_,_,_,_,_,_,_,_,k5,_⟩:=P7 hs hf h1
     rw [← k5,h3];exact (List.getElem?_eq_some_iff.1 hq).1
    obtain ⟨row',prow',a,q',x,g1,g2,g3,g4,g5,g6,g7⟩:=cell k j hk hj
    rw [h2] at g2;cases g2
    rw [hq] at g4;cases g4
    rw [g5];exact g7
theorem a8e:b7r w I w (P0 I ι σ M):=fun _ _ _ hi hx=>⟨hx,.inl hi⟩
def b9L (w:World) (I:v9) (ι:Nat→Option Nat) (σ:b7) (D:Nat→Prop) (M:List Nat) (f:AV→Option (PV × List Nat)):Prop:=
 ∀ a p m v,f a=some (p,m)→(∀ b ∈ m,b ∈ M)→e8 w I ι σ D v a→z5 w (P0 I ι σ M) v p
theorem a2g {f:AV→Option (PV × List Nat)} (hf:b9L w I ι σ D M f):∀ (l:List AV) (ps:List PV) (m:List Nat),a6O f l=some (ps,m)→(∀ b ∈ m,b ∈ M)→
 l.length=ps.length∧∀ (j:Nat) (a:AV) (q:PV) (x:Value),l[j]?=some a→ps[j]?=some q→e8 w I ι σ D x a→z5 w (P0 I ι σ M) x q
 | [],ps,m,h,_=>by simp only [a6O] at h;cases h;exact ⟨rfl,fun j a q x h=>by simp at h⟩
 | a::l,ps,m,h,hm=>by
   simp only [a6O] at h
   split at h
   ·rename_i p n hp
    split at h
    ·rename_i ps' m' hps
     cases h
     obtain ⟨e,hr⟩:=a2g hf l ps' m' hps fun b hb=>hm b (List.mem_append_right _ hb)
     refine ⟨by simp [e],fun j a' q x ha hq hx=>?_⟩
     cases j with
     | zero=>simp at ha hq;subst ha;subst hq;exact hf _ _ _ x hp (fun b hb=>hm b (List.mem_append_left _ hb)) hx
     | succ j=>simp at ha hq;exact hr j a' q x ha hq hx
    ·cases h
   ·cases h
theorem b2r {f:AV→Option (PV × List Nat)} (hf:b9L w I ι σ D M f):∀ (l:List (List AV)) (ps:List (List PV)) (m:List Nat),b3i f l=some (ps,m)→(∀ b ∈ m,b ∈ M)→
 l.length=ps.length∧∀ (k:Nat) (row:List AV) (prow:List PV),l[k]?=some row→ps[k]?=some prow→row.length=prow.length∧
   ∀ (j:Nat) (a:AV) (q:PV) (x:Value),row[j]?=some a→prow[j]?=some q→e8 w I ι σ D x a→z5 w (P0 I ι σ M) x q
 | [],ps,m,h,_=>by simp only [b3i] at h;cases h;exact ⟨rfl,fun j a q h=>by simp at h⟩
 | a::l,ps,m,h,hm=>by
   simp only [b3i] at h
   split at h
   ·rename_i p n hp
    split at h
    ·rename_i ps' m' hps
     cases h
     obtain ⟨e,hr⟩:=b2r hf l ps' m' hps fun b hb=>hm b (List.mem_append_right _ hb)
     refine ⟨by simp [e],fun j row prow ha hq=>?_⟩
     cases j with
     | zero=>simp at ha hq;subst ha;subst hq;exact a2g hf _ _ _ hp fun b hb=>hm b (List.mem_append_left _ hb)
     | succ j=>simp at ha hq;exact hr j row prow ha hq
    ·cases h
   ·cases h
theorem b1z (hs:z6 B w I ι σ D):∀ k,b9L w I ι σ D M (pub σ k):=by
 have pure:∀ {v:Value} {p:PV},e8 w I ι σ D v (.pv p)→z5 w (P0 I ι σ M) v p:=fun h=>by cases h with | pv h=>exact h.mono a8e
 have emp:∀ {v:Value} {es:Nat},e8 w I ι σ D v (.emp es)→z5 w (P0 I ι σ M) v (.emp es):=fun h=>by
  cases h
  exact .emp _
 have fsl:∀ {v:Value} {es:Nat} {rows:List (List PV)},e8 w I ι σ D v (.fsl es rows)→z5 w (P0 I ι σ M) v (.sl es rows):=fun h=>by
  cases h with | fsl h=>exact h.mono a8e
 intro k
 induction k with
 | zero=>
   intro a p m v h hm hv
   cases a <;>simp only [pub] at h <;>cases h
   ·exact pure hv
   ·exact emp hv
   ·exact fsl hv
 | succ k ih=>
   intro a p m v h hm hv
   cases a with
   | pv p=>simp only [pub] at h;cases h;exact pure hv
   | emp es=>simp only [pub] at h;cases h;exact emp hv
   | fsl es rows=>simp only [pub] at h;cases h;exact fsl hv
   | agg cs=>
     simp only [pub] at h
     split at h
     ·rename_i ps n hp
      cases h
      cases hv with
      | agg hl h=>
        obtain ⟨e,hr⟩:=a2g ih _ _ _ hp hm
        refine .agg (by rw [hl,e]) fun j x q hx hq=>?_
        have hj:j<cs.length:=by rw [e];exact (List.getElem?_eq_some_iff.1 hq).1
        exact hr j _ q x (List.getElem?_eq_getElem hj) hq (h j x _ hx (List.getElem?_eq_getElem hj))
     ·cases h
   | o0 cs=>
     simp only [pub] at h
     split at h
     ·rename_i ps n hp
      cases h
      cases hv with
      | o0 hl h=>
        obtain ⟨e,hr⟩:=a2g ih _ _ _ hp hm
        refine .o0 (by rw [hl,e]) fun j x q hx hq=>?_
        have hj:j<cs.length:=by rw [e];exact (List.getElem?_eq_some_iff.1 hq).1
        exact hr j _ q x (List.getElem?_eq_getElem hj) hq (h j x _ hx (List.getElem?_eq_getElem hj))
     ·cases h
   | func fn a b=>
     simp only [pub] at h
     split at h
     ·rename_i ps n hp
      split at h
      ·rename_i qs n' hq
       cases h
       cases hv with
       | func hl hl' h1 h2=>
         obtain ⟨e,hr⟩:=a2g ih _ _ _ hp fun b hb=>hm b (List.mem_append_left _ hb)
         obtain ⟨e',hr'⟩:=a2g ih _ _ _ hq fun b hb=>hm b (List.mem_append_right _ hb)
         refine .func (by rw [hl,e]) (by rw [hl',e']) (fun j x q hx hq=>?_) (fun j x q hx hq=>?_)
         ·have hj:j<a.length:=by rw [e];exact (List.getElem?_eq_some_iff.1 hq).1
          exact hr j _ q x (List.getElem?_eq_getElem hj) hq (h1 j x _ hx (List.getElem?_eq_getElem hj))
         ·have hj:j<b.length:=by rw [e'];exact (List.getElem?_eq_some_iff.1 hq).1
          exact hr' j _ q x (List.getElem?_eq_getElem hj) hq (h2 j x _ hx (List.getElem?_eq_getElem hj))
      ·cases h
     ·cases h
   | own b i n=>
     simp only [pub] at h
     split at h
     ·rename_i es rows s hf
      cases h
      cases hv with
      | own hD h1 hv=>
        have hov:=hv _ hf
        have hin:i+n≤rows.length:=by obtain ⟨_,_,_,h,_⟩:=hov;exact h
        refine b7T (o:=.arr es rows s) hs (hm b (by simp)) hf rfl hov (by simp;omega) fun k hk=>?_
        have hk':i+k<rows.length:=by omega
        refine ⟨(rows[i+k]).map .pv,rows[i+k],by simp [d9.row?,hk'],by simp [List.getElem?_take_of_lt hk,hk'],by simp,fun j a q x ha hq hx=>?_⟩
        rw [List.getElem?_map,hq] at ha
        simp at ha;subst ha
        exact pure hx
     ·rename_i es rows s hf
      split at h
      ·rename_i ps m' hp
       cases h
       cases hv with
       | own hD h1 hv=>
         have hov:=hv _ hf
         have hin:i+n≤rows.length:=by obtain ⟨_,_,_,h,_⟩:=hov;exact h
         obtain ⟨e,hr⟩:=b2r ih _ _ _ hp fun b' hb=>hm b' (List.mem_cons_of_mem _ hb)
         have hlen:ps.length=n:=by rw [← e];simp;omega
         refine b7T (o:=.box es rows s) hs (hm b (by simp)) hf rfl hov hlen fun k hk=>?_
         have hk':i+k<rows.length:=by omega
         have hpk:k<ps.length:=by omega
         obtain ⟨g1,g2⟩:=hr k rows[i+k] ps[k] (by simp [List.getElem?_take_of_lt hk,hk']) (List.getElem?_eq_getElem hpk)
         exact ⟨rows[i+k],ps[k],by simp [d9.row?,hk'],List.getElem?_eq_getElem hpk,g1,g2⟩
      ·cases h
     ·cases h
   | ptr b i j=>
     simp only [pub] at h
     split at h
     ·rename_i o hf
      split at h
      ·rename_i row hrow
       split at h
       ·rename_i ps m' hp
        cases h
        cases hv with
        | ptr hD h1 hv=>
          obtain ⟨r,hr,rfl⟩:=hv o hf
          obtain ⟨e,hr'⟩:=a2g ih _ _ _ hp fun b' hb=>hm b' (List.mem_cons_of_mem _ hb)
          obtain ⟨r',c,T,fz,k1,k2,k3,k4,k5,k6⟩:=P7 hs hf hrow
          rw [hr] at k1;cases k1
          have hmap:o.L0=false:=by cases o <;>simp_all [d9.row?,d9.L0]
          have hi:i<o.len:=by
           cases o with
           | map ents=>simp [d9.row?] at hrow
           | arr e rs s=>simp only [d9.row?] at hrow;split at hrow <;>cases hrow;rename_i h;exact (List.getElem?_eq_some_iff.1 h).1
           | box e rs s=>exact (List.getElem?_eq_some_iff.1 hrow).1
          have cell:∀ k,k<ps.length→∃ a x,(row.drop j)[k]?=some a∧c[i*o.es+(j+k)]?=some x∧a6k w I ι σ D x a:=by
           intro k hk
           have hk':k<(row.drop j).length:=by rw [e];exact hk
           have ha:=List.getElem?_eq_getElem hk'
           have ha':=ha
           rw [List.getElem?_drop] at ha'
           obtain ⟨x,hx,hrep⟩:=k6 (j+k) _ ha'
           exact ⟨_,x,ha,hx,hrep⟩
          refine .ref (fun k=>(c[i*o.es+j+k]?).getD default) rfl (fun k hk=>?_) (fun k q hq=>?_)
          ·obtain ⟨a,x,ha,hx,hrep⟩:=cell k hk
           have e2:i*o.es+j+k=i*o.es+(j+k):=by omega
           refine ⟨?_,?_,?_⟩
           ·rw [cell_of k2,e2,hx];rfl
           ·refine .inr ⟨b,o,hm b (by simp),hf,hmap,hr,?_⟩
            have hjk:j+k<o.es:=by
             rw [← k5]
             have:=(List.getElem?_eq_some_iff.1 ha).1
             simp at this;omega
            show i*o.es+j+k<_
            calc i*o.es+j+k<i*o.es+o.es:=by omega
             _=(i+1)*o.es:=by rw [Nat.add_mul,Nat.one_mul]
             _≤o.len*o.es:=Nat.mul_le_mul_right _ hi
           ·rw [e2,hx];exact hrep.1
          ·obtain ⟨a,x,ha,hx,hrep⟩:=cell k (List.getElem?_eq_some_iff.1 hq).1
           have e2:i*o.es+j+k=i*o.es+(j+k):=by omega
           rw [e2,hx]
           exact hr' k a q x ha hq hrep.2
       ·cases h
      ·cases h
     ·cases h
   | a0u b=>simp only [pub] at h;cases h
   | O5=>simp only [pub] at h;cases h
   | yld b=>simp only [pub] at h;cases h
   | mark k=>simp only [pub] at h;cases h
   | undef=>simp only [pub] at h;cases h
end
end Go.Ab
namespace Go.Ab
open Go.RowKit
abbrev Fw (ro:Option Nat):Fence:={Fence.wide with round:=ro}
def b9K (B:Nat) (w0:World) (I0:v9) (gs:Value→AV→Prop) (σ':b7) (D:Nat→Prop) (w:World) (av:AV):Ending→World→Prop
 | .returned v,w'=>∃ I' ι',Core B w0 I0 w' I' ι' σ' D∧e8 w' I' ι' σ' D v av∧(∀ x a,gs x a→e8 w' I' ι' σ' D x a)∧∀ (r:Nat) (o:Obj),still o=true→w.heap[r]?=some o→w'.heap[r]?=some o
 | _,_=>False
def c2o (P:Program) (g:Nat) (p:b7s):Prop:=
 ∀ (args:List AV) (σ:b7) (v:AV) (c es:Nat) (rows:List (List PV)),p.run args σ=some (v,c,es,rows)→
   ∀ (B:Nat) (w0:World) (I0:v9) (gs:Value→AV→Prop) (w:World) (I:v9) (ι:Nat→Option Nat) (D:Nat→Prop) (vs:Array Value),Core B w0 I0 w I ι σ D→(∃ m,∀ b,D b→b<m)→
     vs.size=args.length→(∀ (j:Nat) (x:Value) (q:AV),vs[j]?=some x→args[j]?=some q→e8 w I ι σ D x q)→(∀ x a,gs x a→e8 w I ι σ D x a)→
     (∀ w₁,(callFunc g vs).run P w₁= .ok (.enter g vs) w₁)∧CallsIn Fence.wide 0 P g vs w (b9K B w0 I0 gs (m0 σ [(c,some (.arr es rows false))]) D w v)
structure V9 (P:Program) (G:Gl) (w:World) (I:v9):Prop where
 a0P:∀ i cs,G i=some cs→z5 w I (.pointer (some ⟨i,0,none⟩)) (.ref cs)
 a9v:∀ g p,G.a9v g=some p→c2o P g p
def Names (nm:Nat):Nat→Prop:=fun b=>nm≤b∧b<nm+g9
def c3G (B:Nat) (w':World) (I':v9) (own:Own) (v:Value) (r:PV):Prop:=
 ∀ nm,∃ ι₁,z6 B w' I' ι₁ (m0 [] (imp own nm r).2) (Names nm)∧e8 w' I' ι₁ (m0 [] (imp own nm r).2) (Names nm) v (imp own nm r).1
def b9I (w:World) (I:v9) (vs:Array Value) (ps:List PV):Prop:=vs.size=ps.length∧∀ (j:Nat) (x:Value) (q:PV),vs[j]?=some x→ps[j]?=some q→z5 w I x q
def a4I (w:World) (I:v9) (own:Own) (r:PV):Ending→World→Prop
 | .returned v,w'=>∃ I',Below w.heap.size w w'∧(∀ a k,I a k→I' a k)∧(∀ a k,a<w.heap.size→I' a k→I a k)∧c3G w.heap.size w' I' own v r
 | _,_=>False
def l3 (P:Program) (G:Gl) (g:Nat) (ps:List PV) (own:Own) (r:PV):Prop:=
 ∀ (w:World) (I:v9) (vs:Array Value),(∀ a k,I a k→a<w.heap.size)→V9 P G w I→b9I w I vs ps→
   (∀ w₁,(callFunc g vs).run P w₁= .ok (.enter g vs) w₁)∧CallsIn Fence.wide 0 P g vs w (a4I w I own r)
def Marks (B:Nat) (a2q:Nat→Obj→Prop) (w:World) (ds:List Deferred):Prop:=∃ rs:List Nat,ds.map (·.target)=rs.map Target.collected∧rs.Nodup∧∀ r ∈ rs,B≤r∧(∀ o,¬ a2q r o)∧w.heap[r]?=some (.deferred (some []))
structure a4b where
 b:Nat
 l:Nat
 data:Loop
def a4b.at (p:a4b):Nat→Loop
 | 0=>{p.data with state:=.ready,pending:=none}
 | 1=>{p.data with state:=.done,pending:=some .ret}
 | i+2=>{p.data with state:=.done,pending:=some (.exit i)}
structure Gh where
 gs:Value→AV→Prop
 D0:Nat→Prop
 n0:Nat
 a2q:Nat→Obj→Prop
 lp:Option a4b
def Gh.top:Gh:=⟨fun _ _=>False,fun _=>True,0,fun _ _=>False,none⟩
structure a1c (P:Program) (G:Gl) (B:Nat) (w0:World) (I0:v9) (gh:Gh) (N:Nat→Prop) (s:St) (a:Act) (w:World) (I:v9) (ι:Nat→Option Nat) (D:Nat→Prop):Prop where
 core:Core B w0 I0 w I ι s.σ D
 names:∀ b,D b→N b
 dfs:Marks B gh.a2q w a.defers
 size:a.tmps.size=s.nt
 a0P:V9 P G w I
 tm:∀ t,t<1024→e8 w I ι s.σ D (a.tmps.getD t undef) (s.tm.get d7 t)
 ghost:∀ v av,gh.gs v av→e8 w I ι s.σ D v av
 base:∀ b,D b→gh.D0 b∨gh.n0≤b
 kept:∀ r o,gh.a2q r o→still o=true∧w.heap[r]?=some o
 loop:∀ p,gh.lp=some p→s.nt≤1023∧B≤p.l∧∃ k,s.tm.get d7 L2= .mark k∧w.heap[p.l]?=some (.loop (p.at k))
def Sim (P:Program) (G:Gl) (B:Nat) (w0:World) (I0:v9) (gh:Gh) (N:Nat→Prop) (s:St) (a:Act) (w:World):Prop:=
 ∃ I ι D,a1c P G B w0 I0 gh N s a w I ι D
section
variable {P:Program} {G:Gl} {B:Nat} {w0:World} {I0:v9} {gh:Gh} {N:Nat→Prop} {s:St} {a:Act} {w w':World} {I I':v9} {ι ι':Nat→Option Nat} {D D':Nat→Prop}
theorem V9.mono (h:V9 P G w I) (hk:b7r w I w' I'):V9 P G w' I':=⟨fun i cs hi=>(h.a0P i cs hi).mono hk,h.a9v⟩
theorem a1c.eval (h:a1c P G B w0 I0 gh N s a w I ι D) {o:Operand} {r:RA} (hk:i7 o r=true):e8 w I ι s.σ D (a.eval o) (s.ev G r):=by
 unfold i7 at hk
 split at hk
 ·simp at hk
  obtain ⟨rfl,hlt⟩:=hk
  exact h.tm _ hlt
 ·exact b9U hk
 ·simp at hk;subst hk
  exact .func rfl rfl (fun j x q _ hq=>by simp at hq) (fun j x q _ hq=>by simp at hq)
 ·simp at hk;subst hk
  simp only [St.ev,Act.eval]
  split
  ·rename_i cs hcs;exact .pv (h.a0P.a0P _ _ hcs)
  ·exact .undef _
 ·cases hk
theorem Marks.mono {m:Nat} {kp:Nat→Obj→Prop} {ds:List Deferred} {σ σ':b7} (h:Marks m kp w ds) (hL:q0 w I ι σ D w' I' ι' σ' D'):Marks m kp w' ds:=
 let ⟨rs,h1,h2,h3⟩:=h;⟨rs,h1,h2,fun r hr=>⟨(h3 r hr).1,(h3 r hr).2.1,hL.loops r _ rfl (h3 r hr).2.2⟩⟩
theorem a1c.put (h:a1c P G B w0 I0 gh N s a w I ι D) {dst:Option Nat} {av:AV} {v:Value} {σ':b7} {N':Nat→Prop} (hd:∀ d,dst=some d→d<s.nt∧d<1024)
 (hc:Core B w0 I0 w' I' ι' σ' D') (hL:q0 w I ι s.σ D w' I' ι' σ' D') (hv:e8 w' I' ι' σ' D' v av) (hN:∀ b,D' b→N' b) (hb:∀ b,D' b→D b∨gh.n0≤b):
 a1c P G B w0 I0 gh N' (D5 s dst av σ') (a.put dst v) w' I' ι' D':=by
 have hσ:(D5 s dst av σ').σ=σ':=a5N
 refine ⟨by rw [hσ];exact hc,hN,?_,?_,h.a0P.mono hL.keeps,fun t ht=>?_,fun v av hg=>by rw [hσ];exact (h.ghost v av hg).mono hL,fun b hD=>(hb b hD).elim (h.base b) .inr,fun r o hk=>⟨(h.kept r o hk).1,hL.loops r o (h.kept r o hk).1 (h.kept r o hk).2⟩,fun p hp=>?_⟩
 ·cases dst <;>exact h.dfs.mono hL
 ·cases dst with
  | none=>exact h.size
  | some d=>simp only [Act.put,D5,Array.size_setIfInBounds];exact h.size
 ·rw [hσ,a0O ht fun d e=>(hd d e).2]
  cases dst with
  | none=>simp only [Act.put,reduceCtorEq,if_false];exact (h.tm t ht).mono hL
  | some d=>
    have hds:d<a.tmps.size:=by rw [h.size];exact (hd d rfl).1
    simp only [Act.put,Option.some.injEq]
    by_cases e:d=t
    ·subst e;rw [if_pos rfl]
     have:(a.tmps.setIfInBounds d v).getD d undef=v:=by simp [Array.getD,hds]
     rw [this];exact hv
    ·rw [if_neg e]
     have:(a.tmps.setIfInBounds d v).getD t undef=a.tmps.getD t undef:=by
      simp only [Array.getD_eq_getD_getElem?]
      rw [Array.getElem?_setIfInBounds_ne e]
     rw [this];exact (h.tm t ht).mono hL
 ·obtain ⟨h1,h2,k,h3,h4⟩:=h.loop p hp
  refine ⟨by rw [a1S];exact h1,h2,k,?_,hL.loops _ _ rfl h4⟩
  rw [a0O (by decide) fun d e=>(hd d e).2,if_neg (fun e=>by have:=(hd _ e).1;simp only [L2] at this;omega)]
  exact h3
theorem a1c.eqv (h:a1c P G B w0 I0 gh N s a w I ι D) {s':St} (he:a4K s s'):a1c P G B w0 I0 gh N s' a w I ι D:=by
 have hL:q0 w I ι s.σ D w I ι s'.σ D:=⟨⟨fun _ _ _ hi hx=>⟨hx,hi⟩,fun _ h=>h,fun b o' _ ho=>by rw [he.σ] at ho;exact ⟨o',ho,rfl,rfl,rfl⟩,fun _ c _ fz h=>⟨c,fz,h,rfl⟩,fun _ _=>rfl⟩,fun _ _ _ h=>h⟩
 obtain ⟨hs,b1,b2,b3,b4⟩:=h.core
 refine ⟨⟨⟨hs.bnd,fun b o h'=>hs.dom b o (by rw [← he.σ];exact h'),fun b b' o o' r h₁ h₂=>hs.inj b b' o o' r (by rw [← he.σ];exact h₁) (by rw [← he.σ];exact h₂),
  fun b o r h'=>hs.ge b o r (by rw [← he.σ];exact h'),fun b o r k h'=>hs.sep b o r k (by rw [← he.σ];exact h'),
  fun b o h'=>(hs.obj b o (by rw [← he.σ];exact h')).mono hL rfl fun _ _=>rfl⟩,b1,b2,b3,b4⟩,h.names,h.dfs,h.size.trans he.nt.symm,h.a0P,fun t ht=>?_,fun v av hg=>(h.ghost v av hg).mono hL,h.base,h.kept,fun p hp=>let ⟨h1,h2,k,h3,h4⟩:=h.loop p hp;⟨by rw [he.nt];exact h1,h2,k,by rw [he.tm];exact h3,h4⟩⟩
 rw [he.tm];exact (h.tm t ht).mono hL
theorem Sim.eqv (h:Sim P G B w0 I0 gh N s a w) {s':St} (he:a4K s s'):Sim P G B w0 I0 gh N s' a w:=let ⟨I,ι,D,h⟩:=h;⟨I,ι,D,h.eqv he⟩
theorem Sim.weaken (h:Sim P G B w0 I0 gh N s a w) {N':Nat→Prop} (hn:∀ b,N b→N' b):Sim P G B w0 I0 gh N' s a w:=
 let ⟨I,ι,D,h⟩:=h;⟨I,ι,D,h.core,fun b hb=>hn b (h.names b hb),h.dfs,h.size,h.a0P,h.tm,h.ghost,h.base,h.kept,h.loop⟩
theorem Sim.drew (h:Sim P G B w0 I0 gh N s a w):Sim P G B w0 I0 gh N s a {w with drawn:=w.drawn+1}:=by
 obtain ⟨I,ι,D,h⟩:=h
 have hL:q0 w I ι s.σ D {w with drawn:=w.drawn+1} I ι s.σ D:=a1D rfl
 obtain ⟨hs,b1,b2,b3,b4⟩:=h.core
 exact ⟨I,ι,D,⟨hs.heap rfl,b1.drew,b2,b3,b4⟩,h.names,h.dfs,h.size,h.a0P.mono hL.keeps,fun t ht=>(h.tm t ht).mono hL,fun v av hg=>(h.ghost v av hg).mono hL,h.base,h.kept,h.loop⟩
theorem Core.move {σ:b7} (hc:Core B w0 I0 w I ι σ D) (hobj:∀ (r:Nat) (o:Obj),w.heap[r]?=some o→still o=false→w'.heap[r]?=some o) (hsz:w.heap.size≤w'.heap.size) (hb:Below B w w') (hι:∀ b,D b→ι' b=ι b) (hD:∀ b,D b→D' b):
 Core B w0 I0 w' I ι' σ D'∧Later0 w I ι σ D w' I ι' σ D':=by
 have hL:Later0 w I ι σ D w' I ι' σ D':=by
  refine ⟨fun r' k v hi hx=>⟨?_,hi⟩,hD,fun b o₁ hb h=>⟨o₁,h,rfl,rfl,hι b hb⟩,fun r₁ c T fz h₁=>⟨c,fz,hobj _ _ h₁ rfl,rfl⟩,hι⟩
  cases hr:w.heap[r']? with
  | none=>simp [World.cell?,hr] at hx
  | some o=>
    cases hs:still o with
    | false=>exact (B3 ((hobj r' o hr hs).trans hr.symm)).trans hx
    | true=>cases o <;>simp [World.cell?,hr,still] at hx hs
 refine ⟨?_,hL⟩
 obtain ⟨hs,b1,b2,b3,b4⟩:=hc
 refine ⟨⟨fun r' k hi=>Nat.lt_of_lt_of_le (hs.bnd r' k hi) hsz,fun b o h=>hD b (hs.dom b o h),fun b b' o o' r h₁ h₂ e₁ e₂=>hs.inj b b' o o' r h₁ h₂ (by rw [← hι b (hs.dom b o h₁)];exact e₁) (by rw [← hι b' (hs.dom b' o' h₂)];exact e₂),
  fun b o r h e=>hs.ge b o r h (by rw [← hι b (hs.dom b o h)];exact e),fun b o r k h e hi=>hs.sep b o r k h (by rw [← hι b (hs.dom b o h)];exact e) hi,fun b o hf=>?_⟩,b1.trans hb,b2,b3,b4⟩
 have hob:=hs.obj b o hf
 have hib:=hι b (hs.dom b o hf)
 have rows:D6 w I ι σ D b o→D6 w' I ι' σ D' b o:=by
  rintro (⟨h1,h2⟩ | ⟨r',c,T,fz,h1,h2,h3,h4,h5⟩)
  ·exact .inl ⟨hib.trans h1,h2⟩
  ·refine .inr ⟨r',c,T,fz,hib.trans h1,hobj _ _ h2 rfl,h3,h4,fun i row hrow=>⟨(h5 i row hrow).1,fun j v hv=>?_⟩⟩
   obtain ⟨x,hx,hrep⟩:=(h5 i row hrow).2 j v hv
   exact ⟨x,hx,hrep.1,hrep.2.a3U hL⟩
 cases o with
 | arr e rs sl=>exact rows hob
 | box e rs sl=>exact rows hob
 | map ents=>
   obtain ⟨r',es,clock,h1,h2,h3,h4⟩:=hob
   exact ⟨r',es,clock,hib.trans h1,hobj _ _ h2 rfl,fun e he=>let ⟨k,v,a,b,c⟩:=h3 e he;⟨k,v,a,b,c.a3U hL⟩,h4⟩
theorem Core.take {σ:b7} {own:Own} {r:PV} {v:Value} {nm:Nat} (hc:Core B w0 I0 w I ι σ D) (hn:∀ b,D b→¬ Names nm b) (hb:Below w.heap.size w w') (h1:∀ a k,I a k→I' a k)
 (h2:∀ a k,a<w.heap.size→I' a k→I a k) (hr:c3G w.heap.size w' I' own v r):
 ∃ ι',Core B w0 I0 w' I' ι' (m0 σ (imp own nm r).2) (fun b=>D b∨Names nm b)∧q0 w I ι σ D w' I' ι' (m0 σ (imp own nm r).2) (fun b=>D b∨Names nm b)∧
   e8 w' I' ι' (m0 σ (imp own nm r).2) (fun b=>D b∨Names nm b) v (imp own nm r).1:=by
 obtain ⟨ι₁,hs₁,hrep⟩:=hr nm
 obtain ⟨hs,hbl,hB,hext,hold⟩:=hc
 generalize (imp own nm r).2=up at hs₁ hrep ⊢
 generalize (imp own nm r).1=av at hrep ⊢
 have hBw:B≤w.heap.size:=Nat.le_trans hB hbl.size
 classical
 let ι':Nat→Option Nat:=fun b=>if Names nm b then ι₁ b else ι b
 have hnew:∀ b,Names nm b→ι' b=ι₁ b:=fun b h=>if_pos h
 have hkeep:∀ b,D b→ι' b=ι b:=fun b h=>if_neg (hn b h)
 have hf:∀ b o,find (m0 σ up) b=some o→(Names nm b∧find (m0 [] up) b=some o)∨(D b∧find σ b=some o):=by
  intro b o h
  rw [a5t] at h
  cases hu:upF up b with
  | some x=>
    rw [hu] at h
    simp only at h;subst h
    have:find (m0 [] up) b=some o:=by rw [a5t,hu]
    exact .inl ⟨hs₁.dom b o this,this⟩
  | none=>
    rw [hu] at h
    exact .inr ⟨hs.dom b o h,h⟩
 have hheap:∀ k,k<w.heap.size→w'.heap[k]?=w.heap[k]?:=hb.block
 have hL:q0 w I ι σ D w' I' ι' (m0 σ up) (fun b=>D b∨Names nm b):=by
  refine ⟨⟨fun r' k x hi hx=>⟨(B3 (hheap r' (hs.bnd r' k hi))).trans hx,h1 r' k hi⟩,fun b h=>.inl h,fun b o' hD ho=>?_,fun r' c T fz hr'=>⟨c,fz,?_,rfl⟩,hkeep⟩,fun r' _ _ hr'=>by rw [hheap r' (Array.getElem?_eq_some_iff.1 hr').1];exact hr'⟩
  ·rcases hf b o' ho with ⟨h,_⟩ | ⟨_,h⟩
   ·exact absurd h (hn b hD)
   ·exact ⟨o',h,rfl,rfl,hkeep b hD⟩
  ·rw [hheap r' (Array.getElem?_eq_some_iff.1 hr').1];exact hr'
 have hL₁:q0 w' I' ι₁ (m0 [] up) (Names nm) w' I' ι' (m0 σ up) (fun b=>D b∨Names nm b):=by
  refine ⟨⟨fun r' k x hi hx=>⟨hx,hi⟩,fun b h=>.inr h,fun b o' hD ho=>?_,fun r' c T fz hr'=>⟨c,fz,hr',rfl⟩,hnew⟩,fun _ _ _ h=>h⟩
  rcases hf b o' ho with ⟨_,h⟩ | ⟨h,_⟩
  ·exact ⟨o',h,rfl,rfl,hnew b hD⟩
  ·exact absurd hD (hn b h)
 refine ⟨ι',⟨⟨fun r' k hi=>hs₁.bnd r' k hi,fun b o ho=>?_,fun b b' o o' r' ho ho' e e'=>?_,fun b o r' ho e=>?_,fun b o r' k ho e hi=>?_,fun b o ho=>?_⟩,hbl.trans (hb.mono hBw),hB,
  fun r' k hi=>h1 r' k (hext r' k hi),fun r' k hlt hi=>hold r' k hlt (h2 r' k (by omega) hi)⟩,hL,hrep.mono hL₁⟩
 ·rcases hf b o ho with ⟨h,_⟩ | ⟨h,_⟩
  ·exact .inr h
  ·exact .inl h
 ·rcases hf b o ho with ⟨n1,f1⟩ | ⟨n1,f1⟩ <;>rcases hf b' o' ho' with ⟨n2,f2⟩ | ⟨n2,f2⟩
  ·rw [hnew b n1] at e;rw [hnew b' n2] at e';exact hs₁.inj b b' o o' r' f1 f2 e e'
  ·rw [hnew b n1] at e;rw [hkeep b' n2] at e'
   have:=hs₁.ge b o r' f1 e
   have:=hs.lt f2 e';omega
  ·rw [hkeep b n1] at e;rw [hnew b' n2] at e'
   have:=hs₁.ge b' o' r' f2 e'
   have:=hs.lt f1 e;omega
  ·rw [hkeep b n1] at e;rw [hkeep b' n2] at e';exact hs.inj b b' o o' r' f1 f2 e e'
 ·rcases hf b o ho with ⟨n1,f1⟩ | ⟨n1,f1⟩
  ·rw [hnew b n1] at e;have:=hs₁.ge b o r' f1 e;omega
  ·rw [hkeep b n1] at e;exact hs.ge b o r' f1 e
 ·rcases hf b o ho with ⟨n1,f1⟩ | ⟨n1,f1⟩
  ·rw [hnew b n1] at e;exact hs₁.sep b o r' k f1 e hi
  ·rw [hkeep b n1] at e;exact hs.sep b o r' k f1 e (h2 r' k (hs.lt f1 e) hi)
 ·rcases hf b o ho with ⟨n1,f1⟩ | ⟨n1,f1⟩
  ·exact (hs₁.obj b o f1).mono hL₁ (hnew b n1) fun _ _=>rfl
  ·exact (hs.obj b o f1).mono hL (hkeep b n1) fun r' hr'=>hheap r' (hs.lt f1 hr')
end
end Go.Ab
namespace Go.Ab
open Go.RowKit
def a0L (o:Op) (r:ROp):Bool:=
 match o,r with
 | .call c,.call f args=>(match c.callee with | .value x=>i7 x f&&a1g c.args.toList args | _=>false)
 | _,_=>false
def a4O (ops:Array Oper) (nt:Nat) (g:Option (Nat × Bool)) (h:Option (Nat × Bool)):Bool:=
 match g,h with
 | none,none=>true
 | some (j,want),some (t,want')=>want==want'&&decide (t<nt)&&(match ops[j]? with | some o=>o.dst==some t | none=>false)
 | _,_=>false
def a1v (P:Program) (ops:Array Oper) (nt:Nat) (o:Oper) (r:m7):Bool:=
 o.dst==r.dst&&(match r.dst with | some d=>decide (d<nt) | none=>true)&&a1b r&&a4O ops nt o.guard r.guard&&(a8M P o.op r.op||a0L o.op r.op)
theorem a8L {P:Program} {b:Builtin} {ts:List TypeId} {xs:List Operand} {f:RA} {a:List RA}:a3h P b ts xs (.call f a)=false:=by
 unfold a3h
 split <;>first | rfl | (rename_i he;cases he)
theorem a2K {P:Program} {o:Op} {f:RA} {a:List RA}:a8M P o (.call f a)=false:=by
 cases o <;>simp only [a8M]
 split
 ·exact a8L
 ·rfl
theorem b2N {P:Program} {o:Op} {r:ROp} (h:a8M P o r=true):∀ c,o≠ .defer c:=by
 intro c e
 subst e
 simp [a8M] at h
section
variable {P:Program} {G:Gl} {B:Nat} {w0:World} {I0:v9} {gh:Gh} {N:Nat→Prop} {s:St} {a:Act} {w w':World}
variable {ops:Array Oper} {i:Nat} {o:Oper} {r:m7} {nm n:Nat} {d:Dat} {ro:Option Nat} {Q:Exit→Act→World→Prop} {K:Act→World→Prop}
theorem a6p (hk:a1v P ops s.nt o r=true):o.dst=r.dst∧(∀ d,r.dst=some d→d<s.nt∧d<1024)∧a1b r=true∧a4O ops s.nt o.guard r.guard=true∧(a8M P o.op r.op=true∨a0L o.op r.op=true):=by
 simp only [a1v,Bool.and_eq_true,beq_iff_eq,Bool.or_eq_true] at hk
 obtain ⟨⟨⟨⟨h1,h2⟩,h3⟩,h4⟩,h5⟩:=hk
 refine ⟨h1,fun d hd=>⟨?_,(T8 h3).2 d hd⟩,h3,h4,h5⟩
 rw [hd] at h2;simpa using h2
theorem a3a (h:Sim P G B w0 I0 gh N s a w) (hg:a4O ops s.nt o.guard r.guard=true) (hs:a1b r=true) {b:Bool}
 (hv:∀ t want,r.guard=some (t,want)→s.ev G (.t t)= .pv (.bool (if b then want else !want))) (hno:b=false→r.guard≠none):Region.wanted o (yielded ops a.tmps)=b:=by
 obtain ⟨I,ι,D,h⟩:=h
 unfold a4O at hg
 split at hg
 ·rename_i h1 h2
  cases b
  ·exact absurd h2 (hno rfl)
  ·simp [Region.wanted,h1]
 ·rename_i j want t want' h1 h2
  simp only [Bool.and_eq_true,beq_iff_eq,decide_eq_true_eq] at hg
  obtain ⟨⟨rfl,hlt⟩,hj⟩:=hg
  split at hj
  ·rename_i oj hoj
   have ht:t<1024:=(T8 hs).1 t (List.mem_append_right _ (by rw [h2];simp))
   have hrep:=h.tm t ht
   have:=hv t want h2
   simp only [St.ev] at this
   rw [this] at hrep
   have hb:=a4T hrep
   have hts:t<a.tmps.size:=by rw [h.size];exact hlt
   have hget:a.tmps[t]?=some (.bool (if b then want else !want)):=by
    rw [← hb];simp [Array.getD,hts]
   have hd:oj.dst=some t:=by simpa using hj
   have:yielded ops a.tmps j=some (if b then want else !want):=by
    simp [yielded,hoj,hd,hget]
   simp only [Region.wanted,h1,this]
   cases b <;>cases want <;>rfl
  ·cases hj
 ·cases hg
theorem b4R (h:Sim P G B w0 I0 gh N s a w) (hg:a4O ops s.nt o.guard r.guard=true) (hs:a1b r=true) {t:Nat} {want:Bool} (hgd:r.guard=some (t,want)) (hv:s.ev G (.t t)= .o0 []):Region.wanted o (yielded ops a.tmps)=false:=by
 obtain ⟨I,ι,D,h⟩:=h
 unfold a4O at hg
 split at hg
 ·rename_i h1 h2;rw [h2] at hgd;cases hgd
 ·rename_i j want' t' want'' h1 h2
  rw [h2] at hgd
  cases hgd
  simp only [Bool.and_eq_true,beq_iff_eq,decide_eq_true_eq] at hg
  obtain ⟨⟨rfl,hlt⟩,hj⟩:=hg
  split at hj
  ·rename_i oj hoj
   have ht:t<1024:=(T8 hs).1 t (List.mem_append_right _ (by rw [h2];simp))
   have hrep:=h.tm t ht
   simp only [St.ev] at hv
   rw [hv] at hrep
   have hts:t<a.tmps.size:=by rw [h.size];exact hlt
   have hget:a.tmps[t]?=some (a.tmps.getD t undef):=by simp [Array.getD,hts]
   generalize a.tmps.getD t undef=x at hrep hget
   cases hrep with
   | o0 hl _=>
     have hd:oj.dst=some t:=by simpa using hj
     have:yielded ops a.tmps j=none:=by simp [yielded,hoj,hd,hget]
     simp only [Region.wanted,h1,this]
     rfl
  ·cases hj
 ·cases hg
theorem a7S {I:v9} {ι:Nat→Option Nat} {σ:b7} {D:Nat→Prop} {fv:AV} {xv:Value} {g:Nat} {fa fb:List AV} (hca:S6 fv=some (g,fa,fb)) (hfrep:e8 w I ι σ D xv fv):
 ∃ xs ys:Array Value,xv= .func (.func g) xs ys∧xs.size=fa.length∧ys.size=fb.length∧
   (∀ (j:Nat) (z:Value) (q:AV),xs[j]?=some z→fa[j]?=some q→e8 w I ι σ D z q)∧(∀ (j:Nat) (z:Value) (q:AV),ys[j]?=some z→fb[j]?=some q→e8 w I ι σ D z q):=by
 unfold S6 at hca
 split at hca
 ·cases hca
  cases hfrep with
  | func hl hl' h1 h2=>exact ⟨_,_,rfl,hl,hl',h1,h2⟩
 ·cases hca
  cases hfrep with
  | pv hfrep=>
    cases hfrep with
    | func hl hl' h1 h2=>
      refine ⟨_,_,rfl,by simpa using hl,by simpa using hl',fun j z q hz hq=>?_,fun j z q hz hq=>?_⟩
      ·rw [List.getElem?_map,Option.map_eq_some_iff] at hq
       obtain ⟨q',hq',rfl⟩:=hq
       exact .pv (h1 j z q' hz hq')
      ·rw [List.getElem?_map,Option.map_eq_some_iff] at hq
       obtain ⟨q',hq',rfl⟩:=hq
       exact .pv (h2 j z q' hz hq')
 ·cases hca
theorem b8g (ho:ops[i]?=some o) (hk:a1v P ops s.nt o r=true) (hw:b0z G (l3 P G) r nm s d) (hsim:Sim P G B w0 I0 gh N s a w) (hN:∀ b,N b→¬ Names nm b) (hbd:∃ m,∀ b,N b→b<m) (hn0:gh.n0≤nm)
 (hK:∀ a' w',Sim P G B w0 I0 gh (fun b=>N b∨Names nm b) (W0 s r d) a' w'→K a' w'):wpOpIn (Fw ro) n P ops Q i K a w:=by
 obtain ⟨hdst,hdlt,hsm,hg,hop⟩:=a6p hk
 have hN':∀ b,N b→N b∨Names nm b:=fun b h=>.inl h
 have opCase:∀ e:l7,(∀ t want,r.guard=some (t,want)→s.ev G (.t t)= .pv (.bool want))→step s.σ nm (s.ev G) r.op=some e→W0 s r d=D5 s r.dst e.v (m0 s.σ e.up)→wpOpIn (Fw ro) n P ops Q i K a w:=by
  intro e hgd hst haf
  unfold wpOpIn
  simp only [ho]
  rw [haf] at hK
  rw [a3a (b:=true) hsim hg hsm (fun t want e=>by simpa using hgd t want e) (fun e=>by cases e),if_pos rfl]
  have hop':a8M P o.op r.op=true:=hop.resolve_right fun hcall=>by
   unfold a0L at hcall
   split at hcall
   ·rename_i h2;rw [h2] at hst;simp [step] at hst
   ·cases hcall
  refine ⟨fun _ _=>trivial,?_⟩
  rw [Oper.semAt_eq _ _ _ (b2N hop')]
  obtain ⟨I,ι,D,hx⟩:=hsim
  have hnD:¬ D nm:=fun h=>hN nm (hx.names nm h) ⟨Nat.le_refl _,by simp [g9]⟩
  obtain ⟨nx,v,w₁,hrun,hnx,I',ι',D',hc,hL,hrep,hD⟩:=b7g (ρ:=a.eval) hx.core hnD (fun o r=>hx.eval) (fun _=>rfl) hop' hst
  rw [hrun]
  have hnext:K (a.put o.dst v) w₁:=by
   rw [hdst]
   exact hK _ _ ⟨I',ι',D',hx.put hdlt hc hL hrep (fun b hb=>(hD b hb).elim (fun h=>.inl (hx.names b h)) .inr) (fun b hb=>(hD b hb).elim .inl fun h=>.inr (Nat.le_trans hn0 h.1))⟩
  rcases hnx with rfl | ⟨rfl,rfl⟩
  ·exact hnext
  ·exact hnext
 unfold wpOpIn
 simp only [ho]
 obtain ⟨dv,drd,dsl,dup,dins⟩:=d
 simp only [b0z] at hw
 cases hw with
 | op hni hgd hst=>simpa only [wpOpIn,ho] using opCase _ hgd hst rfl
 | ins hgd hro hm hk' hf hl=>
   rename_i m k x b s' ents
   have:=opCase {v:=.undef,rd:=[b],up:=[(b,some (.map (W5 s' (s.ev G x) ents)))]} hgd (by rw [hro];simp only [step,hm,hk',hf,hl]) (by simp only [W0,after,A6,m0,b5q,hf])
   simpa only [wpOpIn,ho] using this
 | call hgd hro hca hnp hp hok hi=>
   rename_i f args g fa fb ps own res
   rw [a3a (b:=true) hsim hg hsm (fun t want e=>by simpa using hgd t want e) (fun e=>by cases e),if_pos rfl]
   have hcall:a0L o.op r.op=true:=hop.resolve_left fun h=>by rw [hro,a2K] at h;cases h
   obtain ⟨I,ι,D,hx⟩:=hsim
   rw [hro] at hcall
   unfold a0L at hcall
   split at hcall
   ·rename_i c f' args' hoc heq
    cases heq
    split at hcall
    ·rename_i x hcv
     simp only [Bool.and_eq_true] at hcall
     obtain ⟨hcf,hcas⟩:=hcall
     have hfrep:=hx.eval hcf
     obtain ⟨hal,har⟩:=a1s (ρ:=a.eval) (fun o r h=>hx.eval h) hcas
     have hfun:∃ xs ys:Array Value,a.eval x= .func (.func g) xs ys∧xs.size=fa.length∧ys.size=fb.length∧
      (∀ (j:Nat) (z:Value) (q:AV),xs[j]?=some z→fa[j]?=some q→e8 w I ι s.σ D z q)∧(∀ (j:Nat) (z:Value) (q:AV),ys[j]?=some z→fb[j]?=some q→e8 w I ι s.σ D z q):=by
      generalize s.ev G f=fv at hca hfrep
      generalize a.eval x=xv at hfrep
      unfold S6 at hca
      split at hca
      ·cases hca
       cases hfrep with
       | func hl hl' h1 h2=>exact ⟨_,_,rfl,hl,hl',h1,h2⟩
      ·cases hca
       cases hfrep with
       | pv hfrep=>
         cases hfrep with
         | func hl hl' h1 h2=>
           refine ⟨_,_,rfl,by simpa using hl,by simpa using hl',fun j z q hz hq=>?_,fun j z q hz hq=>?_⟩
           ·rw [List.getElem?_map,Option.map_eq_some_iff] at hq
            obtain ⟨q',hq',rfl⟩:=hq
            exact .pv (h1 j z q' hz hq')
           ·rw [List.getElem?_map,Option.map_eq_some_iff] at hq
            obtain ⟨q',hq',rfl⟩:=hq
            exact .pv (h2 j z q' hz hq')
      ·cases hca
     obtain ⟨xs,ys,hxf,hxl,hyl,hxr,hyr⟩:=hfun
     obtain ⟨hs',hL'⟩:=z6.C3 hx.core.u6 dsl
     have hcore':Core B w0 I0 w (P0 I ι s.σ dsl) ι (A6 s.σ dsl) D:=by
      obtain ⟨_,b1,b2,b3,b4⟩:=hx.core
      refine ⟨hs',b1,b2,fun r k h=>.inl (b3 r k h),fun r k hlt h=>?_⟩
      rcases h with h | ⟨b,o,_,hf,_,hr,_⟩
      ·exact b4 r k hlt h
      ·have:=hx.core.u6.ge b o r hf hr;omega
     have hcs:c.args.size=args.length:=by simpa using hal
     have hargs:b9I w (P0 I ι s.σ dsl) ((xs++c.args.map a.eval)++ys) ps:=by
      obtain ⟨e1,e2⟩:=a2g (b1z hx.core.u6 8) _ _ _ hp (fun b hb=>hb)
      simp only [List.length_append,List.length_map] at e1
      refine ⟨by simp only [Array.size_append,Array.size_map];rw [hxl,hyl,hcs];exact e1,fun j z q hz hq=>?_⟩
      have hjlt:j<(fa++args.map (s.ev G)++fb).length:=by
       simp only [List.length_append,List.length_map];rw [e1];exact (List.getElem?_eq_some_iff.1 hq).1
      refine e2 j _ q z (List.getElem?_eq_getElem hjlt) hq ?_
      have hav:=List.getElem?_eq_getElem hjlt
      generalize (fa++args.map (s.ev G)++fb)[j]=av at hav
      by_cases h1:j<fa.length
      ·rw [List.getElem?_append_left (by simp;omega),List.getElem?_append_left h1] at hav
       rw [Array.getElem?_append_left (by simp;omega),Array.getElem?_append_left (by omega)] at hz
       exact hxr j z av hz hav
      ·by_cases h2:j<fa.length+args.length
       ·rw [List.getElem?_append_left (by simp;omega),List.getElem?_append_right (by omega),List.getElem?_map,Option.map_eq_some_iff] at hav
        obtain ⟨q',hq',rfl⟩:=hav
        rw [Array.getElem?_append_left (by simp;omega),Array.getElem?_append_right (by omega),Array.getElem?_map,Option.map_eq_some_iff] at hz
        obtain ⟨z',hz',rfl⟩:=hz
        rw [hxl] at hz'
        exact har (j - fa.length) z' q' (by simpa using hz') hq'
       ·rw [List.getElem?_append_right (by simp;omega)] at hav
        rw [Array.getElem?_append_right (by simp;omega)] at hz
        simp only [List.length_append,List.length_map,Array.size_append,Array.size_map] at hav hz
        rw [hxl] at hz
        rw [hcs] at hz
        exact hyr _ z av hz hav
     have hbnd:∀ a k,P0 I ι s.σ dsl a k→a<w.heap.size:=hs'.bnd
     obtain ⟨henter,hcalls⟩:=hok w (P0 I ι s.σ dsl) _ hbnd (hx.a0P.mono hL'.keeps) hargs
     refine ⟨fun _ _=>trivial,?_⟩
     have hnd:∀ c',o.op≠ .defer c':=by intro c' e;rw [e] at hoc;cases hoc
     rw [Oper.semAt_eq _ _ _ hnd]
     have hexec:(execOp a.eval o).run P w= .ok (.enter g ((xs++c.args.map a.eval)++ys)) w:=by
      obtain ⟨dst,op,type,pos,aft,guard⟩:=o
      simp only at hoc
      subst hoc
      simp only [execOp,resolve,hcv,hxf,Deferred.ofValue,Sem.run_bind,Sem.run_pure,Result.andThen_ok,invoke]
      exact henter w
     rw [hexec]
     refine ⟨fun h=>by simp [Fence.wide] at h,?_⟩
     have hc':CallsIn (Fw ro) 0 P g ((xs++c.args.map a.eval)++ys) w (a4I w (P0 I ι s.σ dsl) own res):=hcalls
     refine CallsIn.mono (CallsIn.more hc' (Nat.zero_le _)) fun e w₁ he=>?_
     cases e with
     | returned v=>
       obtain ⟨I',hb,h1,h2,hres⟩:=he
       obtain ⟨ι',hc₁,hL₁,hrep⟩:=hcore'.take (nm:=nm) (fun b hb'=>hN b (hx.names b hb')) hb h1 h2 hres
       have hnext:K (a.put o.dst v) w₁:=by
        rw [hdst]
        refine hK _ _ ⟨I',ι',fun b=>D b∨Names nm b,?_⟩
        have hav:(imp own nm res)=(dv,dup):=hi
        rw [hav] at hc₁ hL₁ hrep
        exact hx.put hdlt hc₁ (hL'.trans hL₁) hrep (fun b hb'=>hb'.elim (fun h=>.inl (hx.names b h)) .inr) (fun b hb'=>hb'.elim .inl fun h=>.inr (Nat.le_trans hn0 h.1))
       exact hnext
     | panicked ch=>exact he.elim
     | outgrown=>exact he.elim
    ·cases hcall
   ·cases hcall
 | a9v hgd hro hca hp hr=>
   rename_i f args g fa fb p c es rows
   rw [a3a (b:=true) hsim hg hsm (fun t want e=>by simpa using hgd t want e) (fun e=>by cases e),if_pos rfl]
   have hcall:a0L o.op r.op=true:=hop.resolve_left fun h=>by rw [hro,a2K] at h;cases h
   obtain ⟨I,ι,D,hx⟩:=hsim
   rw [hro] at hcall
   unfold a0L at hcall
   split at hcall
   ·rename_i c' f' args' hoc heq
    cases heq
    split at hcall
    ·rename_i x hcv
     simp only [Bool.and_eq_true] at hcall
     obtain ⟨hcf,hcas⟩:=hcall
     have hfrep:=hx.eval hcf
     obtain ⟨hal,har⟩:=a1s (ρ:=a.eval) (fun o r h=>hx.eval h) hcas
     obtain ⟨xs,ys,hxf,hxl,hyl,hxr,hyr⟩:=a7S hca hfrep
     have hcs:c'.args.size=args.length:=by simpa using hal
     obtain ⟨m,hm⟩:=hbd
     obtain ⟨henter,hcalls⟩:=hx.a0P.a9v g p hp _ _ _ _ _ _ hr B w0 I0 (fun v av=>gh.gs v av∨(∃ t,t<1024∧v=a.tmps.getD t undef∧av=s.tm.get d7 t)∨∃ i cs,G i=some cs∧v= .pointer (some ⟨i,0,none⟩)∧av= .pv (.ref cs))
      w I ι D ((xs++c'.args.map a.eval)++ys) hx.core ⟨m,fun b hb=>hm b (hx.names b hb)⟩ (by simp [hxl,hyl,hcs]) (fun j z q hz hq=>by
        by_cases h1:j<fa.length
        ·rw [List.getElem?_append_left (by simp;omega),List.getElem?_append_left h1] at hq
         rw [Array.getElem?_append_left (by simp;omega),Array.getElem?_append_left (by omega)] at hz
         exact hxr j z q hz hq
        ·by_cases h2:j<fa.length+args.length
         ·rw [List.getElem?_append_left (by simp;omega),List.getElem?_append_right (by omega),List.getElem?_map,Option.map_eq_some_iff] at hq
          obtain ⟨q',hq',rfl⟩:=hq
          rw [Array.getElem?_append_left (by simp;omega),Array.getElem?_append_right (by omega),Array.getElem?_map,Option.map_eq_some_iff] at hz
          obtain ⟨z',hz',rfl⟩:=hz
          rw [hxl] at hz'
          exact har (j - fa.length) z' q' (by simpa using hz') hq'
         ·rw [List.getElem?_append_right (by simp;omega)] at hq
          rw [Array.getElem?_append_right (by simp;omega)] at hz
          simp only [List.length_append,List.length_map,Array.size_append,Array.size_map] at hq hz
          rw [hxl,hcs] at hz
          exact hyr _ z q hz hq)
      (fun v av hv=>by
       rcases hv with hv | ⟨t,ht,rfl,rfl⟩ | ⟨i,cs,hi,rfl,rfl⟩
       ·exact hx.ghost v av hv
       ·exact hx.tm t ht
       ·exact .pv (hx.a0P.a0P i cs hi))
     refine ⟨fun _ _=>trivial,?_⟩
     have hnd:∀ c',o.op≠ .defer c':=by intro c' e;rw [e] at hoc;cases hoc
     rw [Oper.semAt_eq _ _ _ hnd]
     have hexec:(execOp a.eval o).run P w= .ok (.enter g ((xs++c'.args.map a.eval)++ys)) w:=by
      obtain ⟨dst,op,type,pos,aft,guard⟩:=o
      simp only at hoc
      subst hoc
      simp only [execOp,resolve,hcv,hxf,Deferred.ofValue,Sem.run_bind,Sem.run_pure,Result.andThen_ok,invoke]
      exact henter w
     rw [hexec]
     refine ⟨fun h=>by simp [Fence.wide] at h,?_⟩
     have hc':CallsIn (Fw ro) 0 P g ((xs++c'.args.map a.eval)++ys) w _:=hcalls
     refine CallsIn.mono (CallsIn.more hc' (Nat.zero_le _)) fun e w₁ he=>?_
     cases e with
     | returned v=>
       obtain ⟨I',ι',hc₁,hrep,hgh,hstill⟩:=he
       have hnext:K (a.put o.dst v) w₁:=by
        rw [hdst]
        have hσ:(D5 s r.dst dv (m0 s.σ [(c,some (.arr es rows false))])).σ=m0 s.σ [(c,some (.arr es rows false))]:=a5N
        refine hK _ _ ⟨I',ι',D,?_⟩
        show a1c P G B w0 I0 gh _ (D5 s r.dst dv (m0 s.σ [(c,some (.arr es rows false))])) _ w₁ I' ι' D
        refine ⟨by rw [hσ];exact hc₁,fun b hb=>.inl (hx.names b hb),?_,?_,⟨fun i cs hi=>?_,hx.a0P.a9v⟩,fun t ht=>?_,fun x y hg=>by rw [hσ];exact hgh x y (.inl hg),fun b hb=>hx.base b hb,fun r o hk=>⟨(hx.kept r o hk).1,hstill r o (hx.kept r o hk).1 (hx.kept r o hk).2⟩,fun p hp=>?_⟩
        ·obtain ⟨rs,h1,h2,h3⟩:=hx.dfs
         have:Marks B gh.a2q w₁ a.defers:=⟨rs,h1,h2,fun r hr=>⟨(h3 r hr).1,(h3 r hr).2.1,hstill r _ rfl (h3 r hr).2.2⟩⟩
         cases r.dst <;>exact this
        ·have:=hx.size
         cases r.dst with
         | none=>exact this
         | some d=>simpa [Act.put,D5] using this
        ·have:=hgh _ _ (.inr (.inr ⟨i,cs,hi,rfl,rfl⟩))
         cases this with
         | pv h=>exact h
        ·rw [hσ,a0O ht fun d e=>(hdlt d e).2]
         cases hrd:r.dst with
         | none=>simp only [Act.put,reduceCtorEq,if_false];exact hgh _ _ (.inr (.inl ⟨t,ht,rfl,rfl⟩))
         | some d=>
           have hds:d<a.tmps.size:=by rw [hx.size];exact (hdlt d hrd).1
           simp only [Act.put,Option.some.injEq]
           by_cases e:d=t
           ·subst e;rw [if_pos rfl]
            have:(a.tmps.setIfInBounds d v).getD d undef=v:=by simp [Array.getD,hds]
            rw [this];exact hrep
           ·rw [if_neg e]
            have:(a.tmps.setIfInBounds d v).getD t undef=a.tmps.getD t undef:=by
             simp only [Array.getD_eq_getD_getElem?]
             rw [Array.getElem?_setIfInBounds_ne e]
            rw [this];exact hgh _ _ (.inr (.inl ⟨t,ht,rfl,rfl⟩))
        ·obtain ⟨h1,h2,k,h3,h4⟩:=hx.loop p hp
         refine ⟨by rw [a1S];exact h1,h2,k,?_,hstill _ _ rfl h4⟩
         rw [a0O (by decide) fun d e=>(hdlt d e).2,if_neg (fun e=>by have:=(hdlt _ e).1;simp only [L2] at this h1;omega)]
         exact h3
       exact hnext
     | panicked ch=>exact he.elim
     | outgrown=>exact he.elim
    ·cases hcall
   ·cases hcall
 | left hgd hv=>
   rename_i t want
   have hwant:Region.wanted o (yielded ops a.tmps)=false:=by
    rcases hv with hv | hv
    ·exact a3a (b:=false) hsim hg hsm (fun t' want' e=>by rw [hgd] at e;cases e;simpa using hv) (fun _ e=>by rw [hgd] at e;cases e)
    ·exact b4R hsim hg hsm hgd hv
   rw [hwant,if_neg (by simp)]
   refine ⟨fun _ _=>trivial,?_⟩
   obtain ⟨I,ι,D,hx⟩:=hsim
   rw [hdst]
   exact hK _ _ ⟨I,ι,D,hx.put hdlt hx.core q0.refl (.o0 (cs:=#[]) rfl fun j x q hx=>by simp at hx) (fun b hb=>.inl (hx.names b hb)) (fun b hb=>.inl hb)⟩
end
end Go.Ab
namespace Go.Ab
open Go.RowKit
def a9R (P:Program) (ops:Array Oper) (nt:Nat):List Oper→List m7→Bool
 | [],[]=>true
 | o::l,r::m=>a1v P ops nt o r&&a9R P ops nt l m
 | _,_=>false
def b3L (rs:List m7):List Edge→Nat
 | []=>0
 | e::l=>match Region.binds .any e with
   | true=>2 ^ e.on||| ((rs.getD e.on default).pre||| b3L rs l)
   | false=>b3L rs l
def a7T (rs:List m7):Nat→List Oper→List m7→Bool
 | _,[],[]=>true
 | i,o::l,r::m=>r.pre==b3L rs o.after.toList&&o.after.toList.all (fun e=>!Region.binds .any e||decide (e.on<i))&&a7T rs (i+1) l m
 | _,_,_=>false
def a8A (r:m7):Nat→List m7→Bool
 | _,[]=>true
 | i,x::l=>(a4d x r||r.pre.testBit i)&&a8A r (i+1) l
def a6l:List m7→List m7→Bool
 | _,[]=>true
 | done,r::l=>a8A r 0 done&&a6l (done++[r]) l
def ROp.quiet:ROp→Bool
 | .mv _=>true
 | .pick _ _ _=>true
 | .load _ _ _=>true
 | .bin _ _ _=>true
 | .not _=>true
 | .conv _ _=>true
 | .b0 _ _=>true
 | .field _ _ _ _=>true
 | .i6 _ _ _=>true
 | .a5Z _ _ _ _=>true
 | .a6x _ _=>true
 | .index _ _ _ _ _=>true
 | .a8p _ _=>true
 | .extract _ _=>true
 | .l8 _=>true
 | .a0m _=>true
 | _=>false
def a4N (x r:m7):Bool:=x.guard.isNone&&r.guard.isNone&&x.op.quiet&&r.op.quiet
def b1n (r:m7):Nat→List m7→Bool
 | _,[]=>true
 | i,x::l=>(a4N x r||r.pre.testBit i)&&b1n r (i+1) l
def b1m:List m7→List m7→Bool
 | _,[]=>true
 | done,r::l=>b1n r 0 done&&b1m (done++[r]) l
def b1E (P:Program) (nt:Nat) (ops:Array Oper) (rs:List m7) (draw:Bool):Bool:=
 a9R P ops nt ops.toList rs&&(!draw||(a6l [] rs&&a7T rs 0 ops.toList rs))
def b4h (P:Program) (nt:Nat) (ops:Array Oper) (rs:List m7):Bool:=
 b1E P nt ops rs true&&b1m [] rs
theorem a8I {r:m7}:∀ (l:List m7) (i:Nat),b1n r i l=true→∀ k x,l[k]?=some x→a4N x r=true∨r.pre.testBit (i+k)=true
 | [],_,_,k,x,h=>by simp at h
 | y::l,i,h,k,x,hx=>by
   simp only [b1n,Bool.and_eq_true,Bool.or_eq_true] at h
   cases k with
   | zero=>simp at hx;subst hx;exact h.1
   | succ k=>
     simp at hx
     have:=a8I l (i+1) h.2 k x hx
     have e:i+1+k=i+(k+1):=by omega
     rwa [e] at this
theorem a8H:∀ (l done:List m7),b1m done l=true→∀ i j x r,i<j→done.length≤j→(done++l)[i]?=some x→(done++l)[j]?=some r→a4N x r=true∨r.pre.testBit i=true
 | [],done,_,i,j,x,r,hij,hd,hx,hr=>by
   simp at hr;have:=(List.getElem?_eq_some_iff.1 hr).1;omega
 | y::l,done,h,i,j,x,r,hij,hd,hx,hr=>by
   simp only [b1m,Bool.and_eq_true] at h
   by_cases e:j=done.length
   ·subst e
    simp at hr;subst hr
    rw [List.getElem?_append_left hij] at hx
    have:=a8I done 0 h.1 i x hx
    simpa using this
   ·have:done++y::l=(done++[y])++l:=by simp
    rw [this] at hx hr
    exact a8H l _ h.2 i j x r hij (by simp;omega) hx hr
theorem b5P {σ:b7} {nm:Nat} {ev:RA→AV} {op:ROp} {e:l7} (hq:op.quiet=true) (h:step σ nm ev op=some e):e.up=[]:=by
 cases op <;>simp only [ROp.quiet,Bool.false_eq_true] at hq <;>simp only [step,step.iaddrP,l7.of] at h <;>(repeat' split at h) <;>first | (cases h;rfl) | cases h
theorem set_comm:∀ (d:Nat) (t:T) (n m:Nat) (u v:AV),n % 2 ^ d≠m % 2 ^ d→T.set d (T.set d t n u) m v=T.set d (T.set d t m v) n u
 | 0,t,n,m,u,v,h=>by simp [Nat.mod_one] at h
 | d+1,t,n,m,u,v,h=>by
   have hn:=Nat.mod_two_eq_zero_or_one n
   have hm:=Nat.mod_two_eq_zero_or_one m
   have key:n % 2=m % 2→n / 2 % 2 ^ d≠m / 2 % 2 ^ d:=by
    intro e h'
    apply h
    rw [Nat.pow_succ,Nat.mul_comm,Nat.mod_mul,Nat.mod_mul,e,h']
   rcases hn with hn | hn <;>rcases hm with hm | hm <;>simp only [T.set,hn,hm]
   ·show T.node (T.set d (T.set d t.l (n / 2) u) (m / 2) v) t.r=T.node (T.set d (T.set d t.l (m / 2) v) (n / 2) u) t.r
    rw [set_comm d t.l _ _ u v (key (hn.trans hm.symm))]
   ·rfl
   ·rfl
   ·show T.node t.l (T.set d (T.set d t.r (n / 2) u) (m / 2) v)=T.node t.l (T.set d (T.set d t.r (m / 2) v) (n / 2) u)
    rw [set_comm d t.r _ _ u v (key (hn.trans hm.symm))]
theorem b8S {s:St} {a b:Option Nat} {u v:AV} {σ:b7} (ha:∀ d,a=some d→d<1024) (hb:∀ d,b=some d→d<1024) (h:∀ x y,a=some x→b=some y→x≠y):D5 (D5 s a u σ) b v σ=D5 (D5 s b v σ) a u σ:=by
 cases a with
 | none=>cases b <;>rfl
 | some x=>
   cases b with
   | none=>rfl
   | some y=>
     simp only [D5]
     have e1:x % 2 ^ d7=x:=Nat.mod_eq_of_lt (ha x rfl)
     have e2:y % 2 ^ d7=y:=Nat.mod_eq_of_lt (hb y rfl)
     rw [set_comm _ _ _ _ _ _ (by rw [e1,e2];exact h x y rfl rfl)]
theorem a6o {P:Program} {ops:Array Oper} {nt:Nat}:∀ {l:List Oper} {m:List m7},a9R P ops nt l m=true→l.length=m.length∧∀ (i:Nat) (o:Oper) (r:m7),l[i]?=some o→m[i]?=some r→a1v P ops nt o r=true
 | [],[],_=>⟨rfl,fun i o r h=>by simp at h⟩
 | o::l,r::m,h=>by
   simp only [a9R,Bool.and_eq_true] at h
   obtain ⟨e,hr⟩:=a6o h.2
   refine ⟨by simp [e],fun i o' r' ho hr'=>?_⟩
   cases i with
   | zero=>simp at ho hr';subst ho;subst hr';exact h.1
   | succ i=>simp at ho hr';exact hr i o' r' ho hr'
 | [],_::_,h=>by simp [a9R] at h
 | _::_,[],h=>by simp [a9R] at h
theorem a8n {rs:List m7} {i:Nat}:∀ {l:List Edge},(b3L rs l).testBit i=true→∃ e ∈ l,Region.binds .any e=true∧(e.on=i∨((rs.getD e.on default).pre).testBit i=true)
 | [],h=>by simp [b3L] at h
 | e::l,h=>by
   simp only [b3L] at h
   split at h
   ·rename_i hb
    rw [Nat.testBit_or,Nat.testBit_or,Bool.or_eq_true,Bool.or_eq_true,Nat.testBit_two_pow,decide_eq_true_eq] at h
    rcases h with h | h | h
    ·exact ⟨e,by simp,hb,.inl h⟩
    ·exact ⟨e,by simp,hb,.inr h⟩
    ·obtain ⟨e',he,hx⟩:=a8n h;exact ⟨e',by simp [he],hx⟩
   ·obtain ⟨e',he,hx⟩:=a8n h;exact ⟨e',by simp [he],hx⟩
theorem a6q {rs:List m7}:∀ {l:List Oper} {m:List m7} {i:Nat},a7T rs i l m=true→∀ (k:Nat) (o:Oper) (r:m7),l[k]?=some o→m[k]?=some r→
 (∀ x,r.pre.testBit x=true→∃ e ∈ o.after.toList,Region.binds .any e=true∧(e.on=x∨((rs.getD e.on default).pre).testBit x=true))∧
 ∀ e ∈ o.after.toList,Region.binds .any e=true→e.on<i+k
 | [],[],_,_,k,o,r,ho,_=>by simp at ho
 | o::l,r::m,i,h,k,o',r',ho,hr=>by
   simp only [a7T,Bool.and_eq_true,beq_iff_eq] at h
   obtain ⟨⟨h1,h2⟩,h3⟩:=h
   cases k with
   | zero=>
     simp at ho hr;subst ho;subst hr
     refine ⟨fun x hx=>a8n (h1 ▸ hx),fun e he hb=>?_⟩
     have:=List.all_eq_true.1 h2 e he
     simp [hb] at this
     simpa using this
   | succ k=>
     simp at ho hr
     obtain ⟨g1,g2⟩:=a6q h3 k o' r' ho hr
     refine ⟨g1,fun e he hb=>?_⟩
     have:=g2 e he hb;omega
 | [],_::_,_,h,_,_,_,_,_=>by simp [a7T] at h
 | _::_,[],_,h,_,_,_,_,_=>by simp [a7T] at h
theorem a7v {r:m7}:∀ (l:List m7) (i:Nat),a8A r i l=true→∀ k x,l[k]?=some x→a4d x r=true∨r.pre.testBit (i+k)=true
 | [],_,_,k,x,h=>by simp at h
 | y::l,i,h,k,x,hx=>by
   simp only [a8A,Bool.and_eq_true,Bool.or_eq_true] at h
   cases k with
   | zero=>simp at hx;subst hx;exact h.1
   | succ k=>
     simp at hx
     have:=a7v l (i+1) h.2 k x hx
     have e:i+1+k=i+(k+1):=by omega
     rwa [e] at this
theorem a4c:∀ (l done:List m7),a6l done l=true→∀ i j x r,i<j→done.length≤j→(done++l)[i]?=some x→(done++l)[j]?=some r→a4d x r=true∨r.pre.testBit i=true
 | [],done,_,i,j,x,r,hij,hd,hx,hr=>by
   simp at hr;have:=(List.getElem?_eq_some_iff.1 hr).1;omega
 | y::l,done,h,i,j,x,r,hij,hd,hx,hr=>by
   simp only [a6l,Bool.and_eq_true] at h
   by_cases e:j=done.length
   ·subst e
    simp at hr;subst hr
    rw [List.getElem?_append_left hij] at hx
    have:=a7v done 0 h.1 i x hx
    simpa using this
   ·have:done++y::l=(done++[y])++l:=by simp
    rw [this] at hx hr
    exact a4c l _ h.2 i j x r hij (by simp;omega) hx hr
theorem a9o {A C:List Nat} {j k:Nat} (h:k ∈ A++C):k ∈ A++j::C:=by
 rcases List.mem_append.1 h with h | h
 ·exact List.mem_append_left _ h
 ·exact List.mem_append_right _ (List.mem_cons_of_mem _ h)
theorem b5C {A C:List Nat} {j k:Nat} (h:k ∈ A++j::C) (hne:k≠j):k ∈ A++C:=by
 rcases List.mem_append.1 h with h | h
 ·exact List.mem_append_left _ h
 ·rcases List.mem_cons.1 h with h | h
  ·exact absurd h hne
  ·exact List.mem_append_right _ h
def NL (nx0 nx1:Nat) (L:List Nat) (b:Nat):Prop:=b<nx1∧∀ j ∈ L,¬ Names (nx0+g9*j) b
section
variable {P:Program} {G:Gl} {B:Nat} {w0:World} {I0:v9} {gh:Gh} {s sf:St} {a:Act} {w:World}
variable {ops:Array Oper} {n:Nat} {ro:Option Nat} {Q:Exit→Act→World→Prop} {ins:Nat→m7} {dat:Nat→Dat} {nx0 nt:Nat}
theorem NL.next {A C:List Nat} {j m:Nat} (hj:j<m) (hA:∀ k ∈ A++C,k≠j) {b:Nat} (h:NL nx0 (nx0+g9*m) (A++j::C) b∨Names (nx0+g9*j) b):
 NL nx0 (nx0+g9*m) (A++C) b:=by
 rcases h with ⟨h1,h2⟩ | h
 ·exact ⟨h1,fun k hk=>h2 k (a9o hk)⟩
 ·refine ⟨?_,fun k hk hn=>hA k hk ?_⟩
  ·have:b<nx0+g9*j+g9:=h.2
   have e:g9*(j+1)≤g9*m:=Nat.mul_le_mul_left _ hj
   rw [Nat.mul_succ] at e;omega
  ·obtain ⟨a1,a2⟩:=h
   obtain ⟨b1,b2⟩:=hn
   simp only [g9] at a1 a2 b1 b2
   omega
def b3X (P:Program) (G:Gl) (B:Nat) (w0:World) (I0:v9) (gs:Value→AV→Prop) (D:Nat→Prop) (w:World) (nx:Nat) (K:AV→b7→Nat→Prop):Ending→World→Prop
 | .returned v,w'=>∃ av σ' nx' I' ι' D',K av σ' nx'∧Core B w0 I0 w' I' ι' σ' D'∧nx≤nx'∧(∀ b,D' b→D b∨(nx≤b∧b<nx'))∧e8 w' I' ι' σ' D' v av∧V9 P G w' I'∧(∀ x a,gs x a→e8 w' I' ι' σ' D' x a)∧∀ (r:Nat) (o:Obj),still o=true→w.heap[r]?=some o→w'.heap[r]?=some o
 | _,_=>False
def a3H (P:Program) (G:Gl) (Inl:c5q):Prop:=
 ∀ g h,Inl g=some h→∀ (args:List AV) (σ:b7) (nx:Nat) (K:AV→b7→Nat→Prop),h args σ nx K→
   ∀ (B:Nat) (w0:World) (I0:v9) (gs:Value→AV→Prop) (w:World) (I:v9) (ι:Nat→Option Nat) (D:Nat→Prop) (vs:Array Value),Core B w0 I0 w I ι σ D→(∀ b,D b→b<nx)→V9 P G w I→
     vs.size=args.length→(∀ (j:Nat) (x:Value) (q:AV),vs[j]?=some x→args[j]?=some q→e8 w I ι σ D x q)→(∀ x a,gs x a→e8 w I ι σ D x a)→
     (∀ w₁,(callFunc g vs).run P w₁= .ok (.enter g vs) w₁)∧CallsIn Fence.wide 0 P g vs w (b3X P G B w0 I0 gs D w nx K)
def b4a (P:Program) (G:Gl) (B:Nat) (w0:World) (I0:v9) (p:a4b) (gs:Value→AV→Prop) (D:Nat→Prop) (w:World) (nx:Nat) (K:AV→b7→Nat→Nat→Prop):Ending→World→Prop
 | .returned v,w'=>∃ av σ' nx' pd I' ι' D',K av σ' nx' pd∧Core B w0 I0 w' I' ι' σ' D'∧nx≤nx'∧(∀ b,D' b→D b∨(nx≤b∧b<nx'))∧e8 w' I' ι' σ' D' v av∧V9 P G w' I'∧(∀ x a,gs x a→e8 w' I' ι' σ' D' x a)∧
  (∀ (r:Nat) (o:Obj),r≠p.l→still o=true→w.heap[r]?=some o→w'.heap[r]?=some o)∧w'.heap[p.l]?=some (.loop (p.at pd))
 | _,_=>False
def b9N (P:Program) (G:Gl) (p:a4b) (h:b8j) (B:Nat) (w0:World) (I0:v9) (gs:Value→AV→Prop):Prop:=
 ∀ (args:List AV) (σ:b7) (nx:Nat) (K:AV→b7→Nat→Nat→Prop),h args σ nx K→
   ∀ (gs':Value→AV→Prop) (w:World) (I:v9) (ι:Nat→Option Nat) (D:Nat→Prop) (vs:Array Value),(∀ x a,gs x a→gs' x a)→Core B w0 I0 w I ι σ D→(∀ b,D b→b<nx)→V9 P G w I→
     vs.size=args.length→(∀ (j:Nat) (x:Value) (q:AV),vs[j]?=some x→args[j]?=some q→e8 w I ι σ D x q)→(∀ x a,gs' x a→e8 w I ι σ D x a)→w.heap[p.l]?=some (.loop (p.at 0))→
     vs.size=p.data.params.size∧RoundIn Fence.wide 0 P p.l p.data.fn ((p.data.params.zip vs).foldl (fun tmps (t,a)=>tmps.setIfInBounds t a) p.data.tmps) p.data.assign p.data.body w (b4a P G B w0 I0 p gs' D w nx K)
def b7q (P:Program) (G:Gl) (B:Nat) (w0:World) (I0:v9) (p:a4b) (gs:Value→AV→Prop) (D:Nat→Prop) (w:World) (nx:Nat) (K:AV→b7→Nat→Prop):Ending→World→Prop
 | .returned _,w'=>∃ k σ' nx' I' ι' D',K (.mark k) σ' nx'∧Core B w0 I0 w' I' ι' σ' D'∧nx≤nx'∧(∀ b,D' b→D b∨(nx≤b∧b<nx'))∧V9 P G w' I'∧(∀ x a,gs x a→e8 w' I' ι' σ' D' x a)∧
  (∀ (r:Nat) (o:Obj),r≠p.l→still o=true→w.heap[r]?=some o→w'.heap[r]?=some o)∧w'.heap[p.l]?=some (.loop (p.at k))
 | _,_=>False
def c3F (P:Program) (G:Gl) (itr:c5r):Prop:=
 ∀ g it,itr g=some it→∀ (b:Nat) (h:b8j) (args:List AV) (σ:b7) (nx:Nat) (K:AV→b7→Nat→Prop),it b h args σ nx K→
   ∀ (B:Nat) (w0:World) (I0:v9) (gs:Value→AV→Prop) (p:a4b) (w:World) (I:v9) (ι:Nat→Option Nat) (D:Nat→Prop) (vs:Array Value),Core B w0 I0 w I ι σ D→(∀ b,D b→b<nx)→V9 P G w I→
     vs.size=args.length→(∀ (j:Nat) (x:Value) (q:AV),vs[j]?=some x→args[j]?=some q→e8 w I ι σ D x q)→(∀ x a,gs x a→e8 w I ι σ D x a)→
     p.b=b→gs (.func (.yield p.l) #[] #[]) (.yld p.b)→B≤p.l→w.heap[p.l]?=some (.loop (p.at 0))→b9N P G p h B w0 I0 gs→
     (∀ w₁,(callFunc g vs).run P w₁= .ok (.enter g vs) w₁)∧CallsIn Fence.wide 0 P g vs w (b7q P G B w0 I0 p gs D w nx K)
structure a3d (P:Program) (G:Gl) (E:Env) (ro:Option Nat) (B:Nat) (w0:World) (I0:v9) (gh:Gh):Prop where
 inl:a3H P G E.inl
 itr:c3F P G E.itr
 none:∀ l,ro=some l→∀ g,E.itr g=none
 yld:∀ b h,E.yld=some (b,h)→∃ p,gh.lp=some p∧p.b=b∧(∀ o,¬ gh.a2q p.l o)∧gh.gs (.func (.yield p.l) #[] #[]) (.yld p.b)∧b9N P G p h B w0 I0 gh.gs
 low:∀ n,E.n0=some n→n=gh.n0∧∀ v av,gh.gs v av→c0x n av
def NS (nx0:Nat) (L:List Nat) (s:St) (b:Nat):Prop:=b<s.nx∧∀ j ∈ L,¬ Names (nx0+g9*j) b
theorem b7I {E:Env} (hE:a3d P G E ro B w0 I0 gh) {i:Nat} {o:Oper} {r:m7} {L:List Nat} {K:St→Prop} {KR:Act→World→Prop} (ho:ops[i]?=some o) (hk:a1v P ops s.nt o r=true) (hn0:gh.n0≤nx0)
 (hnx:nx0+g9*i+g9≤s.nx) (hL:∀ j ∈ L,i≠j∧nx0+g9*j+g9≤s.nx) (h:a9Z G (l3 P G) E r (nx0+g9*i) s K) (hsim:Sim P G B w0 I0 gh (NS nx0 (i::L) s) s a w)
 (hK:∀ s' a' w',K s'→s'.nt=s.nt→s.nx≤s'.nx→Sim P G B w0 I0 gh (NS nx0 L s') s' a' w'→KR a' w'):wpOpIn (Fw ro) n P ops Q i KR a w:=by
 have plain:a8Z G (l3 P G) r (nx0+g9*i) s (fun st' _=>K st')→wpOpIn (Fw ro) n P ops Q i KR a w:=by
  intro h
  obtain ⟨d,hd,hKs⟩:=b3C h
  refine b8g ho hk hd hsim (fun b hb=>hb.2 i (by simp)) ⟨_,fun b hb=>hb.1⟩ (by omega) fun a' w' hs=>?_
  have e1:(W0 s r d).nx=s.nx:=by rw [W0,after,a9w]
  refine hK _ a' w' hKs (by rw [W0,after,a1S]) (by rw [e1];exact Nat.le_refl _) (hs.weaken fun b hb=>⟨?_,fun j hj hn=>?_⟩)
  ·rw [e1]
   rcases hb with hb | hb
   ·exact hb.1
   ·have:=hb.2;omega
  ·rcases hb with hb | hb
   ·exact hb.2 j (by simp [hj]) hn
   ·obtain ⟨a1,a2⟩:=hb
    obtain ⟨b1,b2⟩:=hn
    have:=(hL j hj).1
    simp only [g9] at a1 a2 b1 b2
    omega
 unfold a9Z at h
 split at h
 ·rename_i f args hro
  split at h
  ·rename_i b hfv
   split at h
   ·rename_i b' hh hEy hgd
    split at h
    ·rename_i hbb
     rw [beq_iff_eq] at hbb
     subst hbb
     obtain ⟨hdst,hdlt,hsm,hg,hop⟩:=a6p hk
     obtain ⟨I,ι,D,hx⟩:=hsim
     obtain ⟨tm,σ,nx,nt'⟩:=s
     simp only [b9R] at h
     split at h
     ·rename_i hmk
      have hcall:a0L o.op r.op=true:=hop.resolve_left fun h=>by rw [hro,a2K] at h;cases h
      rw [hro] at hcall
      unfold a0L at hcall
      split at hcall
      ·rename_i c f' args' hoc heq
       cases heq
       split at hcall
       ·rename_i x hcv
        simp only [Bool.and_eq_true] at hcall
        obtain ⟨hcf,hcas⟩:=hcall
        obtain ⟨hal,har⟩:=a1s (ρ:=a.eval) (fun o r h=>hx.eval h) hcas
        have hcs:c.args.size=args.length:=by simpa using hal
        obtain ⟨p,hp,hpb,hkp,hgy,hY⟩:=hE.yld _ _ hEy
        have hfr:=hx.eval hcf
        rw [hfv] at hfr
        have hxf:a.eval x= .func (.yield p.l) #[] #[]:=by
         have hgr:=hx.ghost _ _ hgy
         rw [hpb] at hgr
         generalize a.eval x=xv at hfr
         generalize hyv:Value.func (.yield p.l) #[] #[]=yv at hgr
         cases hfr with
         | yld _ h1=>
           cases hgr with
           | yld _ h2=>
             obtain ⟨l₁,i1,e1⟩:=h1
             obtain ⟨l₂,i2,e2⟩:=h2
             rw [i1] at i2
             cases i2
             rw [e1,e2]
        obtain ⟨hnt,hBl,k,hk1,hk2⟩:=hx.loop p hp
        simp only at hk1
        rw [hmk] at hk1
        cases hk1
        let gs:Value→AV→Prop:=fun v av=>gh.gs v av∨∃ t,t<1024∧v=a.tmps.getD t undef∧av=tm.get d7 t
        obtain ⟨hsz,hround⟩:=hY _ _ _ _ h gs w I ι D (c.args.map a.eval) (fun _ _ h=>.inl h) hx.core (fun b hb=>(hx.names b hb).1) hx.a0P (by simp only [Array.size_map,List.length_map];exact hcs)
         (fun j z q hz hq=>by
          rw [List.getElem?_map,Option.map_eq_some_iff] at hq
          obtain ⟨q',hq',rfl⟩:=hq
          rw [Array.getElem?_map,Option.map_eq_some_iff] at hz
          obtain ⟨z',hz',rfl⟩:=hz
          exact har j z' q' (by simpa using hz') hq')
         (fun v av hv=>by
          rcases hv with hv | ⟨t,ht,rfl,rfl⟩
          ·exact hx.ghost v av hv
          ·exact hx.tm t ht) hk2
        unfold wpOpIn
        simp only [ho]
        rw [a3a (b:=true) (s:=⟨tm,σ,nx,nt'⟩) ⟨I,ι,D,hx⟩ hg hsm (fun t want e=>by rw [hgd] at e;cases e) (fun e=>by cases e),if_pos rfl]
        refine ⟨fun _ _=>trivial,?_⟩
        have hnd:∀ c',o.op≠ .defer c':=by intro c' e;rw [e] at hoc;cases hoc
        rw [Oper.semAt_eq _ _ _ hnd]
        have hexec:(execOp a.eval o).run P w= .ok (.round p.l p.data.fn ((p.data.params.zip (c.args.map a.eval)).foldl (fun tmps (t,a)=>tmps.setIfInBounds t a) p.data.tmps) p.data.assign p.data.body) w:=by
         obtain ⟨dst,op,type,pos,aft,guard⟩:=o
         simp only at hoc
         subst hoc
         simp only [execOp,resolve,hcv,hxf,Deferred.ofValue,Sem.run_bind,Sem.run_pure,Result.andThen_ok,invoke,Array.empty_append]
         have hy:=run_yield (P:=P) (args:=c.args.map a.eval) hk2 hsz
         exact hy
        rw [hexec]
        refine ⟨fun h=>by simp [Fence.wide] at h,?_⟩
        refine RoundIn.mono (R:=b4a P G B w0 I0 p gs D w nx _) ⟨hround.1,fun c cs _=>hround.2 c cs (room_wide _)⟩ fun e w₁ he=>?_
        cases e with
        | returned v=>
          obtain ⟨av,σ',nx',pd,I',ι',D',hKa,hc₁,hle,hD,hrep,hglob,hgh,hstill,hrec⟩:=he
          rw [j7,Z3,I3] at hKa
          have hnext:KR (a.put o.dst v) w₁:=by
           rw [hdst]
           have hsz:(D5 (⟨tm.set d7 L2 (.mark pd),σ',nx',nt'⟩:St) r.dst av σ').nx=nx':=a9w
           refine hK _ _ _ hKa (by rw [a1S]) (by rw [hsz];exact hle) ⟨I',ι',D',?_⟩
           have hσ:(D5 (⟨tm.set d7 L2 (.mark pd),σ',nx',nt'⟩:St) r.dst av σ').σ=σ':=a5N
           have hne:∀ (r:Nat) (o:Obj),gh.a2q r o→r≠p.l:=fun r o hk e=>hkp o (e ▸ hk)
           refine ⟨by rw [hσ];exact hc₁,fun b hb=>?_,?_,?_,hglob,fun t ht=>?_,fun x y hg=>by rw [hσ];exact hgh x y (.inl hg),fun b hb=>?_,
            fun r o hk=>⟨(hx.kept r o hk).1,hstill r o (hne r o hk) (hx.kept r o hk).1 (hx.kept r o hk).2⟩,fun p' hp'=>?_⟩
           ·refine ⟨?_,fun j hj hn=>?_⟩
            ·rw [hsz]
             rcases hD b hb with h | h
             ·have:=(hx.names b h).1;simp only at this hle;omega
             ·exact h.2
            ·rcases hD b hb with h | h
             ·exact (hx.names b h).2 j (by simp [hj]) hn
             ·have h1:=(hL j hj).2
              have h2:=hn.2
              simp only at h1
              omega
           ·obtain ⟨rs,h1,h2,h3⟩:=hx.dfs
            have:Marks B gh.a2q w₁ a.defers:=⟨rs,h1,h2,fun r hr=>⟨(h3 r hr).1,(h3 r hr).2.1,hstill r _ (fun e=>by subst e;rw [(h3 _ hr).2.2] at hk2;cases hk2) rfl (h3 r hr).2.2⟩⟩
            cases r.dst <;>exact this
           ·have:=hx.size
            cases r.dst with
            | none=>exact this
            | some d=>simpa [Act.put,D5] using this
           ·rw [hσ,a0O ht fun d e=>(hdlt d e).2]
            have hold:∀ t,t<1024→e8 w₁ I' ι' σ' D' (a.tmps.getD t undef) ((tm.set d7 L2 (.mark pd)).get d7 t):=fun t ht=>by
             rw [H4]
             split
             ·exact .mark _ _
             ·exact hgh _ _ (.inr ⟨t,ht,rfl,rfl⟩)
            cases hrd:r.dst with
            | none=>simp only [Act.put,reduceCtorEq,if_false];exact hold t ht
            | some d=>
              have hds:d<a.tmps.size:=by rw [hx.size];exact (hdlt d hrd).1
              simp only [Act.put,Option.some.injEq]
              by_cases e:d=t
              ·subst e;rw [if_pos rfl]
               have:(a.tmps.setIfInBounds d v).getD d undef=v:=by simp [Array.getD,hds]
               rw [this];exact hrep
              ·rw [if_neg e]
               have:(a.tmps.setIfInBounds d v).getD t undef=a.tmps.getD t undef:=by
                simp only [Array.getD_eq_getD_getElem?]
                rw [Array.getElem?_setIfInBounds_ne e]
               rw [this];exact hold t ht
           ·rcases hD b hb with h | h
            ·exact hx.base b h
            ·simp only at hnx;exact .inr (by omega)
           ·rw [hp] at hp'
            cases hp'
            refine ⟨by rw [a1S];exact hnt,hBl,pd,?_,hrec⟩
            rw [a0O (by decide) fun d e=>(hdlt d e).2,if_neg (fun e=>by have:=(hdlt _ e).1;simp only [L2] at this hnt;omega),H4,if_pos rfl]
          exact hnext
        | panicked ch=>exact he.elim
        | outgrown=>exact he.elim
       ·cases hcall
      ·cases hcall
     ·exact h.elim
    ·exact h.elim
   ·exact h.elim
  ·rename_i fv hne
   split at h
   ·rename_i g fa fb hca
    split at h
    ·rename_i hf hinlg
     have inlined:b3p hf (fa++args.map (s.ev G)++fb) r.dst s K→(∀ t want,r.guard=some (t,want)→s.ev G (.t t)= .pv (.bool want))→wpOpIn (Fw ro) n P ops Q i KR a w:=by
      intro h hgon
      obtain ⟨hdst,hdlt,hsm,hg,hop⟩:=a6p hk
      obtain ⟨I,ι,D,hx⟩:=hsim
      obtain ⟨tm,σ,nx,nt'⟩:=s
      simp only [b3p] at h
      have hcall:a0L o.op r.op=true:=hop.resolve_left fun h=>by rw [hro,a2K] at h;cases h
      rw [hro] at hcall
      unfold a0L at hcall
      split at hcall
      ·rename_i c f' args' hoc heq
       cases heq
       split at hcall
       ·rename_i x hcv
        simp only [Bool.and_eq_true] at hcall
        obtain ⟨hcf,hcas⟩:=hcall
        obtain ⟨hal,har⟩:=a1s (ρ:=a.eval) (fun o r h=>hx.eval h) hcas
        obtain ⟨xs,ys,hxf,hxl,hyl,hxr,hyr⟩:=a7S hca (hx.eval hcf)
        have hcs:c.args.size=args.length:=by simpa using hal
        let gs:Value→AV→Prop:=fun v av=>gh.gs v av∨∃ t,t<1024∧v=a.tmps.getD t undef∧av=tm.get d7 t
        obtain ⟨henter,hcalls⟩:=hE.inl g hf hinlg _ _ _ _ h B w0 I0 gs w I ι D ((xs++c.args.map a.eval)++ys) hx.core (fun b hb=>(hx.names b hb).1) hx.a0P
         (by simp only [Array.size_append,Array.size_map,List.length_append,List.length_map];omega)
         (fun j z q hz hq=>by
          by_cases h1:j<fa.length
          ·rw [List.getElem?_append_left (by simp;omega),List.getElem?_append_left h1] at hq
           rw [Array.getElem?_append_left (by simp;omega),Array.getElem?_append_left (by omega)] at hz
           exact hxr j z q hz hq
          ·by_cases h2:j<fa.length+args.length
           ·rw [List.getElem?_append_left (by simp;omega),List.getElem?_append_right (by omega),List.getElem?_map,Option.map_eq_some_iff] at hq
            obtain ⟨q',hq',rfl⟩:=hq
            rw [Array.getElem?_append_left (by simp;omega),Array.getElem?_append_right (by omega),Array.getElem?_map,Option.map_eq_some_iff] at hz
            obtain ⟨z',hz',rfl⟩:=hz
            rw [hxl] at hz'
            exact har (j - fa.length) z' q' (by simpa using hz') hq'
           ·rw [List.getElem?_append_right (by simp;omega)] at hq
            rw [Array.getElem?_append_right (by simp;omega)] at hz
            simp only [List.length_append,List.length_map,Array.size_append,Array.size_map] at hq hz
            rw [hxl,hcs] at hz
            exact hyr _ z q hz hq)
         (fun v av hv=>by
          rcases hv with hv | ⟨t,ht,rfl,rfl⟩
          ·exact hx.ghost v av hv
          ·exact hx.tm t ht)
        unfold wpOpIn
        simp only [ho]
        rw [a3a (b:=true) (s:=⟨tm,σ,nx,nt'⟩) ⟨I,ι,D,hx⟩ hg hsm (fun t want e=>by simpa using hgon t want e) (fun e=>by cases e),if_pos rfl]
        refine ⟨fun _ _=>trivial,?_⟩
        have hnd:∀ c',o.op≠ .defer c':=by intro c' e;rw [e] at hoc;cases hoc
        rw [Oper.semAt_eq _ _ _ hnd]
        have hexec:(execOp a.eval o).run P w= .ok (.enter g ((xs++c.args.map a.eval)++ys)) w:=by
         obtain ⟨dst,op,type,pos,aft,guard⟩:=o
         simp only at hoc
         subst hoc
         simp only [execOp,resolve,hcv,hxf,Deferred.ofValue,Sem.run_bind,Sem.run_pure,Result.andThen_ok,invoke]
         exact henter w
        rw [hexec]
        refine ⟨fun h=>by simp [Fence.wide] at h,?_⟩
        have hc':CallsIn (Fw ro) 0 P g ((xs++c.args.map a.eval)++ys) w _:=hcalls
        refine CallsIn.mono (CallsIn.more hc' (Nat.zero_le _)) fun e w₁ he=>?_
        cases e with
        | returned v=>
          obtain ⟨av,σ',nx',I',ι',D',hKa,hc₁,hle,hD,hrep,hglob,hgh,hstill⟩:=he
          rw [I3] at hKa
          have hnext:KR (a.put o.dst v) w₁:=by
           rw [hdst]
           have hsz:(D5 (⟨tm,σ',nx',nt'⟩:St) r.dst av σ').nx=nx':=a9w
           refine hK _ _ _ hKa (by rw [a1S]) (by rw [hsz];exact hle) ⟨I',ι',D',?_⟩
           have hσ:(D5 (⟨tm,σ',nx',nt'⟩:St) r.dst av σ').σ=σ':=a5N
           refine ⟨by rw [hσ];exact hc₁,fun b hb=>?_,?_,?_,hglob,fun t ht=>?_,fun x y hg=>by rw [hσ];exact hgh x y (.inl hg),fun b hb=>?_,fun r o hk=>⟨(hx.kept r o hk).1,hstill r o (hx.kept r o hk).1 (hx.kept r o hk).2⟩,fun p hp=>?_⟩
           ·refine ⟨?_,fun j hj hn=>?_⟩
            ·rw [hsz]
             rcases hD b hb with h | h
             ·have:=(hx.names b h).1;simp only at this hle;omega
             ·exact h.2
            ·rcases hD b hb with h | h
             ·exact (hx.names b h).2 j (by simp [hj]) hn
             ·have h1:=(hL j hj).2
              have h2:=hn.2
              simp only at h1
              omega
           ·obtain ⟨rs,h1,h2,h3⟩:=hx.dfs
            have:Marks B gh.a2q w₁ a.defers:=⟨rs,h1,h2,fun r hr=>⟨(h3 r hr).1,(h3 r hr).2.1,hstill r _ rfl (h3 r hr).2.2⟩⟩
            cases r.dst <;>exact this
           ·have:=hx.size
            cases r.dst with
            | none=>exact this
            | some d=>simpa [Act.put,D5] using this
           ·rw [hσ,a0O ht fun d e=>(hdlt d e).2]
            cases hrd:r.dst with
            | none=>simp only [Act.put,reduceCtorEq,if_false];exact hgh _ _ (.inr ⟨t,ht,rfl,rfl⟩)
            | some d=>
              have hds:d<a.tmps.size:=by rw [hx.size];exact (hdlt d hrd).1
              simp only [Act.put,Option.some.injEq]
              by_cases e:d=t
              ·subst e;rw [if_pos rfl]
               have:(a.tmps.setIfInBounds d v).getD d undef=v:=by simp [Array.getD,hds]
               rw [this];exact hrep
              ·rw [if_neg e]
               have:(a.tmps.setIfInBounds d v).getD t undef=a.tmps.getD t undef:=by
                simp only [Array.getD_eq_getD_getElem?]
                rw [Array.getElem?_setIfInBounds_ne e]
               rw [this];exact hgh _ _ (.inr ⟨t,ht,rfl,rfl⟩)
           ·rcases hD b hb with h | h
            ·exact hx.base b h
            ·simp only at hnx;exact .inr (by omega)
           ·obtain ⟨h1,h2,k,h3,h4⟩:=hx.loop p hp
            refine ⟨by rw [a1S];exact h1,h2,k,?_,hstill _ _ rfl h4⟩
            rw [a0O (by decide) fun d e=>(hdlt d e).2,if_neg (fun e=>by have:=(hdlt _ e).1;simp only [L2] at this h1;omega)]
            exact h3
          exact hnext
        | panicked ch=>exact he.elim
        | outgrown=>exact he.elim
       ·cases hcall
      ·cases hcall
     split at h
     ·rename_i hgd
      exact inlined h fun t want e=>by rw [hgd] at e;cases e
     ·rename_i t want hgd
      split at h
      ·rename_i hon
       refine inlined h fun t' want' e=>?_
       rw [hgd] at e
       cases e
       unfold b4r at hon
       split at hon
       ·rename_i x hx
        rw [hx]
        cases x <;>cases want <;>simp_all
       ·cases hon
      ·exact plain h
    ·exact plain h
   ·exact plain h
 ·exact plain h
theorem b2x {E:Env} (hE:a3d P G E ro B w0 I0 gh) (full:List m7) (hfull:full.length=ops.size) (hins:∀ i o,ops[i]?=some o→a1v P ops nt o (full.getD i default)=true) (hn0:gh.n0≤nx0) {KK:St→Prop}
 (hQ:∀ s' a' w',KK s'→s'.nt=nt→nx0+g9*ops.size≤s'.nx→Sim P G B w0 I0 gh (fun b=>b<s'.nx) s' a' w'→Q .normal a' w'):
 ∀ (l:List m7) (k:Nat) (s:St) (a:Act) (w:World),full.drop k=l→k+l.length=ops.size→s.nt=nt→nx0+g9*ops.size≤s.nx→a7s G (l3 P G) E l (nx0+g9*k) s KK→
   Sim P G B w0 I0 gh (NS nx0 (List.range' k l.length) s) s a w→wpOpsIn (Fw ro) n P ops Q (List.range' k l.length) a w
 | [],k,s,a,w,_,hk,hnt,hnx,hr,hsim=>hQ s a w hr hnt hnx (hsim.weaken fun b h=>h.1)
 | r::l,k,s,a,w,hd,hk,hnt,hnx,hr,hsim=>by
   simp only [List.length_cons] at hk
   have hlt:k<ops.size:=by omega
   have ho:ops[k]?=some ops[k]:=Array.getElem?_eq_getElem hlt
   have hrk:full.getD k default=r:=by
    have:(full.drop k)[0]?=some r:=by rw [hd];rfl
    rw [List.getElem?_drop] at this
    simp only [Nat.add_zero] at this
    simp [List.getD,this]
   have hdrop:full.drop (k+1)=l:=by
    have:=congrArg (List.drop 1) hd
    rw [List.drop_drop] at this
    simpa using this
   have hb:∀ j,j<ops.size→nx0+g9*j+g9≤s.nx:=by
    intro j hj
    have e:g9*(j+1)≤g9*ops.size:=Nat.mul_le_mul_left _ hj
    rw [Nat.mul_succ] at e;omega
   show wpOpsIn (Fw ro) n P ops Q (k::List.range' (k+1) l.length) a w
   rw [wpOpsIn_cons]
   simp only [a7s,j7] at hr
   refine b7I (s:=s) (L:=List.range' (k+1) l.length) hE ho (by rw [hnt,← hrk];exact hins k _ ho) hn0 (hb k hlt) (fun j hj=>?_) hr hsim fun s' a' w' hK hnt' hnx' hs=>?_
   ·have:=List.mem_range'_1.1 hj
    exact ⟨by omega,hb j (by omega)⟩
   ·have e:nx0+g9*k+g9=nx0+g9*(k+1):=by rw [Nat.mul_succ];omega
    rw [e] at hK
    exact b2x hE full hfull hins hn0 hQ l (k+1) s' a' w' hdrop (by omega) (by rw [hnt',hnt]) (by omega) hK hs
theorem a5v {l:Array Bool} {i:Nat} (hi:i<l.size):l.getD i false=l.getD i true:=by simp [Array.getD,hi]
theorem b6P (hins:∀ i o,ops[i]?=some o→a1v P ops nt o (ins i)=true)
 (hpre:∀ i o,ops[i]?=some o→(∀ x,(ins i).pre.testBit x=true→∃ e ∈ o.after.toList,Region.binds .any e=true∧(e.on=x∨(ins e.on).pre.testBit x=true))∧∀ e ∈ o.after.toList,Region.binds .any e=true→e.on<i)
 (hap:∀ i j,i<j→j<ops.size→a4d (ins i) (ins j)=true∨(ins j).pre.testBit i=true)
 (hcl:∀ i j,i<j→j<ops.size→((dat i).a2j (ins i)).a1Z ((dat j).a2j (ins j))=true→(ins j).pre.testBit i=true)
 (hn0:gh.n0≤nx0) (hQ:∀ a' w',Sim P G B w0 I0 gh (fun b=>b<nx0+g9*ops.size) sf a' w'→Q .normal a' w'):
 ∀ (fuel:Nat) (listed:Array Bool) (L:List Nat) (s:St) (a:Act) (w:World),L.length≤fuel→listed.size=ops.size→L.Pairwise (·<·)→(∀ i,i ∈ L↔i<ops.size∧listed.getD i true=false)→
   (∀ j,j<ops.size→listed.getD j true=true→∀ i,(ins j).pre.testBit i=true→i<ops.size→listed.getD i true=true)→s.nt=nt→
   a3e G (l3 P G) ins (fun i=>nx0+g9*i) dat L s sf→Sim P G B w0 I0 gh (NL nx0 (nx0+g9*ops.size) L) s a w→wpAnyIn (Fw ro) n P .any ops Q fuel listed a w:=by
 intro fuel
 have done:∀ (s:St) (a:Act) (w:World),a3e G (l3 P G) ins (fun i=>nx0+g9*i) dat [] s sf→Sim P G B w0 I0 gh (NL nx0 (nx0+g9*ops.size) []) s a w→Q .normal a w:=
  fun s a w hr hsim=>hQ a w ((Sim.eqv hsim hr).weaken fun b h=>h.1)
 have noReady:∀ (listed:Array Bool) (L:List Nat),listed.size=ops.size→L.Pairwise (·<·)→(∀ i,i ∈ L↔i<ops.size∧listed.getD i true=false)→Region.ready .any ops listed=[]→L=[]:=by
  intro listed L hsz hpw hmem hr
  cases L with
  | nil=>rfl
  | cons j C=>
    exfalso
    obtain ⟨hj1,hj2⟩:=(hmem j).1 (by simp)
    have hoj:ops[j]?=some ops[j]:=Array.getElem?_eq_getElem hj1
    have:j ∈ Region.ready .any ops listed:=mem_ready.2 ⟨hj2,ops[j],hoj,fun e he hb=>by
     have hlt:=(hpre j _ hoj).2 e (by simpa using he) hb
     rw [a5v (by omega)]
     cases hl:listed.getD e.on true with
     | true=>rfl
     | false=>
       have hin:=(hmem e.on).2 ⟨by omega,hl⟩
       simp only [List.pairwise_cons] at hpw
       rcases List.mem_cons.1 hin with h | h
       ·omega
       ·have:=hpw.1 _ h;omega⟩
    rw [hr] at this;cases this
 induction fuel with
 | zero=>
   intro listed L s a w hlen hsz hpw hmem hclo hnt hr hsim
   have hL:L=[]:=List.eq_nil_of_length_eq_zero (by omega)
   subst hL
   refine ⟨?_,done s a w hr hsim⟩
   cases hrd:Region.ready .any ops listed with
   | nil=>rfl
   | cons j l=>
     exfalso
     have:j ∈ Region.ready .any ops listed:=by rw [hrd];simp
     obtain ⟨h1,oj,h2,_⟩:=mem_ready.1 this
     have:=(hmem j).2 ⟨(Array.getElem?_eq_some_iff.1 h2).1,h1⟩
     cases this
 | succ fuel ih=>
   intro listed L s a w hlen hsz hpw hmem hclo hnt hr hsim
   refine ⟨fun h0=>?_,fun j hj=>?_⟩
   ·have:=noReady listed L hsz hpw hmem h0
    subst this
    exact done s a w hr hsim
   ·obtain ⟨hj1,oj,hoj,hall⟩:=mem_ready.1 hj
    have hjlt:j<ops.size:=(Array.getElem?_eq_some_iff.1 hoj).1
    have hjL:j ∈ L:=(hmem j).2 ⟨hjlt,hj1⟩
    obtain ⟨A,C,rfl⟩:=List.append_of_mem hjL
    have hpre':∀ i,(ins j).pre.testBit i=true→i<ops.size→listed.getD i true=true:=by
     intro i hi hilt
     obtain ⟨e,he,hb,hx⟩:=(hpre j oj hoj).1 i hi
     have hl:=hall e (by simpa using he) hb
     have helt:=(hpre j oj hoj).2 e he hb
     rw [a5v (by omega)] at hl
     rcases hx with rfl | hx
     ·exact hl
     ·exact hclo e.on (by omega) hl i hx hilt
    have hA:∀ i ∈ A,i<j∧i<ops.size∧(ins j).pre.testBit i=false:=by
     intro i hi
     have hij:i<j:=(List.pairwise_append.1 hpw).2.2 i hi j (by simp)
     refine ⟨hij,by omega,?_⟩
     cases hb:(ins j).pre.testBit i with
     | false=>rfl
     | true=>
       have h1:=hpre' i hb (by omega)
       have h2:=((hmem i).1 (by simp [hi])).2
       rw [h1] at h2;cases h2
    have hsm:∀ i,i<ops.size→a1b (ins i)=true:=by
     intro i hi
     have:=hins i _ (Array.getElem?_eq_getElem hi)
     simp only [a1v,Bool.and_eq_true] at this
     exact this.1.1.2
    obtain ⟨h1,h2⟩:=a3e.front (hsm j hjlt) A (fun i hi=>by
     obtain ⟨k1,k2,k3⟩:=hA i hi
     refine ⟨hsm i k2,(hap i j k1 hjlt).resolve_right (by rw [k3];simp),?_⟩
     cases hc:((dat i).a2j (ins i)).a1Z ((dat j).a2j (ins j)) with
     | false=>rfl
     | true=>have:=hcl i j k1 hjlt hc;rw [k3] at this;cases this) hr
    have hne:∀ k ∈ A++C,k≠j:=by
     intro k hk e
     subst e
     rcases List.mem_append.1 hk with h | h
     ·exact absurd (hA k h).1 (Nat.lt_irrefl _)
     ·have:=(List.pairwise_append.1 hpw).2.1
      rw [List.pairwise_cons] at this
      exact absurd (this.1 k h) (Nat.lt_irrefl _)
    refine b8g (s:=s) hoj (hnt ▸ hins j oj hoj) h1 hsim (fun b hb=>hb.2 j (by simp)) ⟨_,fun b hb=>hb.1⟩ (by omega) fun a' w' hs=>?_
    have hget:∀ i,(listed.setIfInBounds j true).getD i true=if i=j then true else listed.getD i true:=by
     intro i
     simp only [Array.getD_eq_getD_getElem?,Array.getElem?_setIfInBounds]
     by_cases e:j=i
     ·subst e;simp [hsz,hjlt]
     ·have:¬ i=j:=fun h=>e h.symm
      simp [e,this]
    refine ih _ (A++C) _ a' w' (by simp at hlen ⊢;omega) (by simpa using hsz) ?_ (fun i=>?_) (fun k hk hl i hi hilt=>?_) (by rw [W0,after,a1S,hnt]) h2 (hs.weaken fun b hb=>NL.next hjlt hne hb)
    ·exact hpw.sublist (by simp)
    ·rw [hget]
     constructor
     ·intro hi
      have hij:=hne i hi
      have:=(hmem i).1 (a9o hi)
      exact ⟨this.1,by rw [if_neg hij];exact this.2⟩
     ·rintro ⟨h1,h2⟩
      by_cases e:i=j
      ·rw [if_pos e] at h2;cases h2
      ·rw [if_neg e] at h2
       exact b5C ((hmem i).2 ⟨h1,h2⟩) e
    ·rw [hget] at hl ⊢
     by_cases e:i=j
     ·rw [if_pos e]
     ·rw [if_neg e]
      by_cases e':k=j
      ·subst e';exact hpre' i hi hilt
      ·rw [if_neg e'] at hl;exact hclo k hk hl i hi hilt
theorem a5x {Ok:Nat→List PV→Own→PV→Prop} {E:Env} {r:m7} {nm:Nat} {st:St} {K:St→Prop} (hq:r.op.quiet=true) (hg:r.guard=none):
 a9Z G Ok E r nm st K↔∃ e,step st.σ nm (st.ev G) r.op=some e∧K (D5 st r.dst e.v st.σ):=by
 obtain ⟨dst,op,guard,pre⟩:=r
 simp only at hq hg
 subst hg
 have hs:a9Z G Ok E ⟨dst,op,none,pre⟩ nm st K=opW G Ok ⟨dst,op,none,pre⟩ nm st (fun st' _=>K st'):=by
  cases op <;>first | (simp [ROp.quiet] at hq;done) | rfl
 have ho:opW G Ok ⟨dst,op,none,pre⟩ nm st (fun st' _=>K st')↔∃ e,step st.σ nm (st.ev G) op=some e∧K (D5 st dst e.v (m0 st.σ e.up)):=by
  have:opW G Ok ⟨dst,op,none,pre⟩ nm st (fun st' _=>K st')=(match st with
   | ⟨tm,σ,nx,nt⟩=>match step σ nm (St.ev G ⟨tm,σ,nx,nt⟩) op with
     | some e=>a2s σ e.up fun σ'=>b2t ⟨tm,σ,nx,nt⟩ dst e.v σ' fun st'=>K st'
     | none=>False):=by
   cases op <;>first | (simp [ROp.quiet] at hq;done) | rfl
  rw [this]
  obtain ⟨tm,σ,nx,nt⟩:=st
  simp only
  cases step σ nm (St.ev G ⟨tm,σ,nx,nt⟩) op with
  | none=>simp
  | some e=>simp [H0,I3]
 rw [hs,ho]
 constructor
 ·rintro ⟨e,he,hK⟩
  rw [b5P hq he] at hK
  exact ⟨e,he,hK⟩
 ·rintro ⟨e,he,hK⟩
  refine ⟨e,he,?_⟩
  rw [b5P hq he]
  exact hK
def opsL (G:Gl) (Ok:Nat→List PV→Own→PV→Prop) (E:Env) (ins:Nat→m7) (nx0:Nat):List Nat→St→(St→Prop)→Prop
 | [],s,K=>K s
 | i::L,s,K=>a9Z G Ok E (ins i) (nx0+g9*i) s fun s'=>opsL G Ok E ins nx0 L s' K
theorem c2K {Ok:Nat→List PV→Own→PV→Prop} {E:Env} (full:List m7):∀ (l:List m7) (k:Nat) (s:St) (K:St→Prop),full.drop k=l→a7s G Ok E l (nx0+g9*k) s K→opsL G Ok E (fun i=>full.getD i default) nx0 (List.range' k l.length) s K
 | [],k,s,K,_,h=>h
 | r::l,k,s,K,hd,h=>by
   have hrk:full.getD k default=r:=by
    have:(full.drop k)[0]?=some r:=by rw [hd];rfl
    rw [List.getElem?_drop] at this
    simp only [Nat.add_zero] at this
    simp [List.getD,this]
   have hdrop:full.drop (k+1)=l:=by
    have:=congrArg (List.drop 1) hd
    rw [List.drop_drop] at this
    simpa using this
   have e:nx0+g9*k+g9=nx0+g9*(k+1):=by rw [Nat.mul_succ];omega
   simp only [a7s,j7,e] at h
   show a9Z G Ok E (full.getD k default) (nx0+g9*k) s (fun s'=>opsL G Ok E (fun i=>full.getD i default) nx0 (List.range' (k+1) l.length) s' K)
   rw [hrk]
   have mono:∀ s',a7s G Ok E l (nx0+g9*(k+1)) s' K=opsL G Ok E (fun i=>full.getD i default) nx0 (List.range' (k+1) l.length) s' K:=fun s'=>opsL_eq full l (k+1) s' K hdrop
   rw [show (fun s'=>opsL G Ok E (fun i=>full.getD i default) nx0 (List.range' (k+1) l.length) s' K)=fun s'=>a7s G Ok E l (nx0+g9*(k+1)) s' K from funext fun s'=>(mono s').symm]
   exact h
where
 opsL_eq (full:List m7):∀ (l:List m7) (k:Nat) (s:St) (K:St→Prop),full.drop k=l→a7s G Ok E l (nx0+g9*k) s K=opsL G Ok E (fun i=>full.getD i default) nx0 (List.range' k l.length) s K
  | [],k,s,K,_=>rfl
  | r::l,k,s,K,hd=>by
    have hrk:full.getD k default=r:=by
     have:(full.drop k)[0]?=some r:=by rw [hd];rfl
     rw [List.getElem?_drop] at this
     simp only [Nat.add_zero] at this
     simp [List.getD,this]
    have hdrop:full.drop (k+1)=l:=by
     have:=congrArg (List.drop 1) hd
     rw [List.drop_drop] at this
     simpa using this
    have e:nx0+g9*k+g9=nx0+g9*(k+1):=by rw [Nat.mul_succ];omega
    simp only [a7s,j7,e]
    show _=a9Z G Ok E (full.getD k default) (nx0+g9*k) s (fun s'=>opsL G Ok E (fun i=>full.getD i default) nx0 (List.range' (k+1) l.length) s' K)
    rw [hrk]
    congr 1
    funext s'
    exact opsL_eq full l (k+1) s' K hdrop
theorem b2n {Ok:Nat→List PV→Own→PV→Prop} {E:Env} {j:Nat} {C:List Nat} {K:St→Prop} (hj:a1b (ins j)=true):∀ (A:List Nat) (s:St),
 (∀ i ∈ A,a1b (ins i)=true∧a4d (ins i) (ins j)=true∧a4N (ins i) (ins j)=true)→
 opsL G Ok E ins nx0 (A++j::C) s K→a9Z G Ok E (ins j) (nx0+g9*j) s fun s'=>opsL G Ok E ins nx0 (A++C) s' K
 | [],s,_,h=>h
 | i::A,s,hA,h=>by
   obtain ⟨si,ap,cp⟩:=hA i (by simp)
   simp only [a4N,Bool.and_eq_true,Option.isNone_iff_eq_none] at cp
   obtain ⟨⟨⟨gi,gj⟩,qi⟩,qj⟩:=cp
   obtain ⟨a1,a2,a3⟩:=b0A ap
   obtain ⟨ri,di⟩:=T8 si
   obtain ⟨rj,dj⟩:=T8 hj
   obtain ⟨ei,hei,h⟩:=(a5x qi gi).1 h
   have h:=b2n hj A _ (fun k hk=>hA k (by simp [hk])) h
   obtain ⟨ej,hej,h⟩:=(a5x qj gj).1 h
   have evs:∀ (r x:m7) (v:AV),(∀ t ∈ r.reads,t<1024)→(∀ d,x.dst=some d→d<1024)→(∀ t ∈ r.reads,x.dst≠some t)→∀ y ∈ r.op.operands,(D5 s x.dst v s.σ).ev G y=s.ev G y:=by
    intro r x v hr hx hne y hy
    cases y with
    | t n=>
      have hn:n ∈ r.reads:=List.mem_append_left _ (List.mem_flatten.2 ⟨[n],List.mem_map.2 ⟨_,hy,rfl⟩,by simp⟩)
      show (D5 s x.dst v s.σ).tm.get d7 n=_
      rw [a0O (hr n hn) hx,if_neg (hne n hn)]
      rfl
    | c v=>rfl
    | f g=>rfl
    | g i=>rfl
   rw [a5N] at hej h
   have hej':step s.σ (nx0+g9*j) (s.ev G) (ins j).op=some ej:=a8r hej (fun y hy=>(evs (ins j) (ins i) ei.v rj di a1 y hy).symm) fun b _=>⟨.of_eq rfl,fun _=>rfl⟩
   refine (a5x qj gj).2 ⟨ej,hej',?_⟩
   show a9Z G Ok E (ins i) (nx0+g9*i) _ fun s'=>opsL G Ok E ins nx0 (A++C) s' K
   refine (a5x qi gi).2 ⟨ei,?_,?_⟩
   ·rw [a5N]
    exact a8r hei (fun y hy=>evs (ins i) (ins j) ej.v ri dj a2 y hy) fun b _=>⟨.of_eq rfl,fun _=>rfl⟩
   ·rw [a5N,b8S dj di fun x y hx hy=>(a3 y x hy hx).symm]
    exact h
theorem b5Q {E:Env} (hE:a3d P G E ro B w0 I0 gh) (hins:∀ i o,ops[i]?=some o→a1v P ops nt o (ins i)=true)
 (hpre:∀ i o,ops[i]?=some o→(∀ x,(ins i).pre.testBit x=true→∃ e ∈ o.after.toList,Region.binds .any e=true∧(e.on=x∨(ins e.on).pre.testBit x=true))∧∀ e ∈ o.after.toList,Region.binds .any e=true→e.on<i)
 (hap:∀ i j,i<j→j<ops.size→a4d (ins i) (ins j)=true∨(ins j).pre.testBit i=true)
 (hcl:∀ i j,i<j→j<ops.size→a4N (ins i) (ins j)=true∨(ins j).pre.testBit i=true)
 (hn0:gh.n0≤nx0) {KK:St→Prop} (hQ:∀ s' a' w',KK s'→s'.nt=nt→nx0+g9*ops.size≤s'.nx→Sim P G B w0 I0 gh (fun b=>b<s'.nx) s' a' w'→Q .normal a' w'):
 ∀ (fuel:Nat) (listed:Array Bool) (L:List Nat) (s:St) (a:Act) (w:World),L.length≤fuel→listed.size=ops.size→L.Pairwise (·<·)→(∀ i,i ∈ L↔i<ops.size∧listed.getD i true=false)→
   (∀ j,j<ops.size→listed.getD j true=true→∀ i,(ins j).pre.testBit i=true→i<ops.size→listed.getD i true=true)→s.nt=nt→nx0+g9*ops.size≤s.nx→
   opsL G (l3 P G) E ins nx0 L s KK→Sim P G B w0 I0 gh (NS nx0 L s) s a w→wpAnyIn (Fw ro) n P .any ops Q fuel listed a w:=by
 intro fuel
 have done:∀ (s:St) (a:Act) (w:World),s.nt=nt→nx0+g9*ops.size≤s.nx→KK s→Sim P G B w0 I0 gh (NS nx0 [] s) s a w→Q .normal a w:=
  fun s a w hnt hnx hr hsim=>hQ s a w hr hnt hnx (hsim.weaken fun b h=>h.1)
 have noReady:∀ (listed:Array Bool) (L:List Nat),listed.size=ops.size→L.Pairwise (·<·)→(∀ i,i ∈ L↔i<ops.size∧listed.getD i true=false)→Region.ready .any ops listed=[]→L=[]:=by
  intro listed L hsz hpw hmem hr
  cases L with
  | nil=>rfl
  | cons j C=>
    exfalso
    obtain ⟨hj1,hj2⟩:=(hmem j).1 (by simp)
    have hoj:ops[j]?=some ops[j]:=Array.getElem?_eq_getElem hj1
    have:j ∈ Region.ready .any ops listed:=mem_ready.2 ⟨hj2,ops[j],hoj,fun e he hb=>by
     have hlt:=(hpre j _ hoj).2 e (by simpa using he) hb
     rw [a5v (by omega)]
     cases hl:listed.getD e.on true with
     | true=>rfl
     | false=>
       have hin:=(hmem e.on).2 ⟨by omega,hl⟩
       simp only [List.pairwise_cons] at hpw
       rcases List.mem_cons.1 hin with h | h
       ·omega
       ·have:=hpw.1 _ h;omega⟩
    rw [hr] at this;cases this
 induction fuel with
 | zero=>
   intro listed L s a w hlen hsz hpw hmem hclo hnt hnx hr hsim
   have hL:L=[]:=List.eq_nil_of_length_eq_zero (by omega)
   subst hL
   refine ⟨?_,done s a w hnt hnx hr hsim⟩
   cases hrd:Region.ready .any ops listed with
   | nil=>rfl
   | cons j l=>
     exfalso
     have:j ∈ Region.ready .any ops listed:=by rw [hrd];simp
     obtain ⟨h1,oj,h2,_⟩:=mem_ready.1 this
     have:=(hmem j).2 ⟨(Array.getElem?_eq_some_iff.1 h2).1,h1⟩
     cases this
 | succ fuel ih=>
   intro listed L s a w hlen hsz hpw hmem hclo hnt hnx hr hsim
   refine ⟨fun h0=>?_,fun j hj=>?_⟩
   ·have:=noReady listed L hsz hpw hmem h0
    subst this
    exact done s a w hnt hnx hr hsim
   ·obtain ⟨hj1,oj,hoj,hall⟩:=mem_ready.1 hj
    have hjlt:j<ops.size:=(Array.getElem?_eq_some_iff.1 hoj).1
    have hjL:j ∈ L:=(hmem j).2 ⟨hjlt,hj1⟩
    obtain ⟨A,C,rfl⟩:=List.append_of_mem hjL
    have hpre':∀ i,(ins j).pre.testBit i=true→i<ops.size→listed.getD i true=true:=by
     intro i hi hilt
     obtain ⟨e,he,hb,hx⟩:=(hpre j oj hoj).1 i hi
     have hl:=hall e (by simpa using he) hb
     have helt:=(hpre j oj hoj).2 e he hb
     rw [a5v (by omega)] at hl
     rcases hx with rfl | hx
     ·exact hl
     ·exact hclo e.on (by omega) hl i hx hilt
    have hA:∀ i ∈ A,i<j∧i<ops.size∧(ins j).pre.testBit i=false:=by
     intro i hi
     have hij:i<j:=(List.pairwise_append.1 hpw).2.2 i hi j (by simp)
     refine ⟨hij,by omega,?_⟩
     cases hb:(ins j).pre.testBit i with
     | false=>rfl
     | true=>
       have h1:=hpre' i hb (by omega)
       have h2:=((hmem i).1 (by simp [hi])).2
       rw [h1] at h2;cases h2
    have hsm:∀ i,i<ops.size→a1b (ins i)=true:=by
     intro i hi
     have:=hins i _ (Array.getElem?_eq_getElem hi)
     simp only [a1v,Bool.and_eq_true] at this
     exact this.1.1.2
    have hfr:=b2n (hsm j hjlt) A s (fun i hi=>by
     obtain ⟨k1,k2,k3⟩:=hA i hi
     exact ⟨hsm i k2,(hap i j k1 hjlt).resolve_right (by rw [k3];simp),(hcl i j k1 hjlt).resolve_right (by rw [k3];simp)⟩) hr
    have hne:∀ k ∈ A++C,k≠j:=by
     intro k hk e
     subst e
     rcases List.mem_append.1 hk with h | h
     ·exact absurd (hA k h).1 (Nat.lt_irrefl _)
     ·have:=(List.pairwise_append.1 hpw).2.1
      rw [List.pairwise_cons] at this
      exact absurd (this.1 k h) (Nat.lt_irrefl _)
    have hb:∀ j,j<ops.size→nx0+g9*j+g9≤s.nx:=by
     intro j hj
     have e:g9*(j+1)≤g9*ops.size:=Nat.mul_le_mul_left _ hj
     rw [Nat.mul_succ] at e;omega
    refine b7I (s:=s) (L:=A++C) hE hoj (hnt ▸ hins j oj hoj) hn0 (hb j hjlt) (fun k hk=>⟨(hne k hk).symm,hb k ((hmem k).1 (a9o hk)).1⟩) hfr
     (hsim.weaken fun b h=>⟨h.1,fun k hk=>h.2 k ((List.mem_cons.1 hk).elim (fun e=>by rw [e];simp) fun e=>a9o e)⟩) fun s' a' w' hK hnt' hnx' hs=>?_
    have hget:∀ i,(listed.setIfInBounds j true).getD i true=if i=j then true else listed.getD i true:=by
     intro i
     simp only [Array.getD_eq_getD_getElem?,Array.getElem?_setIfInBounds]
     by_cases e:j=i
     ·subst e;simp [hsz,hjlt]
     ·have:¬ i=j:=fun h=>e h.symm
      simp [e,this]
    refine ih _ (A++C) s' a' w' (by simp at hlen ⊢;omega) (by simpa using hsz) ?_ (fun i=>?_) (fun k hk hl i hi hilt=>?_) (hnt'.trans hnt) (by omega) hK hs
    ·exact hpw.sublist (by simp)
    ·rw [hget]
     constructor
     ·intro hi
      have hij:=hne i hi
      have:=(hmem i).1 (a9o hi)
      exact ⟨this.1,by rw [if_neg hij];exact this.2⟩
     ·rintro ⟨h1,h2⟩
      by_cases e:i=j
      ·rw [if_pos e] at h2;cases h2
      ·rw [if_neg e] at h2
       exact b5C ((hmem i).2 ⟨h1,h2⟩) e
    ·rw [hget] at hl ⊢
     by_cases e:i=j
     ·rw [if_pos e]
     ·rw [if_neg e]
      by_cases e':k=j
      ·subst e';exact hpre' i hi hilt
      ·rw [if_neg e'] at hl;exact hclo k hk hl i hi hilt
end
end Go.Ab
namespace Go.Ab
open Go.RowKit
theorem b1T:∀ {l:List Nat} {b k n:Nat},H5 l b k=some n→k≤n∧n<k+l.length∧l[n - k]?=some b
 | [],_,_,_,h=>by simp [H5] at h
 | x::l,b,k,n,h=>by
   simp only [H5] at h
   split at h
   ·rename_i hx
    cases h
    simp at hx
    subst hx
    exact ⟨Nat.le_refl _,by simp,by simp⟩
   ·obtain ⟨h1,h2,h3⟩:=b1T h
    refine ⟨by omega,by simp;omega,?_⟩
    have e:n - k=(n - (k+1))+1:=by omega
    rw [e];simpa using h3
theorem b1L (f:Nat→Option Nat) (σ:b7):∀ (l:List Nat) (k n:Nat) (o:d9),find (a3V f σ l k) n=some o→k≤n∧∃ b o',l[n - k]?=some b∧find σ b=some o'∧o=b0r f o'
 | [],_,_,_,h=>by simp [a3V,find] at h
 | b::l,k,n,o,h=>by
   simp only [a3V,find] at h
   split at h
   ·rename_i hk
    simp at hk;subst hk
    split at h
    ·rename_i o' ho'
     cases h
     exact ⟨Nat.le_refl _,b,o',by simp,ho',rfl⟩
    ·cases h
   ·obtain ⟨h1,b',o',h2,h3,h4⟩:=b1L f σ l (k+1) n o h
    refine ⟨by omega,b',o',?_,h3,h4⟩
    have e:n - k=(n - (k+1))+1:=by omega
    rw [e];simpa using h2
theorem a2h (σ:b7):∀ (n:Nat) (todo acc:List Nat),acc.Nodup→(reach σ n todo acc).Nodup
 | 0,_,acc,h=>by simpa [reach] using h
 | n+1,[],acc,h=>by simpa [reach] using h
 | n+1,b::todo,acc,h=>by
   simp only [reach]
   split
   ·exact a2h σ n todo acc h
   ·rename_i hb
    split
    ·exact a2h σ n todo acc h
    ·refine a2h σ n _ _ ?_
     rw [List.nodup_append]
     refine ⟨h,by simp,fun x hx y hy=>?_⟩
     simp at hy;subst hy
     intro e;subst e
     simp only [List.any_eq_false,beq_iff_eq] at hb
     exact hb x hx rfl
theorem a5O (f:Nat→Option Nat) (o:d9):(b0r f o).es=o.es:=by cases o <;>rfl
theorem a6P (f:Nat→Option Nat) (o:d9):(b0r f o).len=o.len:=by cases o <;>simp [b0r,d9.len]
theorem b5R (f:Nat→Option Nat) (o:d9):(b0r f o).O3=o.O3:=by cases o <;>rfl
theorem a5c (f:Nat→Option Nat):∀ l:List AV,b4J f l=l.map (L8 f)
 | []=>rfl
 | a::l=>by simp only [b4J,List.map_cons];rw [a5c f l]
theorem c0R (f:Nat→Option Nat) (o:d9) (i:Nat) (row:List AV) (h:(b0r f o).row? i=some row):∃ row',o.row? i=some row'∧row=row'.map (L8 f):=by
 cases o with
 | map l=>simp [b0r,d9.row?] at h
 | arr e r s=>
   refine ⟨row,h,?_⟩
   simp only [b0r,d9.row?] at h
   split at h
   ·cases h
    simp only [List.map_map]
    apply List.map_congr_left
    intro p _;rfl
   ·cases h
 | box e r s=>
   simp only [b0r,d9.row?,List.getElem?_map,Option.map_eq_some_iff] at h
   obtain ⟨row',h1,rfl⟩:=h
   exact ⟨row',h1,a5c f row'⟩
section
variable {B:Nat} {w0:World} {I0:v9} {w:World} {I:v9} {ι:Nat→Option Nat} {σ:b7} {D:Nat→Prop} {ns:List Nat}
def a4z (ι:Nat→Option Nat) (ns:List Nat):Nat→Option Nat:=fun n=>(ns[n]?).bind ι
def c0C (ns:List Nat):Nat→Prop:=fun n=>n<ns.length
theorem V7 {n:Nat} {o:d9} (h:find (a3V (fun b=>H5 ns b 0) σ ns 0) n=some o):∃ b o',ns[n]?=some b∧find σ b=some o'∧o=b0r (fun b=>H5 ns b 0) o'∧a4z ι ns n=ι b:=by
 obtain ⟨_,b,o',h1,h2,h3⟩:=b1L _ _ _ _ _ _ h
 simp only [Nat.sub_zero] at h1
 exact ⟨b,o',h1,h2,h3,by simp [a4z,h1]⟩
theorem e8.a6E {D':Nat→Prop} (hD':∀ n b,ns[n]?=some b→D b→D' n) {v:Value} {a:AV} (h:e8 w I ι σ D v a):e8 w I (a4z ι ns) (a3V (fun b=>H5 ns b 0) σ ns 0) D' v (L8 (fun b=>H5 ns b 0) a):=by
 have key:∀ {b n:Nat},H5 ns b 0=some n→D b→D' n∧ns[n]?=some b:=by
  intro b n h hb
  obtain ⟨_,h2,h3⟩:=b1T h
  simp only [Nat.sub_zero] at h3
  exact ⟨hD' n b h3 hb,h3⟩
 induction h with
 | pv h=>simp only [L8];exact .pv h
 | emp es=>simp only [L8];exact .emp es
 | fsl h=>simp only [L8];exact .fsl h
 | ptr hD h1 h=>
   simp only [L8]
   split
   ·rename_i n hn
    obtain ⟨k1,k2⟩:=key hn hD
    refine .ptr k1 h1 fun o ho=>?_
    obtain ⟨b',o',g1,g2,g3,g4⟩:=V7 (ι:=ι) ho
    rw [k2] at g1;cases g1
    obtain ⟨r,hr,hv⟩:=h o' g2
    exact ⟨r,g4.trans hr,by rw [g3,a5O];exact hv⟩
   ·exact .undef _
 | own hD h1 h=>
   simp only [L8]
   split
   ·rename_i n hn
    obtain ⟨k1,k2⟩:=key hn hD
    refine .own k1 h1 fun o ho=>?_
    obtain ⟨b',o',g1,g2,g3,g4⟩:=V7 (ι:=ι) ho
    rw [k2] at g1;cases g1
    obtain ⟨p,cap,hv,hlen,hcap,hcase⟩:=h o' g2
    refine ⟨p,cap,hv,by rw [g3,a6P];exact hlen,⟨hcap.1,by rw [g3,a6P];exact hcap.2⟩,?_⟩
    rcases hcase with hx | ⟨r,c,T,fz,h1,h2,h3,h4⟩
    ·exact .inl hx
    ·exact .inr ⟨r,c,T,fz,g4.trans h1,by rw [g3,a5O];exact h2,h3,by rw [g3,a5O];exact h4⟩
   ·exact .undef _
 | a0u hD h1 h=>
   simp only [L8]
   split
   ·rename_i n hn
    obtain ⟨k1,k2⟩:=key hn hD
    refine .a0u k1 h1 fun o ho=>?_
    obtain ⟨b',o',g1,g2,g3,g4⟩:=V7 (ι:=ι) ho
    rw [k2] at g1;cases g1
    obtain ⟨r,hr,hv⟩:=h o' g2
    exact ⟨r,g4.trans hr,hv⟩
   ·exact .undef _
 | agg hl _ ih=>
   simp only [L8,a5c]
   refine .agg (by simpa using hl) fun j x q hx hq=>?_
   rw [List.getElem?_map,Option.map_eq_some_iff] at hq
   obtain ⟨q',hq',rfl⟩:=hq
   exact ih j x q' hx hq'
 | o0 hl _ ih=>
   simp only [L8,a5c]
   refine .o0 (by simpa using hl) fun j x q hx hq=>?_
   rw [List.getElem?_map,Option.map_eq_some_iff] at hq
   obtain ⟨q',hq',rfl⟩:=hq
   exact ih j x q' hx hq'
 | func hl hl' _ _ ih ih'=>
   simp only [L8,a5c]
   refine .func (by simpa using hl) (by simpa using hl') (fun j x q hx hq=>?_) (fun j x q hx hq=>?_)
   ·rw [List.getElem?_map,Option.map_eq_some_iff] at hq
    obtain ⟨q',hq',rfl⟩:=hq
    exact ih j x q' hx hq'
   ·rw [List.getElem?_map,Option.map_eq_some_iff] at hq
    obtain ⟨q',hq',rfl⟩:=hq
    exact ih' j x q' hx hq'
 | O5 b=>simp only [L8];exact .O5 b
 | yld hD h=>
   simp only [L8]
   split
   ·rename_i n hn
    obtain ⟨k1,k2⟩:=key hn hD
    exact .yld k1 (by simp [a4z,k2,h])
   ·exact .undef _
 | mark v k=>simp only [L8];exact .mark v k
 | undef v=>simp only [L8];exact .undef v
theorem e8.norm {v:Value} {a:AV} (h:e8 w I ι σ D v a):e8 w I (a4z ι ns) (a3V (fun b=>H5 ns b 0) σ ns 0) (c0C ns) v (L8 (fun b=>H5 ns b 0) a):=
 e8.a6E (fun _ _ h _=>(List.getElem?_eq_some_iff.1 h).1) h
theorem z6.a6E {D':Nat→Prop} (hD':∀ n b,ns[n]?=some b→D b→D' n) (hs:z6 B w I ι σ D) (hnd:ns.Nodup):z6 B w I (a4z ι ns) (a3V (fun b=>H5 ns b 0) σ ns 0) D':=by
 refine ⟨hs.bnd,fun n o h=>?_,fun n n' o o' r h h' e e'=>?_,fun n o r h e=>?_,fun n o r k h e hi=>?_,fun n o h=>?_⟩
 ·obtain ⟨b,o',h1,h2,h3,h4⟩:=V7 (ι:=ι) h
  exact hD' _ _ h1 (hs.dom b o' h2)
 ·obtain ⟨b,o₁,h1,h2,h3,h4⟩:=V7 (ι:=ι) h
  obtain ⟨b',o₁',h1',h2',h3',h4'⟩:=V7 (ι:=ι) h'
  have:b=b':=hs.inj b b' o₁ o₁' r h2 h2' (h4 ▸ e) (h4' ▸ e')
  subst this
  exact (List.getElem?_inj (List.getElem?_eq_some_iff.1 h1).1 hnd).1 (h1.trans h1'.symm)
 ·obtain ⟨b,o₁,h1,h2,h3,h4⟩:=V7 (ι:=ι) h
  exact hs.ge b o₁ r h2 (h4 ▸ e)
 ·obtain ⟨b,o₁,h1,h2,h3,h4⟩:=V7 (ι:=ι) h
  rw [h3,b5R,a6P,a5O]
  exact hs.sep b o₁ r k h2 (h4 ▸ e) hi
 ·obtain ⟨b,o₁,h1,h2,h3,h4⟩:=V7 (ι:=ι) h
  have hob:=hs.obj b o₁ h2
  subst h3
  have rows:D6 w I ι σ D b o₁→D6 w I (a4z ι ns) (a3V (fun b=>H5 ns b 0) σ ns 0) D' n (b0r (fun b=>H5 ns b 0) o₁):=by
   intro hR
   rcases hR with ⟨g1,g2⟩ | ⟨r,c,T,fz,g1,g2,g3,g4,g5⟩
   ·exact .inl ⟨h4.trans g1,by rw [a6P];exact g2⟩
   ·refine .inr ⟨r,c,T,fz,h4.trans g1,g2,g3,by rw [a6P,a5O];exact g4,fun i row hrow=>?_⟩
    obtain ⟨row',k1,rfl⟩:=c0R _ _ _ _ hrow
    obtain ⟨k2,k3⟩:=g5 i row' k1
    refine ⟨by rw [List.length_map,a5O];exact k2,fun j v hv=>?_⟩
    rw [List.getElem?_map,Option.map_eq_some_iff] at hv
    obtain ⟨v',hv',rfl⟩:=hv
    obtain ⟨x,hx,hrep⟩:=k3 j v' hv'
    exact ⟨x,by rw [a5O];exact hx,hrep.1,hrep.2.a6E hD'⟩
  cases o₁ with
  | arr e r s=>exact rows hob
  | box e r s=>exact rows hob
  | map ents=>
    obtain ⟨r,es,clock,g1,g2,g3,g4⟩:=hob
    have hlk:∀ (f:Nat→Option Nat) (k:List UInt8) (l:List (List UInt8 × AV)),m9 k (l.map fun (k,v)=>(k,L8 f v))=(m9 k l).map (L8 f):=by
     intro f k l
     induction l with
     | nil=>rfl
     | cons x l ih=>
       obtain ⟨a,v⟩:=x
       simp only [List.map_cons,m9]
       split
       ·rfl
       ·exact ih
    refine ⟨r,es,clock,h4.trans g1,g2,fun e he=>?_,fun k v hv=>?_⟩
    ·obtain ⟨k,v,a1,a2,a3⟩:=g3 e he
     exact ⟨k,_,a1,by rw [hlk,a2];rfl,a3.a6E hD'⟩
    ·rw [hlk,Option.map_eq_some_iff] at hv
     obtain ⟨v',hv',_⟩:=hv
     exact g4 k v' hv'
theorem z6.norm (hs:z6 B w I ι σ D) (hnd:ns.Nodup):z6 B w I (a4z ι ns) (a3V (fun b=>H5 ns b 0) σ ns 0) (c0C ns):=
 hs.a6E (fun _ _ h _=>(List.getElem?_eq_some_iff.1 h).1) hnd
end
theorem a9X (f:Nat→Option Nat) (tm:T):∀ (l:List Nat) (acc:T) (t:Nat),(a2z f tm l acc).get d7 t=acc.get d7 t∨(∃ u,u % 2 ^ d7=t % 2 ^ d7∧(a2z f tm l acc).get d7 t=L8 f (tm.get d7 u))
 | [],acc,t=>.inl rfl
 | u::l,acc,t=>by
   simp only [a2z]
   rcases a9X f tm l (acc.set d7 u (L8 f (tm.get d7 u))) t with h | h
   ·rw [h,H4]
    by_cases e:t % 2 ^ d7=u % 2 ^ d7
    ·rw [if_pos e];exact .inr ⟨u,e.symm,rfl⟩
    ·rw [if_neg e];exact .inl rfl
   ·exact .inr h
theorem b1p:∀ (d:Nat) (t:T) (n m:Nat),n % 2 ^ d=m % 2 ^ d→t.get d n=t.get d m
 | 0,t,n,m,_=>by cases t <;>simp [T.get]
 | d+1,t,n,m,h=>by
   have hmod:∀ x:Nat,x % 2 ^ (d+1)=x % 2+2*(x / 2 % 2 ^ d):=by
    intro x;rw [Nat.pow_succ,Nat.mul_comm,Nat.mod_mul]
   rw [hmod,hmod] at h
   have h2:n % 2=m % 2:=by omega
   have hq:n / 2 % 2 ^ d=m / 2 % 2 ^ d:=by omega
   cases t with
   | nil=>simp [T.get]
   | leaf v=>simp [T.get]
   | node l r=>
     simp only [T.get,h2]
     split
     ·exact b1p d l _ _ hq
     ·exact b1p d r _ _ hq
theorem get_nil (d n:Nat):T.get d .nil n= .undef:=by cases d <;>simp [T.get]
theorem Sim.norm {P:Program} {G:Gl} {B:Nat} {w0:World} {I0:v9} {N:Nat→Prop} {s:St} {a:Act} {w:World} (h:Sim P G B w0 I0 .top N s a w) (live:List Nat):
 Sim P G B w0 I0 .top (fun b=>b<(norm live s).nx) (Ab.norm live s) a w:=by
 obtain ⟨I,ι,D,hx⟩:=h
 have hnd:(a0q live s).Nodup:=a2h _ _ _ _ (by simp)
 obtain ⟨hs,b1,b2,b3,b4⟩:=hx.core
 refine ⟨I,a4z ι (a0q live s),c0C (a0q live s),⟨hs.norm hnd,b1,b2,b3,b4⟩,fun b hb=>hb,hx.dfs,hx.size,hx.a0P,fun t ht=>?_,fun _ _ h=>h.elim,fun _ _=>.inl trivial,fun _ _ h=>h.elim,fun _ h=>by cases h⟩
 show e8 w I _ _ _ _ ((a2z _ s.tm live .nil).get d7 t)
 rcases a9X (fun b=>H5 (a0q live s) b 0) s.tm live .nil t with h | ⟨u,hu,h⟩
 ·rw [h,get_nil];exact .undef _
 ·rw [h,b1p d7 s.tm u t hu]
  exact (hx.tm t ht).norm
theorem a9p (f:Nat→Option Nat) (tm:T):∀ (l m:List Nat) (acc:T),a2z f tm (l++m) acc=a2z f tm m (a2z f tm l acc)
 | [],_,_=>rfl
 | t::l,m,acc=>by simp only [List.cons_append,a2z];exact a9p f tm l m _
theorem b5A {n0:Nat} {live:List Nat} {s:St} {b:Nat} (h:b<n0):(a5Y n0 live s)[b]?=some b:=by
 unfold a5Y
 rw [List.getElem?_append_left (by simpa using h)]
 simp [h]
theorem b5B (n0:Nat) (live:List Nat) (s:St):(a5Y n0 live s).Nodup:=by
 unfold a5Y
 rw [List.nodup_append]
 refine ⟨List.nodup_range,(a2h _ _ _ _ (by simp)).filter _,fun x hx y hy e=>?_⟩
 subst e
 have h1:=List.mem_range.1 hx
 have h2:=(List.mem_filter.1 hy).2
 have:=Nat.le_of_ble_eq_true h2
 omega
theorem c0m {l:List Nat} (hn:l.Nodup) {b n k:Nat} (h:l[n]?=some b):H5 l b k=some (n+k):=by
 induction l generalizing n k with
 | nil=>simp at h
 | cons x l ih=>
   cases n with
   | zero=>
     simp at h
     subst h
     simp [H5]
   | succ n=>
     simp only [List.getElem?_cons_succ] at h
     have hne:x≠b:=fun e=>by subst e;exact (List.nodup_cons.1 hn).1 (List.mem_of_getElem? h)
     have hb:(x==b)=false:=by simpa using hne
     simp only [H5,hb]
     rw [ih (List.nodup_cons.1 hn).2 h]
     congr 1;omega
theorem e8.low {w:World} {I:v9} {ι:Nat→Option Nat} {σ:b7} {D:Nat→Prop} {n:Nat} (hD:∀ b,D b→b<n) {v:Value} {a:AV} (h:e8 w I ι σ D v a):c0x n a:=by
 intro f hf
 have all:∀ (m:Nat) (g:Nat→Option Value) (l:List AV),m=l.length→(∀ j,j<m→∃ x,g j=some x)→(∀ (j:Nat) (x:Value) (q:AV),g j=some x→l[j]?=some q→L8 f q=q)→b4J f l=l:=by
  intro m g l hm hg hl
  rw [a5c]
  apply List.ext_getElem?
  intro j
  rw [List.getElem?_map]
  cases hq:l[j]? with
  | none=>rfl
  | some q=>
    obtain ⟨x,hx⟩:=hg j (by have:=(List.getElem?_eq_some_iff.1 hq).1;omega)
    simp [hl j x q hx hq]
 induction h with
 | pv h=>simp only [L8]
 | emp es=>simp only [L8]
 | fsl h=>simp only [L8]
 | ptr hb h1 h=>simp only [L8,hf _ (hD _ hb)]
 | own hb h1 h=>simp only [L8,hf _ (hD _ hb)]
 | a0u hb h1 h=>simp only [L8,hf _ (hD _ hb)]
 | agg hl h ih=>
   simp only [L8]
   rw [all _ _ _ hl (fun j hj=>⟨_,Array.getElem?_eq_getElem hj⟩) ih]
 | o0 hl h ih=>
   simp only [L8]
   rw [all _ _ _ hl (fun j hj=>⟨_,Array.getElem?_eq_getElem hj⟩) ih]
 | func hl hl' h h' ih ih'=>
   simp only [L8]
   rw [all _ _ _ hl (fun j hj=>⟨_,Array.getElem?_eq_getElem hj⟩) ih,all _ _ _ hl' (fun j hj=>⟨_,Array.getElem?_eq_getElem hj⟩) ih']
 | O5 b=>simp only [L8]
 | yld hb h=>simp only [L8,hf _ (hD _ hb)]
 | mark v k=>simp only [L8]
 | undef v=>simp only [L8]
theorem a1c.b3H {P:Program} {G:Gl} {B:Nat} {w0:World} {I0:v9} {gh:Gh} {N:Nat→Prop} {s:St} {a:Act} {w:World} {I:v9} {ι:Nat→Option Nat} {D:Nat→Prop} (hx:a1c P G B w0 I0 gh N s a w I ι D) (hlow:∀ v av,gh.gs v av→c0x gh.n0 av) (live:List Nat):
 ∃ ι' D',a1c P G B w0 I0 gh (fun b=>b<(Ab.b3H gh.n0 live s).nx) (Ab.b3H gh.n0 live s) a w I ι' D':=by
 have hnd:=b5B gh.n0 live s
 let ns:=a5Y gh.n0 live s
 let D':Nat→Prop:=fun n=>∃ b,ns[n]?=some b∧D b
 have hD':∀ n b,ns[n]?=some b→D b→D' n:=fun n b h1 h2=>⟨b,h1,h2⟩
 have hf:∀ b,b<gh.n0→H5 ns b 0=some b:=fun b hb=>c0m hnd (b5A hb)
 obtain ⟨hs,b1,b2,b3,b4⟩:=hx.core
 refine ⟨a4z ι ns,D',⟨hs.a6E hD' hnd,b1,b2,b3,b4⟩,fun b ⟨c,hc,_⟩=>(List.getElem?_eq_some_iff.1 hc).1,hx.dfs,hx.size,hx.a0P,fun t ht=>?_,fun v av hg=>?_,fun b ⟨c,hc,hDc⟩=>?_,hx.kept,fun p hp=>?_⟩
 ·show e8 w I _ _ _ _ ((a2z _ s.tm (live++[L2]) .nil).get d7 t)
  rcases a9X (fun b=>H5 ns b 0) s.tm (live++[L2]) .nil t with h | ⟨u,hu,h⟩
  ·rw [h,get_nil];exact .undef _
  ·rw [h,b1p d7 s.tm u t hu]
   exact (hx.tm t ht).a6E hD'
 ·have:=(hx.ghost v av hg).a6E (ns:=ns) hD'
  rw [hlow v av hg _ hf] at this
  exact this
 ·by_cases hb:b<gh.n0
  ·have:=b5A (live:=live) (s:=s) hb
   rw [show ns[b]?=some b from this] at hc
   cases hc
   exact hx.base b hDc
  ·exact .inr (by omega)
 ·obtain ⟨h1,h2,k,h3,h4⟩:=hx.loop p hp
  refine ⟨h1,h2,k,?_,h4⟩
  show (a2z _ s.tm (live++[L2]) .nil).get d7 L2=_
  rw [a9p]
  simp only [a2z]
  rw [H4,if_pos rfl,h3]
  simp only [L8]
end Go.Ab
