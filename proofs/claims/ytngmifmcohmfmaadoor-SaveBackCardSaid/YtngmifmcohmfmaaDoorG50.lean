/- A part of the proof: the texts TdRy. Under: nothing. -/
import Derived.Test.YtngmifmcohmfmaaDoorG49
import Derived.Test.YtngmifmcohmfmaaDoorG48
set_option linter.unusedVariables false
namespace Go.Ab.Td
set_option maxRecDepth 100000
set_option maxRecDepth 100000
open Go Go.Ab
variable {P:Program}
set_option linter.unusedSimpArgs false
attribute [local irreducible] e9
set_option maxHeartbeats 8000000 in
theorem b0j (C:Laid P) (cells ops e6:List (List PV)) (hc:∀ r ∈ cells,a5h r) (ho:∀ r ∈ ops,a5h r) (hd:∀ r ∈ e6,∃ D,r=[.int .u8 D]∧0≤D∧D<256) (before between:List (Int × Wd)) (hb:∀ p ∈ before,0≤p.1∧p.1<256) (hb2:∀ p ∈ between,0≤p.1∧p.1<256):j4 P G a1L [.agg [.sl 5 cells,.sl 5 ops,.sl 1 e6],.sl 6 (before.map a5Q),.sl 6 (between.map a5Q)] [] (.bool true):=by
 refine i5 C (b0U C) rfl ?_
 obtain ⟨s,⟨hst,hv,hk12,hfo,hfd,hdr⟩,kst⟩:=b8U C cells ops e6 hc ho hd
 have kS0:=b3H C cells ops e6 s kst
 obtain ⟨hsi,hsx⟩:=c2n hst hv hk12 hfo hfd
 have hd9:∀ p ∈ s.e6,p.kind=9:=by
  obtain ⟨_,dd,_,rfl,_,_,_,_,_,h⟩:=hst
  exact fun p hp=>by obtain ⟨j,rfl, -⟩:=h p hp;rfl
 have hf4:s.f4=0:=by obtain ⟨_,_,_,rfl,_⟩:=hst;rfl
 obtain ⟨s0,hs0⟩:∃ s0:v9,s0={s with f45:=1}:=⟨_,rfl⟩
 have hk1:K1 s0.f4 s0.e6 [] []:=by
  rw [hs0]
  exact ⟨by show 0≤s.f4;omega,hdr,hd9,⟨fun i k x y _ h=>by simp at h,fun x h=>by simp at h⟩⟩
 rw [← hs0] at kS0 hsi hsx
 clear hs0 hst hv hk12 hfo hfd hf4 hdr hd9
 obtain ⟨t,sl,ts,si,sx,tk,kA⟩:=b7p C b3q (by omega) hsi hsx hk1 before hb
 clear hsi hsx hk1
 obtain ⟨t1,ht1⟩:∃ t1:v9,t1={t with ops:=t.ops.take (50:Int).toNat}:=⟨_,rfl⟩
 have l1:t1.ops.length≤50:=by rw [ht1];show (t.ops.take (50:Int).toNat).length≤50;rw [List.length_take,show (50:Int).toNat=50 from rfl];omega
 have si1:SI True (0+60) t1 sl ts:=by
  rw [ht1]
  exact si.b1o (by rw [List.length_take,show (50:Int).toNat=50 from rfl];omega) (fun _ p hp=>si.of' trivial p (List.mem_of_mem_take hp)) (fun p hp=>si.on p (List.mem_of_mem_take hp))
 have sx1:SX t1:=by rw [ht1];exact fun p hp hk=>sx p (List.mem_of_mem_take hp) hk
 have tk1:K1 t1.f4 t1.e6 sl ts:=by rw [ht1];exact tk
 obtain ⟨v,e,l2,ts2,si2,sx2,q,kS, -⟩:=b7y C si1 sx1 (by omega)
 clear hc ho hd kst sx si tk
 have ll:=si1.ll
 rcases q with ⟨rfl,rfl,rfl,q⟩ | ⟨rfl,hv,hl2,hts2,hm⟩
 ·have e26:e=26∧l2.length=10:=by omega
  obtain ⟨rfl,hl10⟩:=e26
  have hf3:t.f3.length=10:=by
   have:v.f3=t.f3:=by rw [ht1]
   rw [← this,si1.h3,List.length_map];exact hl10
  rw [ht1] at kS
  repeat' ((conv=>whnf);first | (with_reducible refine sC (by kernel_rfl) ?_) | ((first | (with_reducible first | refine sB ?_ | refine o5 ?_ | refine o6 ?_) | refine sP (by rfl) ?_);first | refine Or.inl ⟨by first | assumption | (simp only [nm,List.length_map,hf3];first | done | assumption | omega),?_⟩ | refine Or.inr (Or.inl ⟨by first | assumption | (simp only [nm,List.length_map,hf3];first | done | assumption | omega),?_⟩) | (refine Or.inr (Or.inr ⟨fun hsp=>?_,fun hsp=>?_⟩) <;>(try simp only [nm,List.length_map,hf3] at hsp) <;>try subst hsp)) | refine ⟨_,_,TdW19.ok C,?_⟩ | refine ⟨_,_,kS0,?_⟩ | refine ⟨_,_,kA,?_⟩ | refine ⟨_,_,kS,?_⟩ | refine sS (a7W (f:=i4) (by rfl) (by rfl) (by decide)) ?_ | fail)
  all_goals (conv=>whnf)
  all_goals (first | exact PV.le.refl _ | (refine le_of_eq ?_;rw [hf3];rfl) | (trace_state;sorry))
 ·obtain ⟨N,hN⟩:∃ N,N=t1.f4+1:=⟨_,rfl⟩
  have made1:=si1.made
  have hw:IntKind.i64.wrap (t1.f4+1)=N:=by rw [hN];exact wrap_small (by omega) (by omega)
  have vop:v.ops=t1.ops++[svO N]:=by rw [hv];show t1.ops++[svO (IntKind.i64.wrap (t1.f4+1))]=_;rw [hw]
  have vf4:v.f4=N:=by rw [hm,hN]
  have vd:v.e6=t1.e6:=by rw [hv];rfl
  have N1:1≤N∧N≤61:=by omega
  have siN:SI True N.toNat v l2 ts2:=⟨si2.h3,si2.h62,si2.sh,si2.ol,si2.of',si2.on,si2.dl,si2.df,si2.ll,si2.tl,si2.sv,si2.pw,by rw [vf4];omega⟩
  have hlt:ts.length=sl.length:=si1.tl
  have kk2:K2 N (sl++[(⟨N,t1.heap,(sl.length:Int)⟩:Sn)]) (ts++[t1]) v.f4 v.e6 l2 ts2:=by
   refine ⟨?_,by rw [vf4];omega,.inl ⟨by rw [hl2,hN];exact List.prefix_refl _,by rw [hts2];exact List.prefix_refl _⟩⟩
   rw [vf4,vd,hl2,hN]
   have:=b3q.save t1.heap t1 tk1
   rw [hts2]
   exact this
  obtain ⟨u,lu,tu,siu,sxu,ku,kB⟩:=b7p C (c7b (N:=N) (l0:=sl) (x0:=(⟨N,t1.heap,(sl.length:Int)⟩:Sn)) (q:=ts++[t1]) rfl (by simp [hlt])) (by omega) siN sx2 kk2 between hb2
  clear siN kk2 sx2
  obtain ⟨⟨hu0,⟨ur,hur⟩,uk9,uinc⟩,huN,hu⟩:=ku
  have um:=siu.made
  have e2:List.drop (0:Int).toNat (List.take (2:Int).toNat u.e6)=[dO 0,dO 1]:=by rw [hur];rfl
  obtain ⟨u1,hu1⟩:∃ u1:v9,u1={u with ops:=[svO N],e6:=[dO 0,dO 1]}:=⟨_,rfl⟩
  have uh:=siu.sh.len
  have siu1:SI True (N.toNat+60) u1 lu tu:=by
   rw [hu1]
   refine (siu.b8r (d:=[dO 0,dO 1]) (by simp) (fun _ p hp=>siu.df trivial p (by rw [hur];simp at hp ⊢;rcases hp with h | h <;>simp [h]))).b1o (ops:=[svO N]) (by simp) (fun _ p hp=>?_) (fun p hp=>?_)
   ·simp only [List.mem_singleton] at hp;rw [hp];exact v3 (b5G N1.1) rfl
   ·simp only [List.mem_singleton] at hp;rw [hp];show N<_;omega
  have sxu1:SX u1:=by
   rw [hu1]
   intro p hp _
   simp only [List.mem_singleton] at hp;rw [hp];rfl
  have hop1:u1.ops=[svO N]:=by rw [hu1]
  have hd1:u1.e6=[dO 0,dO 1]:=by rw [hu1]
  obtain ⟨z,e,lz,tz,siz,sxz,q,kR, -⟩:=b1J C siu1 sxu1
  clear siu sxu sxu1 sxz
  have l50:(List.take (50:Int).toNat t.ops).length≤50:=by rw [List.length_take,show (50:Int).toNat=50 from rfl];omega
  have vol:v.ops.length=(List.take (50:Int).toNat t.ops).length+1:=by rw [vop,ht1];simp
  have hwr:IntKind.i64.wrap (((List.take (50:Int).toNat t.ops).length:Int)+1)=(v.ops.length:Int):=by rw [wrap_small (by omega) (by omega)];omega
  have hrowO:(List.map i4 v.ops)[(((List.take (50:Int).toNat t.ops).length:Nat):Int).toNat]?=some (i4 (svO N)):=by
   rw [vop,List.getElem?_map,Int.toNat_natCast,ht1];simp
  have hrowM:(List.map i4 v.ops)[((((List.take (50:Int).toNat t.ops).map i4).length:Nat):Int).toNat]?=some (i4 (svO N)):=by rw [List.length_map];exact hrowO
  have udl:u.e6.length=ur.length+2:=by rw [hur];simp
  have t1o:t1.ops=t.ops.take (50:Int).toNat:=by rw [ht1]
  have ko:=b3G C
  rcases hu with ⟨hpl,hpt⟩ | hno
  ·obtain ⟨rl,hrl⟩:=hpl
   obtain ⟨rt,hrt⟩:=hpt
   have hx0:lu[sl.length]?=some (⟨N,t1.heap,(sl.length:Int)⟩:Sn):=by rw [← hrl];simp
   have ht0:tu[sl.length]?=some t1:=by rw [← hrt,← hlt];simp
   have hpn:plF N 0 lu=(sl.length:Int):=c5j uinc hx0
   have kCF:=U0 C lu (svO N) (by have:=siu1.ll;omega) true (by show decide (0≤plF N 0 lu)=true;rw [hpn];simp)
   have old:∀ x ∈ lu.take sl.length,x.n<N:=by
    intro x hx
    obtain ⟨k,hx⟩:=List.getElem?_of_mem hx
    obtain ⟨hki,hx⟩:=b2t hx
    exact uinc.inc k sl.length x _ hki hx hx0
   have hh:=si1.sh.len
   rcases q with ⟨hz, -, -,q⟩ | ⟨rfl,lo,o,i,x,g,h1,h2,h3,h4, -, -,hz,hlz,htz⟩
   ·exfalso
    rcases q with ⟨-,q⟩ | ⟨lo,o2,h1,q⟩
    ·rw [hop1] at q;simp at q
    ·rw [hop1] at h1
     obtain ⟨hlo,h1'⟩:=List.append_inj' (s₁:=[]) h1 rfl
     simp only [List.cons.injEq,and_true] at h1'
     rw [← h1',← hlo] at q
     rcases q with ⟨-,q⟩ | ⟨-, -,q⟩
     ·exact absurd rfl q
     ·rcases q with q | ⟨i,x,q1,q2,q3⟩
      ·have q:plF N 0 lu= -1:=q
       omega
      ·have q1:plF N 0 lu=i:=q1
       have ei:i=sl.length:=by omega
       subst ei
       rw [hx0] at q2
       cases q2
       rcases q3 with ⟨p,hp, -⟩ | ⟨p,hp,hp2⟩
       ·simp at hp
       ·rw [hd1] at hp
        have hp2:=hp2.2
        dsimp only at hp2
        simp only [List.mem_cons,List.not_mem_nil,or_false] at hp
        rcases hp with rfl | rfl
        ·have:((t1.heap.length:Nat):Int)≤0:=hp2
         omega
        ·have:((t1.heap.length:Nat):Int)≤1:=hp2
         omega
   ·rw [hop1] at h1
    obtain ⟨hlo,h1'⟩:=List.append_inj' (s₁:=[]) h1 rfl
    simp only [List.cons.injEq,and_true] at h1'
    rw [← hlo] at hz
    rw [← h1'] at h2
    have h2:plF N 0 lu=i:=h2
    have ei:i=sl.length:=by omega
    subst ei
    rw [hx0] at h3
    cases h3
    rw [ht0] at h4
    cases h4
    have zo:z.ops=[]:=by rw [hz];rfl
    have zh:z.heap=t.heap:=by rw [hz,ht1];rfl
    have zG:grO z=grO t:=by rw [hz,ht1];rfl
    have z4:z.f4=u.f4:=by rw [hz,hu1];rfl
    have ul:=(List.getElem?_eq_some_iff.1 hx0).1
    have z3:z.f3.length=sl.length:=by rw [siz.h3,List.length_map,hlz,List.length_take];omega
    have z62:z.f62.length=sl.length:=by rw [siz.h62,List.length_map,htz,List.length_take,siu1.tl];omega
    have t3:t.f3.length=sl.length:=by
     have:t1.f3=t.f3:=by rw [ht1]
     rw [← this,si1.h3,List.length_map]
    have t62:t.f62.length=sl.length:=by
     have:t1.f62=t.f62:=by rw [ht1]
     rw [← this,si1.h62,List.length_map,hlt]
    have kSm:=a4T C z.heap z.heap (a9k siz.sh.sm)
    rw [Q8.mpr rfl] at kSm
    have kSm:j4 P G G3 [.sl 7 (List.map j8 z.heap),.sl 7 (List.map j8 t.heap)] [] (.bool true):=by rw [← zh];exact kSm
    have kSG:j4 P G D6 [.agg (grO z),.agg (grO t)] [] (.bool true):=by rw [zG];exact a3Q C t
    have kCk:=kc0 C siz.sh.v (by have:=siz.sh.len;omega) siz.sh.nc
    have svn:(svO N).n=N:=rfl
    have wd:IntKind.i64.wrap (u.f4 - N)=u.f4 - N:=wrap_small (by omega) (by omega)
    have uf3:u1.f3=u.f3:=by rw [hu1]
    rw [← siu1.h3,uf3] at kCF
    have z3h:=siz.h3
    have lzl:=siz.ll
    rw [ht1] at kS t1o
    rw [hu1] at kR
    have hlzN:∀ x ∈ lz,x.n<N:=by rw [hlz];exact old
    clear hz zG hlz htz hrl hrt siu1 si1
    repeat' ((conv=>whnf);first | (with_reducible refine sC (by kernel_rfl) ?_) | ((first | (with_reducible first | refine sB ?_ | refine o5 ?_ | refine o6 ?_) | refine sP (by rfl) ?_);first | refine Or.inl ⟨by first | assumption | (simp only [nm,List.length_map,hwr,zo,z3,z62,t3,t62,z4,svn,wd,List.length_nil];first | done | assumption | omega),?_⟩ | refine Or.inr (Or.inl ⟨by first | assumption | (simp only [nm,List.length_map,hwr,zo,z3,z62,t3,t62,z4,svn,wd,List.length_nil];first | done | assumption | omega),?_⟩) | (refine Or.inr (Or.inr ⟨fun hsp=>?_,fun hsp=>?_⟩) <;>(try simp only [nm,List.length_map,hwr,zo,z3,z62,t3,t62,z4,svn,wd,List.length_nil] at hsp) <;>try subst hsp)) | refine ⟨_,_,TdW19.ok C,?_⟩ | refine ⟨_,_,kS0,?_⟩ | refine ⟨_,_,kA,?_⟩ | refine ⟨_,_,kS,?_⟩ | refine ⟨_,_,kB,?_⟩ | refine ⟨_,_,kCF,?_⟩ | refine ⟨_,_,kSm,?_⟩ | refine ⟨_,_,kSG,?_⟩ | refine ⟨_,_,kCk,?_⟩ | refine sS (a7W (f:=i4) (by rfl) (by rfl) (by decide)) ?_ | (rw [e2];refine ⟨_,_,kR,?_⟩) | refine sS (e7 (by rfl) (by rfl) (by omega) hrowM) ?_ | refine sS (U1 (f:=i4) (by rfl) (by rfl) (by rfl) (by decide) (by decide) (by omega)) ?_ | fail)
    all_goals (conv=>whnf)
    intro X hX hW
    refine a2s hX (fun st (a:Nat)=>st.upd [(16,.pv (pI (N+(a:Int))))] []) (fun a k=>(a:Int)+k=u.f4 - N+1) 0 (u.f4 - N+1).toNat (by (conv=>whnf);first | done | rfl | (rw [show N+((0:Nat):Int)=N from by omega];rfl)) (by omega) ?_
    intro m a ih hI
    have w1:IntKind.i64.wrap (N+(a:Int)+1)=N+((a+1:Nat):Int):=by rw [wrap_small (by omega) (by omega)];omega
    by_cases hle:N+(a:Int)≤u.f4
    ·have kW:=b4N C z (svO (N+(a:Int))) zo
     have kR2:=B4 C {z with ops:=[svO (N+(a:Int))]} {z with ops:=[svO (N+(a:Int))]} 34 (a8D C {z with ops:=[svO (N+(a:Int))]} lz [] (N+(a:Int)) rfl z3h (by omega) (by simp) (by rw [b3P fun x hx=>by have:=hlzN x hx;omega];decide))
     repeat' ((conv=>whnf);first | (with_reducible refine sC (by kernel_rfl) ?_) | ((first | (with_reducible first | refine sB ?_ | refine o5 ?_ | refine o6 ?_) | refine sP (by rfl) ?_);first | refine oT ?_ | refine oF ?_ | (refine Or.inr (Or.inr ⟨fun hsp=>?_,fun hsp=>?_⟩) <;>(try simp only [nm,List.length_map] at hsp) <;>try subst hsp)) | refine ⟨_,_,ko _,?_⟩ | refine ⟨_,_,kW,?_⟩ | refine ⟨_,_,kR2,?_⟩ | fail)
     all_goals (conv=>whnf)
     all_goals (refine ih (m - 1) (a+1) _ (by omega) (by omega) (by (conv=>whnf);first | done | rfl | (rw [w1];first | done | rfl)))
    ·repeat' ((conv=>whnf);first | (with_reducible refine sC (by kernel_rfl) ?_) | ((first | (with_reducible first | refine sB ?_ | refine o5 ?_ | refine o6 ?_) | refine sP (by rfl) ?_);first | refine oT ?_ | refine oF ?_ | (refine Or.inr (Or.inr ⟨fun hsp=>?_,fun hsp=>?_⟩) <;>(try simp only [nm,List.length_map] at hsp) <;>try subst hsp)) | fail)
     all_goals (conv=>whnf)
     all_goals exact PV.le.refl _
  ·have hpn:plF N 0 lu= -1:=b3P hno
   have kCF:=U0 C lu (svO N) (by have:=siu1.ll;omega) false (by show decide (0≤plF N 0 lu)=false;rw [hpn];rfl)
   rcases q with ⟨hz, -, -,q⟩ | ⟨-,lo,o,i,x,g,h1,h2,h3, -⟩
   ·have e34:e=34:=by
     rcases q with ⟨-,q⟩ | ⟨lo,o2,h1,⟨-,q⟩ | ⟨q, -⟩⟩
     ·rw [hop1] at q;simp at q
     ·rw [hop1] at h1
      obtain ⟨-,h1⟩:=List.append_inj' (s₁:=[]) h1 rfl
      simp only [List.cons.injEq,and_true] at h1
      rw [← h1] at q
      exact absurd rfl q
     ·exact q
    subst e34
    have kSS:=b2L C siu1
    have uf3:u1.f3=u.f3:=by rw [hu1]
    rw [← siu1.h3,uf3] at kCF
    rw [hz] at kR
    rw [ht1] at kS t1o
    rw [hu1] at kR kSS
    repeat' ((conv=>whnf);first | (with_reducible refine sC (by kernel_rfl) ?_) | ((first | (with_reducible first | refine sB ?_ | refine o5 ?_ | refine o6 ?_) | refine sP (by rfl) ?_);first | refine Or.inl ⟨by first | assumption | (simp only [nm,List.length_map,hwr];first | done | assumption | omega),?_⟩ | refine Or.inr (Or.inl ⟨by first | assumption | (simp only [nm,List.length_map,hwr];first | done | assumption | omega),?_⟩) | (refine Or.inr (Or.inr ⟨fun hsp=>?_,fun hsp=>?_⟩) <;>(try simp only [nm,List.length_map,hwr] at hsp) <;>try subst hsp)) | refine ⟨_,_,TdW19.ok C,?_⟩ | refine ⟨_,_,kS0,?_⟩ | refine ⟨_,_,kA,?_⟩ | refine ⟨_,_,kS,?_⟩ | refine ⟨_,_,kB,?_⟩ | refine ⟨_,_,kCF,?_⟩ | refine ⟨_,_,kSS,?_⟩ | refine sS (a7W (f:=i4) (by rfl) (by rfl) (by decide)) ?_ | (rw [e2];refine ⟨_,_,kR,?_⟩) | refine sS (e7 (by rfl) (by rfl) (by omega) hrowM) ?_ | refine sS (U1 (f:=i4) (by rfl) (by rfl) (by rfl) (by decide) (by decide) (by omega)) ?_ | fail)
    all_goals (conv=>whnf)
    all_goals (first | exact PV.le.refl _ | (trace_state;sorry))
   ·exfalso
    rw [hop1] at h1
    obtain ⟨hlo,h1'⟩:=List.append_inj' (s₁:=[]) h1 rfl
    simp only [List.cons.injEq,and_true] at h1'
    rw [← h1'] at h2
    have h2:plF N 0 lu=i:=h2
    omega
end Go.Ab.Td
