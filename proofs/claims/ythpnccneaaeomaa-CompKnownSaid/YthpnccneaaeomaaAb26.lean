/- The order of operations that do not clash is of no weight. Under: nothing. -/
import Derived.Test.YthpnccneaaeomaaAb25
namespace Go.Ab

def raT : RA → List Nat | .t n => [n] | _ => []
def RIns.reads (r : RIns) : List Nat := (r.op.operands.map raT).flatten ++ (match r.guard with | some (t, _) => [t] | none => [])

def dstIn (d : Option Nat) (l : List Nat) : Bool := match d with | none => false | some d => l.any (· == d)
def apartT (a b : RIns) : Bool := !dstIn a.dst b.reads && !dstIn b.dst a.reads && (match a.dst, b.dst with | some x, some y => x != y | _, _ => true)
def smallT (r : RIns) : Bool := r.reads.all (decide <| · < 1024) && (match r.dst with | some d => decide (d < 1024) | none => true)

/-- A new key for a map. -/
abbrev Ins := Option (Nat × List UInt8 × AV)

def insU (σ : Store) : Ins → Store
  | none => σ
  | some (b, k, v) => match find σ b with
    | some (.map ents) => upS σ b (some (.map (insK k v ents)))
    | _ => σ

def insF (ins : Ins) (b : Nat) (o : Option SObj) : Option SObj := match ins with
  | none => o
  | some (b', k, v) => if b' = b then (match o with | some (.map ents) => some (.map (insK k v ents)) | o => o) else o

theorem find_insU {σ : Store} {ins : Ins} {b : Nat} : find (insU σ ins) b = insF ins b (find σ b) := by
  cases ins with
  | none => rfl
  | some x =>
    obtain ⟨b', k, v⟩ := x
    simp only [insU, insF]
    by_cases h : b' = b
    · subst h
      rw [if_pos rfl]
      cases hf : find σ b' with
      | none => simp only [hf]
      | some o =>
        cases o with
        | map ents => simp only [find_upS, if_true]
        | arr e rs sl => simp only [hf]
        | box e rs sl => simp only [hf]
    · rw [if_neg h]
      split
      · rw [find_upS, if_neg (fun e => h e.symm)]
      · rfl

theorem insF_ne {b b' : Nat} {k : List UInt8} {v : AV} {o : Option SObj} (h : b' ≠ b) : insF (some (b', k, v)) b o = o := by simp only [insF, if_neg h]

def after (st : St) (r : RIns) (v : AV) (sl : List Nat) (up : List (Nat × Option SObj)) (ins : Ins) : St := putW st r.dst v (insU (upAll (sealAll st.σ sl) up) ins)

def insKey (ins : Ins) : Option (Nat × List UInt8) := match ins with | some (b, k, _) => some (b, k) | none => none

structure StEq (s s' : St) : Prop where
  tm : ∀ n, s'.tm.get tdepth n = s.tm.get tdepth n
  σ : ∀ b, find s'.σ b = find s.σ b
  nx : s'.nx = s.nx
  nt : s'.nt = s.nt

theorem StEq.refl (s : St) : StEq s s := ⟨fun _ => rfl, fun _ => rfl, rfl, rfl⟩
theorem StEq.trans {a b c : St} (h : StEq a b) (k : StEq b c) : StEq a c := ⟨fun n => (k.tm n).trans (h.tm n), fun n => (k.σ n).trans (h.σ n), k.nx.trans h.nx, k.nt.trans h.nt⟩

def upF : List (Nat × Option SObj) → Nat → Option (Option SObj)
  | [], _ => none
  | (b, x) :: l, b' => match upF l b' with | some y => some y | none => if b' = b then some x else none

theorem find_upAll : ∀ (l : List (Nat × Option SObj)) (s : Store) (b : Nat), find (upAll s l) b = match upF l b with | some x => x | none => find s b
  | [], s, b => rfl
  | (k, x) :: l, s, b => by
    simp only [upAll, upF]
    rw [find_upAll l, find_upS]
    cases upF l b with
    | some y => rfl
    | none => by_cases h : b = k <;> simp [h]

theorem upF_none : ∀ {l : List (Nat × Option SObj)} {b : Nat}, b ∉ l.map (·.1) → upF l b = none
  | [], _, _ => rfl
  | (k, x) :: l, b, h => by
    simp only [List.map_cons, List.mem_cons, not_or] at h
    simp only [upF]
    rw [upF_none h.2, if_neg h.1]

def sealIf (sl : List Nat) (b : Nat) (o : SObj) : SObj := if b ∈ sl then o.sealO else o

theorem find_after {σ : Store} {sl : List Nat} {up : List (Nat × Option SObj)} {b : Nat} : find (upAll (sealAll σ sl) up) b = match upF up b with | some x => x | none => (find σ b).map (sealIf sl b) := by
  rw [find_upAll, find_sealAll]; rfl

theorem seal_seal (o : SObj) : o.sealO.sealO = o.sealO := by cases o <;> rfl
theorem seal_sealIf (sl : List Nat) (b : Nat) (o : SObj) : (sealIf sl b o).sealO = o.sealO := by unfold sealIf; split <;> simp [seal_seal]
theorem sealIf_comm (a c : List Nat) (b : Nat) (o : SObj) : sealIf a b (sealIf c b o) = sealIf c b (sealIf a b o) := by
  unfold sealIf; split <;> split <;> simp [seal_seal]

section
variable (G : Gl) (Ok : Nat → List PV → Own → PV → Prop)

inductive What (r : RIns) (nm : Nat) (st : St) : AV → List Nat → List Nat → List (Nat × Option SObj) → Ins → Prop
  | ins {m k x : RA} {b : Nat} {s : List UInt8} {ents : List (List UInt8 × AV)} (hg : ∀ t want, r.guard = some (t, want) → st.ev G (.t t) = .pv (.bool want)) (ho : r.op = .insert m k x) (hm : st.ev G m = .mref b) (hk : st.ev G k = .pv (.str s))
      (hf : find st.σ b = some (.map ents)) (hl : lookupE s ents = none) : What r nm st .undef [] [] [] (some (b, s, st.ev G x))
  | op {e : Eff} (hni : ∀ m k x, r.op ≠ .insert m k x) (hg : ∀ t want, r.guard = some (t, want) → st.ev G (.t t) = .pv (.bool want)) (h : step st.σ nm (st.ev G) r.op = some e) : What r nm st e.v e.rd [] e.up none
  | call {f : RA} {args : List RA} {g : Nat} {a b : List AV} {ps : List PV} {m : List Nat} {own : Own} {res : PV} {v : AV} {up : List (Nat × Option SObj)}
      (hg : ∀ t want, r.guard = some (t, want) → st.ev G (.t t) = .pv (.bool want)) (ho : r.op = .call f args) (hc : calleeOf (st.ev G f) = some (g, a, b))
      (hnp : G.prim g = none) (hp : pubL (pub st.σ 8) (a ++ args.map (st.ev G) ++ b) = some (ps, m)) (hok : Ok g ps own res) (hi : imp own nm res = (v, up)) : What r nm st v [] m up none
  | prim {f : RA} {args : List RA} {g : Nat} {a b : List AV} {p : PrimF} {v : AV} {c es : Nat} {rows : List (List PV)} (hg : ∀ t want, r.guard = some (t, want) → st.ev G (.t t) = .pv (.bool want)) (ho : r.op = .call f args)
      (hc : calleeOf (st.ev G f) = some (g, a, b)) (hp : G.prim g = some p) (hr : p.run (a ++ args.map (st.ev G) ++ b) st.σ = some (v, c, es, rows)) : What r nm st v [c] [] [(c, some (.arr es rows false))] none
  | left {t : Nat} {want : Bool} (hg : r.guard = some (t, want)) (hv : st.ev G (.t t) = .pv (.bool (!want)) ∨ st.ev G (.t t) = .tup []) : What r nm st (.tup []) [] [] [] none

variable {G Ok}

theorem What.frame {r : RIns} {nm : Nat} {st st' : St} {v : AV} {rd sl : List Nat} {up : List (Nat × Option SObj)} {ins : Ins} (h : What G Ok r nm st v rd sl up ins)
    (ht : ∀ t ∈ r.reads, st'.tm.get tdepth t = st.tm.get tdepth t)
    (hb : ∀ b, b ∈ rd ∨ b ∈ sl → Alike st.σ st'.σ b ∧ (b ∈ up.map (·.1) → find st'.σ b = find st.σ b))
    (hins : ∀ b k v, ins = some (b, k, v) → ∀ ents, find st.σ b = some (.map ents) → lookupE k ents = none → ∃ ents', find st'.σ b = some (.map ents') ∧ lookupE k ents' = none) : What G Ok r nm st' v rd sl up ins := by
  have hev : ∀ x ∈ r.op.operands, st'.ev G x = st.ev G x := by
    intro x hx
    cases x with
    | t n => exact ht n (List.mem_append_left _ (List.mem_flatten.2 ⟨[n], List.mem_map.2 ⟨_, hx, rfl⟩, by simp⟩))
    | c v => rfl
    | f g => rfl
    | g i => rfl
  have hgd : ∀ t want, r.guard = some (t, want) → st'.ev G (.t t) = st.ev G (.t t) := fun t want hg => ht t (List.mem_append_right _ (by rw [hg]; simp))
  cases h with
  | ins hg ho hm hk hf hl =>
    rename_i m k x b s ents
    rw [ho] at hev
    simp only [ROp.operands, List.mem_cons, List.not_mem_nil, or_false, forall_eq_or_imp, forall_eq] at hev
    obtain ⟨ents', hf', hl'⟩ := hins _ _ _ rfl ents hf hl
    rw [← hev.2.2]
    exact .ins (fun t want e => (hgd t want e).trans (hg t want e)) ho (hev.1.trans hm) (hev.2.1.trans hk) hf' hl'
  | op hni hg h =>
    exact .op hni (fun t want e => (hgd t want e).trans (hg t want e)) (step_frame h hev fun b hb' => hb b (.inl hb'))
  | call hg ho hc hnp hp hok hi =>
    rename_i f args g a b ps own res
    rw [ho] at hev
    simp only [ROp.operands, List.mem_cons, forall_eq_or_imp] at hev
    refine .call (fun t want e => (hgd t want e).trans (hg t want e)) ho (by rw [hev.1]; exact hc) hnp ?_ hok hi
    rw [List.map_congr_left hev.2]
    exact pubL_frame (fun a p m => pub_frame 8 a p m) _ _ _ hp fun b hb' => (hb b (.inr hb')).1
  | prim hg ho hc hp hr =>
    rw [ho] at hev
    simp only [ROp.operands, List.mem_cons, forall_eq_or_imp] at hev
    refine .prim (fun t want e => (hgd t want e).trans (hg t want e)) ho (by rw [hev.1]; exact hc) hp ?_
    rw [List.map_congr_left hev.2]
    exact PrimF.frame _ hr ((hb _ (.inl (by simp))).2 (by simp))
  | left hg hv => exact .left hg (hv.imp (hgd _ _ hg).trans (hgd _ _ hg).trans)

theorem What.ins_nil {r : RIns} {nm : Nat} {st : St} {v : AV} {rd sl : List Nat} {up : List (Nat × Option SObj)} {x : Nat × List UInt8 × AV} (h : What G Ok r nm st v rd sl up (some x)) : rd = [] ∧ sl = [] ∧ up = [] := by
  cases h with
  | ins => exact ⟨rfl, rfl, rfl⟩

theorem get_put {st : St} {dst : Option Nat} {v : AV} {σ : Store} {n : Nat} (hn : n < 1024) (hd : ∀ d, dst = some d → d < 1024) :
    (putW st dst v σ).tm.get tdepth n = if dst = some n then v else st.tm.get tdepth n := by
  cases dst with
  | none => simp [putW]
  | some d =>
    simp only [putW, get_set]
    have := hd d rfl
    have e1 : n % 2 ^ tdepth = n := Nat.mod_eq_of_lt hn
    have e2 : d % 2 ^ tdepth = d := Nat.mod_eq_of_lt this
    rw [e1, e2]
    by_cases h : n = d
    · subst h; simp
    · have : ¬ d = n := fun e => h e.symm
      simp [h, this]

theorem get_put_eq {st st' : St} {dst : Option Nat} {v : AV} {σ σ' : Store} {n : Nat} (h : ∀ n, st'.tm.get tdepth n = st.tm.get tdepth n) :
    (putW st' dst v σ').tm.get tdepth n = (putW st dst v σ).tm.get tdepth n := by
  cases dst with
  | none => exact h n
  | some d =>
    simp only [putW, get_set]
    split
    · rfl
    · exact h n

theorem smallT_spec {r : RIns} (h : smallT r = true) : (∀ t ∈ r.reads, t < 1024) ∧ ∀ d, r.dst = some d → d < 1024 := by
  unfold smallT at h
  rw [Bool.and_eq_true] at h
  refine ⟨fun t ht => by simpa using List.all_eq_true.1 h.1 t ht, fun d hd => ?_⟩
  have := h.2
  rw [hd] at this
  simpa using this

theorem dstIn_spec {d : Option Nat} {l : List Nat} (h : dstIn d l = false) : ∀ t ∈ l, d ≠ some t := by
  intro t ht e
  subst e
  simp only [dstIn, List.any_eq_false, beq_iff_eq] at h
  exact h t ht rfl

theorem apartT_spec {a b : RIns} (h : apartT a b = true) : (∀ t ∈ b.reads, a.dst ≠ some t) ∧ (∀ t ∈ a.reads, b.dst ≠ some t) ∧ ∀ x y, a.dst = some x → b.dst = some y → x ≠ y := by
  simp only [apartT, Bool.and_eq_true, Bool.not_eq_true'] at h
  refine ⟨dstIn_spec h.1.1, dstIn_spec h.1.2, fun x y hx hy => ?_⟩
  have := h.2
  rw [hx, hy] at this
  simpa using this

theorem What.congr {r : RIns} {nm : Nat} {st st' : St} {v : AV} {rd sl : List Nat} {up : List (Nat × Option SObj)} {ins : Ins} (h : What G Ok r nm st v rd sl up ins) (he : StEq st st') : What G Ok r nm st' v rd sl up ins :=
  h.frame (fun t _ => he.tm t) (fun b _ => ⟨.of_eq (he.σ b), fun _ => he.σ b⟩) fun b _ _ _ ents hf hl => ⟨ents, (he.σ b).trans hf, hl⟩

theorem StEq.after {r : RIns} {st st' : St} {v : AV} {sl : List Nat} {up : List (Nat × Option SObj)} {ins : Ins} (he : StEq st st') : StEq (after st r v sl up ins) (after st' r v sl up ins) := by
  obtain ⟨d, o, g, p⟩ := r
  have hσ : ∀ b, find (insU (upAll (sealAll st'.σ sl) up) ins) b = find (insU (upAll (sealAll st.σ sl) up) ins) b := fun b => by rw [find_insU, find_insU, find_after, find_after, he.σ b]
  refine ⟨fun n => get_put_eq he.tm, ?_, ?_, ?_⟩ <;> cases d <;> first | exact hσ | exact he.nx | exact he.nt

theorem meets_spec {a b : List Nat} (h : meets a b = false) {x : Nat} (h1 : x ∈ a) (h2 : x ∈ b) : False := by
  unfold meets at h
  rw [List.any_eq_false] at h
  have := h x h1
  simp only [Bool.not_eq_true, List.any_eq_false, beq_iff_eq] at this
  exact this x h2 rfl

theorem after_σ {st : St} {r : RIns} {v : AV} {sl : List Nat} {up : List (Nat × Option SObj)} {ins : Ins} : (Ab.after st r v sl up ins).σ = insU (upAll (sealAll st.σ sl) up) ins := by
  unfold Ab.after putW; cases r.dst <;> rfl

theorem putW_σ {st : St} {d : Option Nat} {v : AV} {σ : Store} : (putW st d v σ).σ = σ := by cases d <;> rfl
theorem putW_nx {st : St} {d : Option Nat} {v : AV} {σ : Store} : (putW st d v σ).nx = st.nx := by cases d <;> rfl
theorem putW_nt {st : St} {d : Option Nat} {v : AV} {σ : Store} : (putW st d v σ).nt = st.nt := by cases d <;> rfl

theorem any_false {l : List Nat} {x : Nat} (h : l.any (· == x) = false) : x ∉ l := by
  intro hx
  rw [List.any_eq_false] at h
  exact h x hx (by simp)

theorem insMeets_spec {a b : Rec} {m : Nat} {k : List UInt8} (h : a.insMeets b = false) (ha : a.ins = some (m, k)) : m ∉ b.rd ∧ m ∉ b.sl ∧ m ∉ b.wr ∧ ∀ k', b.ins = some (m, k') → k ≠ k' := by
  unfold Rec.insMeets at h
  rw [ha] at h
  simp only [Bool.or_eq_false_iff] at h
  obtain ⟨⟨⟨h1, h2⟩, h3⟩, h4⟩ := h
  refine ⟨any_false h1, any_false h2, any_false h3, fun k' hb e => ?_⟩
  rw [hb] at h4
  simp [e] at h4

theorem map_sealIf {o : Option SObj} {sl : List Nat} {b : Nat} {ents : List (List UInt8 × AV)} : o.map (sealIf sl b) = some (.map ents) ↔ o = some (.map ents) := by
  cases o with
  | none => simp
  | some x =>
    simp only [Option.map_some, Option.some.injEq]
    unfold sealIf
    split
    · cases x <;> simp [SObj.sealO]
    · rfl

theorem insF_comm {i j : Ins} {b : Nat} {o : Option SObj} (h : ∀ m k v k' v', i = some (m, k, v) → j = some (m, k', v') → k ≠ k') : insF j b (insF i b o) = insF i b (insF j b o) := by
  cases i with
  | none => rfl
  | some x =>
    cases j with
    | none => rfl
    | some y =>
      obtain ⟨bi, ki, vi⟩ := x
      obtain ⟨bj, kj, vj⟩ := y
      simp only [insF]
      by_cases h1 : bi = b <;> by_cases h2 : bj = b <;> simp only [h1, h2, if_true, if_false]
      subst h1; subst h2
      cases o with
      | none => rfl
      | some o =>
        cases o with
        | map ents => simp only; rw [insK_comm (fun e => h _ _ _ _ _ rfl rfl e.symm)]
        | _ => rfl

/-- Two that do not clash may change places. -/
theorem What.swap {i j : RIns} {ni nj : Nat} {st : St} {vi vj : AV} {rdi sli rdj slj : List Nat} {upi upj : List (Nat × Option SObj)} {insi insj : Ins}
    (hi : What G Ok i ni st vi rdi sli upi insi) (hj : What G Ok j nj (Ab.after st i vi sli upi insi) vj rdj slj upj insj)
    (hsi : smallT i = true) (hsj : smallT j = true) (ha : apartT i j = true)
    (hc : Rec.clash ⟨rdi, sli, upi.map (·.1), i.pre, insKey insi⟩ ⟨rdj, slj, upj.map (·.1), j.pre, insKey insj⟩ = false) :
    What G Ok j nj st vj rdj slj upj insj ∧ What G Ok i ni (Ab.after st j vj slj upj insj) vi rdi sli upi insi ∧
      StEq (Ab.after (Ab.after st i vi sli upi insi) j vj slj upj insj) (Ab.after (Ab.after st j vj slj upj insj) i vi sli upi insi) := by
  simp only [Rec.clash, Bool.or_eq_false_iff] at hc
  obtain ⟨⟨⟨⟨⟨⟨c1, c2⟩, c3⟩, c4⟩, c5⟩, c6⟩, c7⟩ := hc
  obtain ⟨a1, a2, a3⟩ := apartT_spec ha
  obtain ⟨ri, di⟩ := smallT_spec hsi
  obtain ⟨rj, dj⟩ := smallT_spec hsj
  have ci : ∀ m k v, insi = some (m, k, v) → m ∉ rdj ∧ m ∉ slj ∧ m ∉ upj.map (·.1) ∧ ∀ k' v', insj = some (m, k', v') → k ≠ k' := fun m k v e => by
    subst e
    obtain ⟨h1, h2, h3, h4⟩ := insMeets_spec c6 rfl
    exact ⟨h1, h2, h3, fun k' v' e => by subst e; exact h4 k' rfl⟩
  have cj : ∀ m k v, insj = some (m, k, v) → m ∉ rdi ∧ m ∉ sli ∧ m ∉ upi.map (·.1) ∧ ∀ k' v', insi = some (m, k', v') → k ≠ k' := fun m k v e => by
    subst e
    obtain ⟨h1, h2, h3, h4⟩ := insMeets_spec c7 rfl
    exact ⟨h1, h2, h3, fun k' v' e => by subst e; exact h4 k' rfl⟩
  have ineI : ∀ b, b ∈ rdj ∨ b ∈ slj → ∀ o, insF insi b o = o := fun b hb o => by
    cases insi with
    | none => rfl
    | some x =>
      obtain ⟨m, k, v⟩ := x
      obtain ⟨h1, h2, _⟩ := ci m k v rfl
      exact insF_ne fun e => by subst e; exact hb.elim h1 h2
  have ineJ : ∀ b, b ∈ rdi ∨ b ∈ sli → ∀ o, insF insj b o = o := fun b hb o => by
    cases insj with
    | none => rfl
    | some x =>
      obtain ⟨m, k, v⟩ := x
      obtain ⟨h1, h2, _⟩ := cj m k v rfl
      exact insF_ne fun e => by subst e; exact hb.elim h1 h2
  have hj' : What G Ok j nj st vj rdj slj upj insj := by
    refine hj.frame (fun t ht => ?_) (fun b hb => ?_) fun b k v e ents hf hl => ?_
    · show _ = (putW st i.dst vi _).tm.get tdepth t
      rw [get_put (rj t ht) di, if_neg (a1 t ht)]
    · have hn : b ∉ upi.map (·.1) := fun h => hb.elim (meets_spec c1 h) (meets_spec c2 h)
      refine ⟨?_, fun hu => ?_⟩
      · unfold Alike
        rw [after_σ, find_insU, find_after, upF_none hn, ineI b hb]
        simp only [Option.map_map]
        congr 1
        funext o; simp [seal_sealIf]
      · have hs : b ∉ sli := fun h => meets_spec c5 h hu
        rw [after_σ, find_insU, find_after, upF_none hn, ineI b hb]
        simp only
        have : sealIf sli b = id := by funext o; simp [sealIf, hs]
        rw [this]; simp
    · obtain ⟨h1, h2, h3, h4⟩ := cj b k v e
      rw [after_σ, find_insU, find_after, upF_none h3] at hf
      simp only at hf
      cases hii : insi with
      | none =>
        rw [hii] at hf
        exact ⟨ents, map_sealIf.1 hf, hl⟩
      | some x =>
        obtain ⟨m, ki, vi'⟩ := x
        rw [hii] at hf
        by_cases em : m = b
        · subst em
          simp only [insF, if_true] at hf
          split at hf
          · rename_i ents0 hf0
            cases hf
            refine ⟨ents0, map_sealIf.1 hf0, ?_⟩
            rw [lookupE_insK_ne (h4 ki vi' hii)] at hl
            exact hl
          · exact ⟨ents, map_sealIf.1 hf, hl⟩
        · rw [insF_ne em] at hf
          exact ⟨ents, map_sealIf.1 hf, hl⟩
  refine ⟨hj', ?_, ?_⟩
  · refine hi.frame (fun t ht => ?_) (fun b hb => ?_) fun b k v e ents hf hl => ?_
    · show (putW st j.dst vj _).tm.get tdepth t = _
      rw [get_put (ri t ht) dj, if_neg (a2 t ht)]
    · have hn : b ∉ upj.map (·.1) := fun h => hb.elim (fun h' => meets_spec c4 h' h) (fun h' => meets_spec c5 h' h)
      refine ⟨?_, fun hu => ?_⟩
      · unfold Alike
        rw [after_σ, find_insU, find_after, upF_none hn, ineJ b hb]
        simp only [Option.map_map]
        congr 1
        funext o; simp [seal_sealIf]
      · have hs : b ∉ slj := fun h => meets_spec c2 hu h
        rw [after_σ, find_insU, find_after, upF_none hn, ineJ b hb]
        simp only
        have : sealIf slj b = id := by funext o; simp [sealIf, hs]
        rw [this]; simp
    · obtain ⟨h1, h2, h3, h4⟩ := ci b k v e
      rw [after_σ, find_insU, find_after, upF_none h3]
      simp only
      rw [map_sealIf.2 hf]
      cases hjj : insj with
      | none => exact ⟨ents, rfl, hl⟩
      | some x =>
        obtain ⟨m, kj, vj'⟩ := x
        by_cases em : m = b
        · subst em
          simp only [insF, if_true]
          exact ⟨_, rfl, by rw [lookupE_insK_ne (h4 kj vj' hjj)]; exact hl⟩
        · rw [insF_ne em]; exact ⟨ents, rfl, hl⟩
  · refine ⟨fun n => ?_, fun b => ?_, ?_, ?_⟩
    · simp only [Ab.after, putW]
      cases hid : i.dst with
      | none => cases j.dst <;> rfl
      | some x =>
        cases hjd : j.dst with
        | none => rfl
        | some y =>
          have hne := a3 x y hid hjd
          have e1 : x % 2 ^ tdepth = x := Nat.mod_eq_of_lt (di x hid)
          have e2 : y % 2 ^ tdepth = y := Nat.mod_eq_of_lt (dj y hjd)
          simp only [get_set, e1, e2]
          by_cases h1 : n % 2 ^ tdepth = x <;> by_cases h2 : n % 2 ^ tdepth = y
          · exact absurd (h1.symm.trans h2) hne
          · rw [if_pos h1, if_neg h2, if_pos h1]
          · rw [if_neg h1, if_pos h2, if_pos h2]
          · rw [if_neg h1, if_neg h2, if_neg h2, if_neg h1]
    · have F : ∀ (st : St) (r : RIns) (v : AV) (sl : List Nat) (up : List (Nat × Option SObj)) (ins : Ins), find (Ab.after st r v sl up ins).σ b = insF ins b (match upF up b with | some x => x | none => (find st.σ b).map (sealIf sl b)) := fun st r v sl up ins => by
        rw [after_σ, find_insU, find_after]
      rw [F, F, F, F]
      have hcomm := fun o => insF_comm (i := insi) (j := insj) (b := b) (o := o) fun m k v k' v' e e' => (ci m k v e).2.2.2 k' v' e'
      have old : (match upF upj b with | some x => x | none => (match upF upi b with | some x => x | none => (find st.σ b).map (sealIf sli b)).map (sealIf slj b)) = (match upF upi b with | some x => x | none => (match upF upj b with | some x => x | none => (find st.σ b).map (sealIf slj b)).map (sealIf sli b)) := by
        by_cases h1 : b ∈ upi.map (·.1)
        · have n2 : b ∉ upj.map (·.1) := fun h => meets_spec c3 h1 h
          have n3 : b ∉ slj := fun h => meets_spec c2 h1 h
          rw [upF_none n2]
          cases hu : upF upi b with
          | none =>
            simp only [Option.map_map]
            congr 1
            funext o; simp [sealIf, n3]
          | some x =>
            simp only
            have : sealIf slj b = id := by funext o; simp [sealIf, n3]
            rw [this]; simp
        · rw [upF_none h1]
          cases hu : upF upj b with
          | none =>
            simp only [Option.map_map]
            congr 1
            funext o; simp [sealIf_comm]
          | some x =>
            simp only
            have hm : b ∈ upj.map (·.1) := Decidable.byContradiction fun hm => by rw [upF_none hm] at hu; cases hu
            have n3 : b ∉ sli := fun h => meets_spec c5 h hm
            have : sealIf sli b = id := by funext o; simp [sealIf, n3]
            rw [this]; simp
      cases hii : insi with
      | none =>
        cases hjj : insj with
        | none => exact old.symm
        | some y =>
          subst hjj
          obtain ⟨_, e1, e2⟩ := hj.ins_nil
          subst e1; subst e2
          obtain ⟨m, k, v⟩ := y
          obtain ⟨h1, h2, h3, _⟩ := cj m k v rfl
          simp only [upF, insF]
          have hid : sealIf [] b = id := by funext o; simp [sealIf]
          rw [hid]
          by_cases em : m = b
          · subst em
            rw [upF_none h3]
            have : sealIf sli m = id := by funext o; simp [sealIf, h2]
            simp only [this, Option.map_id, id]
          · simp only [if_neg em, Option.map_id, id]
      | some x =>
        subst hii
        obtain ⟨_, e1, e2⟩ := hi.ins_nil
        subst e1; subst e2
        cases hjj : insj with
        | none =>
          obtain ⟨m, k, v⟩ := x
          obtain ⟨h1, h2, h3, _⟩ := ci m k v rfl
          simp only [upF, insF]
          have hid : sealIf [] b = id := by funext o; simp [sealIf]
          rw [hid]
          by_cases em : m = b
          · subst em
            rw [upF_none h3]
            have : sealIf slj m = id := by funext o; simp [sealIf, h2]
            simp only [this, Option.map_id, id]
          · simp only [if_neg em, Option.map_id, id]
        | some y =>
          subst hjj
          obtain ⟨_, e1, e2⟩ := hj.ins_nil
          subst e1; subst e2
          have hid : sealIf [] b = id := by funext o; simp [sealIf]
          simp only [upF, hid, Option.map_id, id]
          exact (hcomm _).symm
    · simp only [Ab.after, putW_nx]
    · simp only [Ab.after, putW_nt]
end
end Go.Ab
