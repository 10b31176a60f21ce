/- The order of operations that do not clash is of no weight. Under: nothing. -/
import Derived.Test.YtdmfppodbpfbpaaAb25
namespace Go.Ab

def raT : RA → List Nat | .t n => [n] | _ => []
def RIns.reads (r : RIns) : List Nat := (r.op.operands.map raT).flatten ++ (match r.guard with | some (t, _) => [t] | none => [])

def dstIn (d : Option Nat) (l : List Nat) : Bool := match d with | none => false | some d => l.any (· == d)
def apartT (a b : RIns) : Bool := !dstIn a.dst b.reads && !dstIn b.dst a.reads && (match a.dst, b.dst with | some x, some y => x != y | _, _ => true)
def smallT (r : RIns) : Bool := r.reads.all (decide <| · < 1024) && (match r.dst with | some d => decide (d < 1024) | none => true)

def after (st : St) (r : RIns) (v : AV) (sl : List Nat) (up : List (Nat × Option SObj)) : St := putW st r.dst v (upAll (sealAll st.σ sl) up)

structure StEq (s s' : St) : Prop where
  tm : ∀ n, s'.tm.get tdepth n = s.tm.get tdepth n
  σ : ∀ b, find s'.σ b = find s.σ b
  nx : s'.nx = s.nx
  nt : s'.nt = s.nt

theorem StEq.refl (s : St) : StEq s s := ⟨fun _ => rfl, fun _ => rfl, rfl, rfl⟩
theorem StEq.trans {a b c : St} (h : StEq a b) (k : StEq b c) : StEq a c := ⟨fun n => (k.tm n).trans (h.tm n), fun n => (k.σ n).trans (h.σ n), k.nx.trans h.nx, k.nt.trans h.nt⟩

def upF : List (Nat × Option SObj) → Nat → Option (Option SObj)
  | [], _ => none
  | (b, x) :: l, b' => match upF l b' with | some y => some y | none => if b' = b then some x else none

theorem find_upAll : ∀ (l : List (Nat × Option SObj)) (s : Store) (b : Nat), find (upAll s l) b = match upF l b with | some x => x | none => find s b
  | [], s, b => rfl
  | (k, x) :: l, s, b => by
    simp only [upAll, upF]
    rw [find_upAll l, find_upS]
    cases upF l b with
    | some y => rfl
    | none => by_cases h : b = k <;> simp [h]

theorem upF_none : ∀ {l : List (Nat × Option SObj)} {b : Nat}, b ∉ l.map (·.1) → upF l b = none
  | [], _, _ => rfl
  | (k, x) :: l, b, h => by
    simp only [List.map_cons, List.mem_cons, not_or] at h
    simp only [upF]
    rw [upF_none h.2, if_neg h.1]

def sealIf (sl : List Nat) (b : Nat) (o : SObj) : SObj := if b ∈ sl then o.sealO else o

theorem find_after {σ : Store} {sl : List Nat} {up : List (Nat × Option SObj)} {b : Nat} : find (upAll (sealAll σ sl) up) b = match upF up b with | some x => x | none => (find σ b).map (sealIf sl b) := by
  rw [find_upAll, find_sealAll]; rfl

theorem seal_seal (o : SObj) : o.sealO.sealO = o.sealO := by cases o <;> rfl
theorem seal_sealIf (sl : List Nat) (b : Nat) (o : SObj) : (sealIf sl b o).sealO = o.sealO := by unfold sealIf; split <;> simp [seal_seal]
theorem sealIf_comm (a c : List Nat) (b : Nat) (o : SObj) : sealIf a b (sealIf c b o) = sealIf c b (sealIf a b o) := by
  unfold sealIf; split <;> split <;> simp [seal_seal]

section
variable (G : Nat → Option (List PV)) (Ok : Nat → List PV → Own → PV → Prop)

inductive What (r : RIns) (nm : Nat) (st : St) : AV → List Nat → List Nat → List (Nat × Option SObj) → Prop
  | op {e : Eff} (hg : ∀ t want, r.guard = some (t, want) → st.ev G (.t t) = .pv (.bool want)) (h : step st.σ nm (st.ev G) r.op = some e) : What r nm st e.v e.rd [] e.up
  | call {f : RA} {args : List RA} {g : Nat} {a b : List AV} {ps : List PV} {m : List Nat} {own : Own} {res : PV} {v : AV} {up : List (Nat × Option SObj)}
      (hg : ∀ t want, r.guard = some (t, want) → st.ev G (.t t) = .pv (.bool want)) (ho : r.op = .call f args) (hc : calleeOf (st.ev G f) = some (g, a, b))
      (hp : pubL (pub st.σ 8) (a ++ args.map (st.ev G) ++ b) = some (ps, m)) (hok : Ok g ps own res) (hi : imp own nm res = (v, up)) : What r nm st v [] m up
  | left {t : Nat} {want : Bool} (hg : r.guard = some (t, want)) (hv : st.ev G (.t t) = .pv (.bool (!want))) : What r nm st .undef [] [] []

variable {G Ok}

theorem What.frame {r : RIns} {nm : Nat} {st st' : St} {v : AV} {rd sl : List Nat} {up : List (Nat × Option SObj)} (h : What G Ok r nm st v rd sl up)
    (ht : ∀ t ∈ r.reads, st'.tm.get tdepth t = st.tm.get tdepth t)
    (hb : ∀ b, b ∈ rd ∨ b ∈ sl → Alike st.σ st'.σ b ∧ (b ∈ up.map (·.1) → find st'.σ b = find st.σ b)) : What G Ok r nm st' v rd sl up := by
  have hev : ∀ x ∈ r.op.operands, st'.ev G x = st.ev G x := by
    intro x hx
    cases x with
    | t n => exact ht n (List.mem_append_left _ (List.mem_flatten.2 ⟨[n], List.mem_map.2 ⟨_, hx, rfl⟩, by simp⟩))
    | c v => rfl
    | f g => rfl
    | g i => rfl
  have hgd : ∀ t want, r.guard = some (t, want) → st'.ev G (.t t) = st.ev G (.t t) := fun t want hg => ht t (List.mem_append_right _ (by rw [hg]; simp))
  cases h with
  | op hg h =>
    exact .op (fun t want e => (hgd t want e).trans (hg t want e)) (step_frame h hev fun b hb' => hb b (.inl hb'))
  | call hg ho hc hp hok hi =>
    rename_i f args g a b ps own res
    rw [ho] at hev
    simp only [ROp.operands, List.mem_cons, forall_eq_or_imp] at hev
    refine .call (fun t want e => (hgd t want e).trans (hg t want e)) ho (by rw [hev.1]; exact hc) ?_ hok hi
    rw [List.map_congr_left hev.2]
    exact pubL_frame (fun a p m => pub_frame 8 a p m) _ _ _ hp fun b hb' => (hb b (.inr hb')).1
  | left hg hv => exact .left hg ((hgd _ _ hg).trans hv)

theorem get_put {st : St} {dst : Option Nat} {v : AV} {σ : Store} {n : Nat} (hn : n < 1024) (hd : ∀ d, dst = some d → d < 1024) :
    (putW st dst v σ).tm.get tdepth n = if dst = some n then v else st.tm.get tdepth n := by
  cases dst with
  | none => simp [putW]
  | some d =>
    simp only [putW, get_set]
    have := hd d rfl
    have e1 : n % 2 ^ tdepth = n := Nat.mod_eq_of_lt hn
    have e2 : d % 2 ^ tdepth = d := Nat.mod_eq_of_lt this
    rw [e1, e2]
    by_cases h : n = d
    · subst h; simp
    · have : ¬ d = n := fun e => h e.symm
      simp [h, this]

theorem get_put_eq {st st' : St} {dst : Option Nat} {v : AV} {σ σ' : Store} {n : Nat} (h : ∀ n, st'.tm.get tdepth n = st.tm.get tdepth n) :
    (putW st' dst v σ').tm.get tdepth n = (putW st dst v σ).tm.get tdepth n := by
  cases dst with
  | none => exact h n
  | some d =>
    simp only [putW, get_set]
    split
    · rfl
    · exact h n

theorem smallT_spec {r : RIns} (h : smallT r = true) : (∀ t ∈ r.reads, t < 1024) ∧ ∀ d, r.dst = some d → d < 1024 := by
  unfold smallT at h
  rw [Bool.and_eq_true] at h
  refine ⟨fun t ht => by simpa using List.all_eq_true.1 h.1 t ht, fun d hd => ?_⟩
  have := h.2
  rw [hd] at this
  simpa using this

theorem dstIn_spec {d : Option Nat} {l : List Nat} (h : dstIn d l = false) : ∀ t ∈ l, d ≠ some t := by
  intro t ht e
  subst e
  simp only [dstIn, List.any_eq_false, beq_iff_eq] at h
  exact h t ht rfl

theorem apartT_spec {a b : RIns} (h : apartT a b = true) : (∀ t ∈ b.reads, a.dst ≠ some t) ∧ (∀ t ∈ a.reads, b.dst ≠ some t) ∧ ∀ x y, a.dst = some x → b.dst = some y → x ≠ y := by
  simp only [apartT, Bool.and_eq_true, Bool.not_eq_true'] at h
  refine ⟨dstIn_spec h.1.1, dstIn_spec h.1.2, fun x y hx hy => ?_⟩
  have := h.2
  rw [hx, hy] at this
  simpa using this

theorem What.congr {r : RIns} {nm : Nat} {st st' : St} {v : AV} {rd sl : List Nat} {up : List (Nat × Option SObj)} (h : What G Ok r nm st v rd sl up) (he : StEq st st') : What G Ok r nm st' v rd sl up :=
  h.frame (fun t _ => he.tm t) fun b _ => ⟨.of_eq (he.σ b), fun _ => he.σ b⟩

theorem StEq.after {r : RIns} {st st' : St} {v : AV} {sl : List Nat} {up : List (Nat × Option SObj)} (he : StEq st st') : StEq (after st r v sl up) (after st' r v sl up) := by
  obtain ⟨d, o, g, p⟩ := r
  have hσ : ∀ b, find (upAll (sealAll st'.σ sl) up) b = find (upAll (sealAll st.σ sl) up) b := fun b => by rw [find_after, find_after, he.σ b]
  refine ⟨fun n => get_put_eq he.tm, ?_, ?_, ?_⟩ <;> cases d <;> first | exact hσ | exact he.nx | exact he.nt

theorem meets_spec {a b : List Nat} (h : meets a b = false) {x : Nat} (h1 : x ∈ a) (h2 : x ∈ b) : False := by
  unfold meets at h
  rw [List.any_eq_false] at h
  have := h x h1
  simp only [Bool.not_eq_true, List.any_eq_false, beq_iff_eq] at this
  exact this x h2 rfl

theorem after_σ {st : St} {r : RIns} {v : AV} {sl : List Nat} {up : List (Nat × Option SObj)} : (Ab.after st r v sl up).σ = upAll (sealAll st.σ sl) up := by
  unfold Ab.after putW; cases r.dst <;> rfl

theorem putW_σ {st : St} {d : Option Nat} {v : AV} {σ : Store} : (putW st d v σ).σ = σ := by cases d <;> rfl
theorem putW_nx {st : St} {d : Option Nat} {v : AV} {σ : Store} : (putW st d v σ).nx = st.nx := by cases d <;> rfl
theorem putW_nt {st : St} {d : Option Nat} {v : AV} {σ : Store} : (putW st d v σ).nt = st.nt := by cases d <;> rfl

/-- Two that do not clash may change places. -/
theorem What.swap {i j : RIns} {ni nj : Nat} {st : St} {vi vj : AV} {rdi sli rdj slj : List Nat} {upi upj : List (Nat × Option SObj)}
    (hi : What G Ok i ni st vi rdi sli upi) (hj : What G Ok j nj (Ab.after st i vi sli upi) vj rdj slj upj)
    (hsi : smallT i = true) (hsj : smallT j = true) (ha : apartT i j = true)
    (hc : Rec.clash ⟨rdi, sli, upi.map (·.1), i.pre⟩ ⟨rdj, slj, upj.map (·.1), j.pre⟩ = false) :
    What G Ok j nj st vj rdj slj upj ∧ What G Ok i ni (Ab.after st j vj slj upj) vi rdi sli upi ∧
      StEq (Ab.after (Ab.after st i vi sli upi) j vj slj upj) (Ab.after (Ab.after st j vj slj upj) i vi sli upi) := by
  simp only [Rec.clash, Bool.or_eq_false_iff] at hc
  obtain ⟨⟨⟨⟨c1, c2⟩, c3⟩, c4⟩, c5⟩ := hc
  obtain ⟨a1, a2, a3⟩ := apartT_spec ha
  obtain ⟨ri, di⟩ := smallT_spec hsi
  obtain ⟨rj, dj⟩ := smallT_spec hsj
  have hj' : What G Ok j nj st vj rdj slj upj := by
    refine hj.frame (fun t ht => ?_) fun b hb => ?_
    · show _ = (putW st i.dst vi _).tm.get tdepth t
      rw [get_put (rj t ht) di, if_neg (a1 t ht)]
    · have hn : b ∉ upi.map (·.1) := fun h => hb.elim (meets_spec c1 h) (meets_spec c2 h)
      refine ⟨?_, fun hu => ?_⟩
      · unfold Alike
        rw [after_σ, find_after, upF_none hn]
        simp only [Option.map_map]
        congr 1
        funext o; simp [seal_sealIf]
      · have hs : b ∉ sli := fun h => meets_spec c5 h hu
        rw [after_σ, find_after, upF_none hn]
        simp only
        have : sealIf sli b = id := by funext o; simp [sealIf, hs]
        rw [this]; simp
  refine ⟨hj', ?_, ?_⟩
  · refine hi.frame (fun t ht => ?_) fun b hb => ?_
    · show (putW st j.dst vj _).tm.get tdepth t = _
      rw [get_put (ri t ht) dj, if_neg (a2 t ht)]
    · have hn : b ∉ upj.map (·.1) := fun h => hb.elim (fun h' => meets_spec c4 h' h) (fun h' => meets_spec c5 h' h)
      refine ⟨?_, fun hu => ?_⟩
      · unfold Alike
        rw [after_σ, find_after, upF_none hn]
        simp only [Option.map_map]
        congr 1
        funext o; simp [seal_sealIf]
      · have hs : b ∉ slj := fun h => meets_spec c2 hu h
        rw [after_σ, find_after, upF_none hn]
        simp only
        have : sealIf slj b = id := by funext o; simp [sealIf, hs]
        rw [this]; simp
  · refine ⟨fun n => ?_, fun b => ?_, ?_, ?_⟩
    · simp only [Ab.after, putW]
      cases hid : i.dst with
      | none => cases j.dst <;> rfl
      | some x =>
        cases hjd : j.dst with
        | none => rfl
        | some y =>
          have hne := a3 x y hid hjd
          have e1 : x % 2 ^ tdepth = x := Nat.mod_eq_of_lt (di x hid)
          have e2 : y % 2 ^ tdepth = y := Nat.mod_eq_of_lt (dj y hjd)
          simp only [get_set, e1, e2]
          by_cases h1 : n % 2 ^ tdepth = x <;> by_cases h2 : n % 2 ^ tdepth = y
          · exact absurd (h1.symm.trans h2) hne
          · rw [if_pos h1, if_neg h2, if_pos h1]
          · rw [if_neg h1, if_pos h2, if_pos h2]
          · rw [if_neg h1, if_neg h2, if_neg h2, if_neg h1]
    · rw [after_σ, after_σ, find_after, find_after, after_σ, after_σ, find_after, find_after]
      by_cases h1 : b ∈ upi.map (·.1)
      · have n2 : b ∉ upj.map (·.1) := fun h => meets_spec c3 h1 h
        have n3 : b ∉ slj := fun h => meets_spec c2 h1 h
        rw [upF_none n2]
        cases hu : upF upi b with
        | none =>
          simp only [Option.map_map]
          congr 1
          funext o; simp [sealIf, n3]
        | some x =>
          simp only
          have : sealIf slj b = id := by funext o; simp [sealIf, n3]
          rw [this]; simp
      · rw [upF_none h1]
        cases hu : upF upj b with
        | none =>
          simp only [Option.map_map]
          congr 1
          funext o; simp [sealIf_comm]
        | some x =>
          simp only
          have hm : b ∈ upj.map (·.1) := Decidable.byContradiction fun hm => by rw [upF_none hm] at hu; cases hu
          have n3 : b ∉ sli := fun h => meets_spec c5 h hm
          have : sealIf sli b = id := by funext o; simp [sealIf, n3]
          rw [this]; simp
    · simp only [Ab.after, putW_nx]
    · simp only [Ab.after, putW_nt]
end
end Go.Ab
