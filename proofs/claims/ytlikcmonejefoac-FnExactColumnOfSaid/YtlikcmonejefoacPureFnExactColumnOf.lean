/- ColumnOf of the program returns what the reference returns, for every table and name; it leaves the table as it was and shares no memory with it. No condition. -/
import Derived.Test.YtlikcmonejefoacPFnExactColumnOfx0
import Derived.Test.YtlikcmonejefoacPFnExactColumnOfx1
import Derived.Test.YtlikcmonejefoacPFnExactColumnOfx2
import Derived.Test.YtlikcmonejefoacPFnExactColumnOfx3
import Derived.Test.YtlikcmonejefoacPFnExactColumnOfx4
import Derived.Test.YtlikcmonejefoacPFnExactColumnOfx5
import Derived.Test.YtlikcmonejefoacPFnExactColumnOfx6
import Derived.Test.YtlikcmonejefoacPFnExactColumnOfx7
import Derived.Test.YtlikcmonejefoacB
set_option linter.unusedVariables false
set_option linter.unusedSimpArgs false
namespace Go.Proofs.Ytlikcmonejefoac.Pure.FnExactColumnOf
open Go.RowKit Go.Proofs.Ytlikcmonejefoac.PFnExactColumnOf Go.Proofs.YtlikcmonejefoacW.PrintWords Go.Proofs.YtlikcmonejefoacW.PrintLast Go.Proofs.YtlikcmonejefoacW.PrintMore Go.Proofs.Ytlikcmonejefoac.B

theorem szIntS_at (l : List Int) (a : Int) (ha : 0 ≤ a ∧ a ≤ 1048576) (hl : l.length ≤ maxLen) : laws_szIntS.f l a = some (if (l.length : Int) ≤ a then a - l.length else -1) := by
  unfold maxLen at hl
  unfold laws_szIntS.f
  rw [w64 (n := a - (l.length : Int)) (by omega) (by omega)]
  by_cases h : (l.length : Int) ≤ a
  · rw [if_neg (by omega), if_pos h]
  · rw [if_pos (by omega), if_neg h]

theorem toIntS_ev (l : List Int) (hl : l.length ≤ 1048576) : Ev (fun k => laws_toIntS.f k l) l := by
  unfold laws_toIntS.f
  refine ev_ifp (by omega) (ev_ifp (by omega) ?_)
  rw [show ((l.length : Int)).toNat = l.length by omega]
  have h := down_ev l.length (fun k i => laws_toIntS.l0 k l (l.take i ++ (List.replicate l.length (0 : Int)).drop i) (i : Int)) l ?_ ?_
  · simpa using h
  · intro i hi ih
    refine Ev.step (fun k => ?_) ih
    simp only [laws_toIntS.l0]
    rw [if_pos (by omega), if_pos (by omega), if_pos (by rw [step_len _ _ (by simp) _ (by omega)]; omega), rd_nat hi, wS hi (by omega), Int.toNat_natCast, set_step _ _ (by simp) _ hi]
  · refine ev_const (fun k => ?_)
    simp only [laws_toIntS.l0]
    rw [if_neg (by omega)]
    simp

theorem eqIntS_ev (l m : List Int) (hl : l.length ≤ 4611686018427387904) : Ev (fun k => laws_eqIntS.f k l m) (decide (l = m)) := by
  unfold laws_eqIntS.f
  by_cases hlm : l.length = m.length
  · refine ev_ifp (by omega) ?_
    refine loop_ev l.length (fun i => ∀ j (h : j < l.length), j < i → l[j] = m[j]'(by omega)) (fun k i => laws_eqIntS.l0 k l m (i : Int)) (decide (l = m)) (fun j _ h => absurd h (Nat.not_lt_zero _)) ?_ ?_
    · intro i hi hc ih
      have hi2 : i < m.length := by omega
      by_cases e : l[i] = m[i]
      · refine Ev.step (fun k => ?_) (ih (fun j h hj => ?_))
        · simp only [laws_eqIntS.l0]
          simp only [if_pos (show (i : Int) < (l.length : Int) by omega), if_pos (show (0 : Int) ≤ (i : Int) by omega), if_pos (show (i : Int) < (m.length : Int) by omega), rd_nat hi, rd_nat hi2, if_pos e, wS hi (by omega)]
        · by_cases hji : j = i
          · subst hji; exact e
          · exact hc j h (by omega)
      · refine ev_const (fun k => ?_)
        simp only [laws_eqIntS.l0]
        simp only [if_pos (show (i : Int) < (l.length : Int) by omega), if_pos (show (0 : Int) ≤ (i : Int) by omega), if_pos (show (i : Int) < (m.length : Int) by omega), rd_nat hi, rd_nat hi2, if_neg e]
        have : l ≠ m := fun hh => e (by subst hh; rfl)
        simp [this]
    · intro hc
      refine ev_const (fun k => ?_)
      simp only [laws_eqIntS.l0]
      rw [if_neg (by omega)]
      have : l = m := List.ext_getElem hlm (fun j h1 h2 => hc j h1 h1)
      simp [this]
  · refine ev_ifn (by omega) ?_
    have : l ≠ m := fun hh => hlm (by rw [hh])
    exact ev_eq (ev_some _) (by simp [this])

def cvColumn (x : S78) : S62 := ⟨x.f0, x.f1⟩
theorem rdColumn {l : List S62} {i : Nat} (h : i < l.length) : rd_T62 l (i : Int) = l[i] := by
  unfold rd_T62; simp [List.getD_eq_getElem?_getD, List.getElem?_eq_getElem h]
theorem rdLColumn {l : List S78} {i : Nat} (h : i < l.length) : rd_T78 l (i : Int) = l[i] := by
  unfold rd_T78; simp [List.getD_eq_getElem?_getD, List.getElem?_eq_getElem h]
theorem szColumn_at (s : ByteArray) (v : List Int) (a : Int) (ha : 0 ≤ a ∧ a ≤ 1048576) (hs : s.size ≤ maxLen) (hv : v.length ≤ maxLen) :
    ∃ t, laws_szColumn.f s v a = some t ∧ (t < 0 ∨ (0 ≤ t ∧ t ≤ a ∧ s.size ≤ 1048576 ∧ v.length ≤ 1048576)) := by
  unfold maxLen at hs
  unfold laws_szColumn.f
  rw [w64 (n := a - (s.size : Int)) (by omega) (by omega)]
  by_cases h1 : a - (s.size : Int) < 0
  · rw [if_pos h1]; exact ⟨_, rfl, .inl (by omega)⟩
  · rw [if_neg h1, szIntS_at v _ (by omega) hv, Option.bind_some]
    by_cases h2 : (v.length : Int) ≤ a - s.size
    · rw [if_pos h2, if_neg (by omega)]; exact ⟨_, rfl, .inr ⟨by omega, by omega, by omega, by omega⟩⟩
    · rw [if_neg h2, if_pos (by omega)]; exact ⟨_, rfl, .inl (by omega)⟩
theorem szColumnS_l0 (l : List S78) (hl : l.length ≤ 1048576) (hz : ∀ z ∈ l, z.f0.size ≤ maxLen ∧ z.f1.length ≤ maxLen) : ∀ (d i : Nat) (a : Int), i + d = l.length → 0 ≤ a ∧ a ≤ 1048576 →
    ∃ t, Ev (fun k => laws_szColumnS.l0 k l a (i : Int)) t ∧ (t < 0 ∨ (0 ≤ t ∧ t ≤ a ∧ ∀ j (h : j < l.length), i ≤ j → l[j].f0.size ≤ 1048576 ∧ l[j].f1.length ≤ 1048576)) := by
  intro d
  induction d with
  | zero =>
    intro i a hi ha
    refine ⟨a, ev_const (fun k => ?_), .inr ⟨ha.1, Int.le_refl _, fun j h hj => by omega⟩⟩
    simp only [laws_szColumnS.l0]
    rw [if_neg (by omega)]
  | succ d ih =>
    intro i a hi ha
    have hil : i < l.length := by omega
    have hm := hz _ (List.getElem_mem hil)
    obtain ⟨t, ht, hc⟩ := szColumn_at l[i].f0 l[i].f1 a ha hm.1 hm.2
    rcases hc with hc | ⟨h0, h1, h2, h3⟩
    · refine ⟨-1, ev_const (fun k => ?_), .inl (by omega)⟩
      simp only [laws_szColumnS.l0]
      rw [if_pos (by omega), if_pos (by omega), rdLColumn hil, ht, Option.bind_some, if_pos hc]
    · obtain ⟨t2, e2, c2⟩ := ih (i + 1) t (by omega) (by omega)
      refine ⟨t2, Ev.step (fun k => ?_) e2, ?_⟩
      · simp only [laws_szColumnS.l0]
        rw [if_pos (by omega), if_pos (by omega), rdLColumn hil, ht, Option.bind_some, if_neg (by omega), wS hil (by omega)]
      · rcases c2 with c2 | ⟨g0, g1, g2⟩
        · exact .inl c2
        · refine .inr ⟨g0, by omega, fun j h hj => ?_⟩
          by_cases e : j = i
          · subst e; exact ⟨h2, h3⟩
          · exact g2 j h (by omega)
theorem szTable_at (l : List S78) (hl : l.length ≤ maxLen) (hz : ∀ z ∈ l, z.f0.size ≤ maxLen ∧ z.f1.length ≤ maxLen) :
    ∃ t, Ev (fun k => laws_szTable.f k l 1048576) t ∧ (t < 0 ∨ (0 ≤ t ∧ l.length ≤ 1048576 ∧ ∀ z ∈ l, z.f0.size ≤ 1048576 ∧ z.f1.length ≤ 1048576)) := by
  unfold maxLen at hl
  unfold laws_szTable.f laws_szColumnS.f
  rw [w64 (n := 1048576 - (l.length : Int)) (by omega) (by omega)]
  by_cases h : 1048576 - (l.length : Int) < 0
  · exact ⟨-1, Ev.bind (ev_ifp h (ev_some (-1 : Int))) (ev_ifp (by omega) (ev_some _)), .inl (by omega)⟩
  · obtain ⟨t, e, c⟩ := szColumnS_l0 l (by omega) hz l.length 0 (1048576 - (l.length : Int)) (by omega) (by omega)
    rcases c with c | ⟨g0, g1, g2⟩
    · exact ⟨-1, Ev.bind (ev_ifn h e) (ev_ifp c (ev_some _)), .inl (by omega)⟩
    · refine ⟨t, Ev.bind (ev_ifn h e) (ev_ifn (by omega) (ev_some _)), .inr ⟨g0, by omega, fun z hz => ?_⟩⟩
      obtain ⟨j, hj, rfl⟩ := List.mem_iff_getElem.1 hz
      exact g2 j hj (Nat.zero_le _)
theorem toTable_ev (l : List S78) (hl : l.length ≤ 1048576) (hz : ∀ z ∈ l, z.f0.size ≤ 1048576 ∧ z.f1.length ≤ 1048576) : Ev (fun k => laws_toTable.f k l) (l.map cvColumn) := by
  unfold laws_toTable.f
  refine Ev.bind ?_ (ev_some _)
  unfold laws_toColumnS.f
  refine ev_ifp (by omega) (ev_ifp (by omega) ?_)
  rw [show ((l.length : Int)).toNat = l.length by omega]
  have h := down_ev l.length (fun k i => laws_toColumnS.l0 k l ((l.map cvColumn).take i ++ (List.replicate l.length z62).drop i) (i : Int)) (l.map cvColumn) ?_ ?_
  · simpa using h
  · intro i hi ih
    have hm := hz _ (List.getElem_mem hi)
    apply Ev.step
    · intro k; simp only [laws_toColumnS.l0]; rfl
    refine ev_ifp (by omega) (ev_ifp (by omega) ?_)
    rw [rdLColumn hi]
    unfold laws_toColumn.f
    refine Ev.bind (Ev.bind (toIntS_ev l[i].f1 hm.2) (ev_some _)) (ev_ifp ?_ ?_)
    · rw [step_len _ _ (by simp) _ (by simp; omega)]; simp; omega
    · rw [wS hi (by omega), Int.toNat_natCast]
      have e := set_step (l.map cvColumn) (List.replicate l.length z62) (by simp) i (by simpa using hi)
      simp only [List.getElem_map] at e
      rw [← e] at ih
      exact ih
  · refine ev_const (fun k => ?_)
    simp only [laws_toColumnS.l0]
    rw [if_neg (by omega)]
    rw [List.take_of_length_le (by simp), List.drop_eq_nil_of_le (by simp), List.append_nil]
theorem eqTable_ev (l : List S62) (hl : l.length ≤ 4611686018427387904) (hz : ∀ z ∈ l, z.f1.length ≤ 4611686018427387904) : Ev (fun k => laws_eqTable.f k l l) true := by
  unfold laws_eqTable.f
  refine Ev.bind ?_ (ev_ifp rfl (ev_some _))
  unfold laws_eqColumnS.f
  refine ev_ifp rfl ?_
  refine down_ev l.length (fun k i => laws_eqColumnS.l0 k l l (i : Int)) true ?_ ?_
  · intro i hi ih
    apply Ev.step
    · intro k; simp only [laws_eqColumnS.l0]; rfl
    refine ev_ifp (by omega) (ev_ifp (by omega) (ev_ifp (by omega) ?_))
    rw [rdColumn hi]
    unfold laws_eqColumn.f
    refine Ev.bind (ev_ifp rfl (Ev.bind (eqIntS_ev l[i].f1 l[i].f1 (hz _ (List.getElem_mem hi))) (ev_ifp (by simp) (ev_some _)))) (ev_ifp rfl ?_)
    rw [wS hi (by omega)]
    exact ih
  · refine ev_const (fun k => ?_)
    simp only [laws_eqColumnS.l0]
    rw [if_neg (by omega)]
theorem cvColumn_all {l : List S78} (hz : ∀ z ∈ l, z.f0.size ≤ 1048576 ∧ z.f1.length ≤ 1048576) : ∀ z ∈ l.map cvColumn, z.f0.size ≤ 1048576 ∧ z.f1.length ≤ 1048576 := by
  intro z h
  obtain ⟨y, hy, rfl⟩ := List.mem_map.1 h
  exact hz y hy

def colP (nm : ByteArray) (x : S62) : Bool := x.f0.toList == nm.toList
def colAt (l : List S62) (nm : ByteArray) : Int := Giv.fidx (colP nm) l
theorem implFindColumn (l : List S62) (nm : ByteArray) : impl_FindColumn.f l nm = some (colAt l nm) := rfl

theorem specFindColumn_ev (l : List S62) (nm : ByteArray) (hl : l.length ≤ 4611686018427387904) : Ev (fun k => spec_FindColumn.f k l nm) (colAt l nm) := by
  unfold spec_FindColumn.f
  refine loop_ev l.length (fun i => ∀ j (h : j < l.length), j < i → colP nm l[j] = false) (fun k i => spec_FindColumn.l0 k nm (i : Int) l) _ (fun j _ h => absurd h (Nat.not_lt_zero _)) ?_ ?_
  · intro i hi hc ih
    cases e : colP nm l[i] with
    | true =>
      refine ev_const (fun k => ?_)
      simp only [spec_FindColumn.l0]
      have e2 : l[i].f0.toList = nm.toList := by unfold colP at e; simpa using e
      rw [if_pos (by omega), if_pos (by omega), rdColumn hi, if_pos e2]
      have := Giv.fidx_hit (p := colP nm) (List.getElem?_eq_getElem hi) e (fun j x hj hx => by
        obtain ⟨h1, rfl⟩ := List.getElem?_eq_some_iff.1 hx
        exact hc j h1 hj)
      unfold colAt
      rw [this]
    | false =>
      refine Ev.step (fun k => ?_) (ih (fun j h hj => ?_))
      · simp only [spec_FindColumn.l0]
        have e2 : ¬ l[i].f0.toList = nm.toList := by unfold colP at e; simpa using e
        rw [if_pos (by omega), if_pos (by omega), rdColumn hi, if_neg e2, wS hi (by omega)]
      · by_cases hji : j = i
        · subst hji; exact e
        · exact hc j h (by omega)
  · intro hc
    refine ev_const (fun k => ?_)
    simp only [spec_FindColumn.l0]
    rw [if_neg (by omega)]
    unfold colAt
    rw [Giv.fidx_miss (fun j x hj hx => by
      obtain ⟨h1, rfl⟩ := List.getElem?_eq_some_iff.1 hx
      exact hc j h1 h1)]

/-- A loop that ends false at the first round that is not ok, and goes on with r behind the last. -/
theorem all_ev (n : Nat) (ok : Nat → Bool) (r : Bool) (g : Nat → Nat → Option Bool) (hf : ∀ i, i < n → ok i = false → Ev (fun k => g k i) false)
    (ht : ∀ i, i < n → ∀ r, ok i = true → Ev (fun k => g k (i + 1)) r → Ev (fun k => g k i) r) (he : (∀ i, i < n → ok i = true) → Ev (fun k => g k n) r) :
    Ev (fun k => g k 0) ((List.range n).all ok && r) := by
  refine loop_ev n (fun i => ∀ j, j < i → ok j = true) g _ (fun j h => absurd h (Nat.not_lt_zero _)) ?_ ?_
  · intro i hi hc ih
    cases e : ok i with
    | true =>
      refine ht i hi _ e (ih (fun j hj => ?_))
      by_cases h : j = i
      · rw [h]; exact e
      · exact hc j (by omega)
    | false =>
      have : (List.range n).all ok = false := by
        rw [List.all_eq_false]
        exact ⟨i, List.mem_range.2 hi, by simp [e]⟩
      rw [this, Bool.false_and]
      exact hf i hi e
  · intro hc
    have : (List.range n).all ok = true := by
      rw [List.all_eq_true]
      exact fun i hi => hc i (List.mem_range.1 hi)
    rw [this, Bool.true_and]
    exact he hc

theorem l1In_eq (x a b : Int) : spec_l1In.f x a b = some (decide (a ≤ x) && decide (x ≤ b)) := by
  unfold spec_l1In.f
  by_cases h : x ≥ a
  · rw [if_pos h]
    have : a ≤ x := h
    simp [this]
  · rw [if_neg h]
    have : ¬ a ≤ x := h
    simp [this]

def areV (l : List Int) : Bool := decide (l.length ≤ 64) && l.all (fun x => decide (-999 ≤ x) && decide (x ≤ 999))

theorem specAreValues_ev (l : List Int) (hl : l.length ≤ 4611686018427387904) : Ev (fun k => spec_AreValues.f k l) (areV l) := by
  unfold spec_AreValues.f
  refine loop_ev l.length (fun i => ∀ j (h : j < l.length), j < i → (decide (-999 ≤ l[j]) && decide (l[j] ≤ 999)) = true) (fun k i => spec_AreValues.l0 k l (i : Int)) (areV l) (fun j _ h => absurd h (Nat.not_lt_zero _)) ?_ ?_
  · intro i hi hc ih
    cases e : (decide (-999 ≤ l[i]) && decide (l[i] ≤ 999)) with
    | true =>
      refine Ev.step (fun k => ?_) (ih (fun j h hj => ?_))
      · simp only [spec_AreValues.l0]
        rw [if_pos (by omega), if_pos (by omega), rd_nat hi]
        have e2 : spec_l1In.f l[i] (-999) 999 = some true := by
          simp at e
          unfold spec_l1In.f
          rw [if_pos (by omega)]
          simp [e.2]
        rw [e2, Option.bind_some, if_pos rfl, wS hi (by omega)]
      · by_cases hji : j = i
        · subst hji; exact e
        · exact hc j h (by omega)
    | false =>
      refine ev_const (fun k => ?_)
      simp only [spec_AreValues.l0]
      rw [if_pos (by omega), if_pos (by omega), rd_nat hi]
      have e2 : spec_l1In.f l[i] (-999) 999 = some false := by
        unfold spec_l1In.f
        by_cases c : l[i] ≥ -999
        · rw [if_pos c]
          have c2 : -999 ≤ l[i] := c
          simp [c2] at e
          simp; omega
        · rw [if_neg c]
      rw [e2, Option.bind_some, if_neg (by simp)]
      unfold areV
      rw [all_false_at _ l i hi e, Bool.and_false]
  · intro hc
    refine ev_const (fun k => ?_)
    simp only [spec_AreValues.l0]
    rw [if_neg (by omega)]
    unfold areV
    rw [all_take_true _ l (fun i h => hc i h h), Bool.and_true]
    congr 1
    simp
    omega

theorem within_all (l : List Int) (a b : Int) : impl_within.f l a b = some (l.all fun x => decide (a ≤ x) && decide (x ≤ b)) := by
  unfold impl_within.f
  rw [List.not_any_eq_all_not]
  congr 2
  funext x
  by_cases h1 : x < a <;> by_cases h2 : b < x <;> simp [h1, h2] <;> omega
theorem implAreValues (l : List Int) : impl_AreValues.f l = some (areV l) := by
  unfold impl_AreValues.f areV
  by_cases h : (l.length : Int) ≤ 64
  · rw [if_pos h, within_all, Option.bind_some]
    have : l.length ≤ 64 := by omega
    simp [this]
  · rw [if_neg h]
    have : ¬ l.length ≤ 64 := by omega
    simp [this]

def nmI (s : ByteArray) (i : Nat) : Bool := decide (97 ≤ bt s (i : Int)) && decide (bt s (i : Int) ≤ 122)
def isN (s : ByteArray) : Bool := (List.range s.size).all (nmI s) && (decide (1 ≤ (s.size : Int)) && decide ((s.size : Int) ≤ 8))
theorem specIsName_ev (s : ByteArray) (hs : s.size ≤ 4611686018427387904) : Ev (fun k => spec_IsName.f k s) (isN s) := by
  unfold spec_IsName.f
  refine all_ev s.size (nmI s) _ (fun k i => spec_IsName.l0 k s (i : Int)) ?_ ?_ ?_
  · intro i hi e
    refine ev_const (fun k => ?_)
    simp only [spec_IsName.l0]
    unfold nmI at e
    rw [if_pos (by omega), if_pos (by omega)]
    by_cases c : bt s (i : Int) < 97
    · rw [if_pos c]
    · rw [if_neg c, if_pos]
      simp [show 97 ≤ bt s (i : Int) by omega] at e
      omega
  · intro i hi r e h
    refine Ev.step (fun k => ?_) h
    simp only [spec_IsName.l0]
    unfold nmI at e
    simp only [Bool.and_eq_true, decide_eq_true_eq] at e
    rw [if_pos (by omega), if_pos (by omega), if_neg (by omega), if_neg (by omega), wS hi (by omega)]
  · intro _
    refine ev_const (fun k => ?_)
    simp only [spec_IsName.l0]
    rw [if_neg (by omega), l1In_eq, Option.bind_some]
theorem implIsName_ev (s : ByteArray) (hs : s.size ≤ 4611686018427387904) : Ev (fun k => impl_IsName.f k s) (isN s) := by
  unfold impl_IsName.f
  refine all_ev s.size (nmI s) _ (fun k i => impl_IsName.l0 k s (s.size : Int) (i : Int)) ?_ ?_ ?_
  · intro i hi e
    refine ev_const (fun k => ?_)
    simp only [impl_IsName.l0]
    unfold nmI at e
    rw [if_pos (by omega), if_pos (by omega), if_pos (by omega)]
    by_cases c : bt s (i : Int) < 97
    · rw [if_pos c]
    · rw [if_neg c, if_pos]
      simp [show 97 ≤ bt s (i : Int) by omega] at e
      omega
  · intro i hi r e h
    refine Ev.step (fun k => ?_) h
    simp only [impl_IsName.l0]
    unfold nmI at e
    simp only [Bool.and_eq_true, decide_eq_true_eq] at e
    rw [if_pos (by omega), if_pos (by omega), if_pos (by omega), if_neg (by omega), if_neg (by omega), wS hi (by omega)]
  · intro _
    refine ev_const (fun k => ?_)
    simp only [impl_IsName.l0]
    rw [if_neg (by omega)]
    by_cases h : (s.size : Int) ≥ 1
    · rw [if_pos h]
      have : 1 ≤ (s.size : Int) := h
      simp [this]
    · rw [if_neg h, decide_eq_false (show ¬ 1 ≤ (s.size : Int) from h), Bool.false_and]

def lone (l : List S62) (i j : Nat) : Bool := !colP (rd_T62 l (i : Int)).f0 (rd_T62 l (j : Int))
def colH (l : List S62) (i : Nat) : Bool := isN (rd_T62 l (i : Int)).f0 && (areV (rd_T62 l (i : Int)).f1 && decide (((rd_T62 l (i : Int)).f1.length : Int) = ((rd_T62 l 0).f1.length : Int)))
def colOk (l : List S62) (i : Nat) : Bool := colH l i && (List.range i).all (lone l i)
def isT (l : List S62) : Bool := (decide (1 ≤ (l.length : Int)) && decide ((l.length : Int) ≤ 4)) && (List.range l.length).all (colOk l)
theorem colAt_first {l : List S62} {i : Nat} (hi : i < l.length) : (colAt l (rd_T62 l (i : Int)).f0 = (i : Int)) ↔ (List.range i).all (lone l i) = true := by
  have hself : colP (rd_T62 l (i : Int)).f0 l[i] = true := by rw [rdColumn hi]; unfold colP; simp
  constructor
  · intro h
    rw [List.all_eq_true]
    intro j hj
    have hj := List.mem_range.1 hj
    unfold lone
    rw [rdColumn (show j < l.length by omega)]
    unfold colAt Giv.fidx at h
    cases hf : l.findIdx? (colP (rd_T62 l (i : Int)).f0) with
    | none => rw [hf] at h; simp only at h; omega
    | some m =>
      rw [hf] at h
      simp only at h
      have hm : m = i := by omega
      subst hm
      obtain ⟨_, _, h3⟩ := List.findIdx?_eq_some_iff_getElem.1 hf
      simpa using h3 j hj
  · intro h
    rw [List.all_eq_true] at h
    exact Giv.fidx_hit (List.getElem?_eq_getElem hi) hself (fun j x hj hx => by
      obtain ⟨h1, rfl⟩ := List.getElem?_eq_some_iff.1 hx
      have := h j (List.mem_range.2 hj)
      unfold lone at this
      rw [rdColumn h1] at this
      simpa using this)
theorem specT_in (l : List S62) (i : Nat) (hi : i < l.length) (r : Bool) (hl : l.length ≤ 1048576) (h : (List.range i).all (lone l i) = true → Ev (fun k => spec_IsTable.l0 k (wrap64 ((i : Int) + 1)) l) r) :
    Ev (fun k => spec_IsTable.l1 k (i : Int) 0 l (rd_T62 l (i : Int)).f0 (rd_T62 l (i : Int)).f1) ((List.range i).all (lone l i) && r) := by
  refine all_ev i (lone l i) r (fun k j => spec_IsTable.l1 k (i : Int) (j : Int) l (rd_T62 l (i : Int)).f0 (rd_T62 l (i : Int)).f1) ?_ ?_ ?_
  · intro j hj e
    refine ev_const (fun k => ?_)
    simp only [spec_IsTable.l1]
    unfold lone colP at e
    rw [if_pos (by omega), if_pos (by omega), if_pos (by omega), if_pos (by simpa using e)]
  · intro j hj r e h
    refine Ev.step (fun k => ?_) h
    simp only [spec_IsTable.l1]
    unfold lone colP at e
    rw [if_pos (by omega), if_pos (by omega), if_pos (by omega), if_neg (by simpa using e), wS (show j < i from hj) (by omega)]
  · intro hall
    refine Ev.step (fun k => ?_) (h (by rw [List.all_eq_true]; exact fun j hj => hall j (List.mem_range.1 hj)))
    simp only [spec_IsTable.l1]
    rw [if_neg (by omega)]
theorem specT_head (l : List S62) (i : Nat) (hi : i < l.length) (hl : l.length ≤ 1048576) (hz : ∀ z ∈ l, z.f0.size ≤ 1048576 ∧ z.f1.length ≤ 1048576) (r : Bool)
    (hf : colH l i = false → r = false) (ht : colH l i = true → Ev (fun k => spec_IsTable.l1 k (i : Int) 0 l (rd_T62 l (i : Int)).f0 (rd_T62 l (i : Int)).f1) r) : Ev (fun k => spec_IsTable.l0 k (i : Int) l) r := by
  have hm := hz _ (List.getElem_mem hi)
  have hj : colH l i = false → ∀ a b, Ev (fun k => spec_IsTable.j1 k (i : Int) true l a b) r := fun e a b => by
    rw [hf e]
    exact ev_const (fun k => by simp [spec_IsTable.j1])
  apply Ev.step
  · intro k; simp only [spec_IsTable.l0]; rfl
  refine ev_ifp (by omega) (ev_ifp (by omega) ?_)
  refine Ev.bind (specIsName_ev _ (by rw [rdColumn hi]; omega)) ?_
  cases h1 : isN (rd_T62 l (i : Int)).f0 with
  | false => exact ev_ifn (by simp) (hj (by unfold colH; rw [h1]; rfl) _ _)
  | true =>
    refine ev_ifp rfl (Ev.bind (specAreValues_ev _ (by rw [rdColumn hi]; omega)) ?_)
    cases h2 : areV (rd_T62 l (i : Int)).f1 with
    | false => exact ev_ifn (by simp) (hj (by unfold colH; rw [h1, h2]; rfl) _ _)
    | true =>
      refine ev_ifp rfl (ev_ifp (by omega) ?_)
      by_cases c : ((rd_T62 l (i : Int)).f1.length : Int) = ((rd_T62 l 0).f1.length : Int)
      · have hH : colH l i = true := by unfold colH; rw [h1, h2, decide_eq_true c]; rfl
        rw [show (((rd_T62 l (i : Int)).f1.length : Int) != ((rd_T62 l 0).f1.length : Int)) = false by simp [c]]
        refine Ev.step (fun k => ?_) (ht hH)
        simp only [spec_IsTable.j1]
        rw [if_neg (by simp)]
      · have hH : colH l i = false := by unfold colH; rw [h1, h2, decide_eq_false c]; rfl
        rw [show (((rd_T62 l (i : Int)).f1.length : Int) != ((rd_T62 l 0).f1.length : Int)) = true from bne_iff_ne.2 c]
        exact hj hH _ _
theorem specIsTable_ev (l : List S62) (hl : l.length ≤ 1048576) (hz : ∀ z ∈ l, z.f0.size ≤ 1048576 ∧ z.f1.length ≤ 1048576) : Ev (fun k => spec_IsTable.f k l) (isT l) := by
  unfold spec_IsTable.f isT
  refine ev_pure (l1In_eq _ _ _) ?_
  cases (decide (1 ≤ (l.length : Int)) && decide ((l.length : Int) ≤ 4)) with
  | false => exact ev_ifn (by simp) (ev_some _)
  | true =>
    refine ev_ifp rfl ?_
    rw [Bool.true_and]
    have := all_ev l.length (colOk l) true (fun k i => spec_IsTable.l0 k (i : Int) l) ?_ ?_ ?_
    · rw [Bool.and_true] at this; exact this
    · intro i hi e
      refine specT_head l i hi hl hz false (fun _ => rfl) (fun hH => ?_)
      unfold colOk at e
      rw [hH, Bool.true_and] at e
      exact ev_eq (specT_in l i hi false hl (fun h => by rw [e] at h; cases h)) (by simp)
    · intro i hi r e h
      unfold colOk at e
      rw [Bool.and_eq_true] at e
      exact specT_head l i hi hl hz r (fun hH => by rw [e.1] at hH; cases hH) (fun _ => ev_eq (specT_in l i hi r hl (fun _ => by rw [wS hi (by omega)]; exact h)) (by rw [e.2, Bool.true_and]))
    · intro _
      exact ev_const (fun k => by simp only [spec_IsTable.l0]; rw [if_neg (by omega)])
theorem implIsTable_ev (l : List S62) (hl : l.length ≤ 1048576) (hz : ∀ z ∈ l, z.f0.size ≤ 1048576 ∧ z.f1.length ≤ 1048576) : Ev (fun k => impl_IsTable.f k l) (isT l) := by
  unfold impl_IsTable.f isT
  rw [Bool.and_comm]
  refine all_ev l.length (colOk l) _ (fun k i => impl_IsTable.l0 k l (l.length : Int) (i : Int) l) ?_ ?_ ?_
  · intro i hi e
    have hm := hz _ (List.getElem_mem hi)
    apply Ev.step
    · intro k; simp only [impl_IsTable.l0, implAreValues, implFindColumn, Option.bind_some]; rfl
    refine ev_ifp (by omega) (ev_ifp (by omega) (ev_ifp (by omega) (Ev.bind (implIsName_ev _ (by rw [rdColumn hi]; omega)) ?_)))
    unfold colOk colH at e
    cases h1 : isN (rd_T62 l (i : Int)).f0 with
    | false => exact ev_ifn (by simp) (ev_some _)
    | true =>
      refine ev_ifp rfl ?_
      cases h2 : areV (rd_T62 l (i : Int)).f1 with
      | false => exact ev_ifn (by simp) (ev_some _)
      | true =>
        refine ev_ifp rfl (ev_ifp (by omega) ?_)
        by_cases c : ((rd_T62 l (i : Int)).f1.length : Int) = ((rd_T62 l 0).f1.length : Int)
        · refine ev_ifp c (ev_ifn (fun hx => ?_) (ev_some _))
          rw [h1, h2, decide_eq_true c, (colAt_first hi).1 hx] at e
          cases e
        · exact ev_ifn c (ev_some _)
  · intro i hi r e h
    have hm := hz _ (List.getElem_mem hi)
    unfold colOk colH at e
    simp only [Bool.and_eq_true, decide_eq_true_eq] at e
    apply Ev.step
    · intro k; simp only [impl_IsTable.l0, implAreValues, implFindColumn, Option.bind_some]; rfl
    refine ev_ifp (by omega) (ev_ifp (by omega) (ev_ifp (by omega) (Ev.bind (implIsName_ev _ (by rw [rdColumn hi]; omega)) (ev_ifp e.1.1 (ev_ifp e.1.2.1 (ev_ifp (by omega) (ev_ifp e.1.2.2 (ev_ifp ((colAt_first hi).2 e.2) ?_))))))))
    rw [wS hi (by omega)]
    exact h
  · intro _
    refine ev_const (fun k => ?_)
    simp only [impl_IsTable.l0]
    rw [if_neg (by omega)]
    by_cases h : (l.length : Int) ≥ 1
    · rw [if_pos h]
      have : 1 ≤ (l.length : Int) := h
      simp [this]
    · rw [if_neg h, decide_eq_false (show ¬ 1 ≤ (l.length : Int) from h), Bool.false_and]

theorem colAt_lt (l : List S62) (nm : ByteArray) : colAt l nm < (l.length : Int) := by
  unfold colAt Giv.fidx
  cases h : l.findIdx? (colP nm) with
  | none => show (-1 : Int) < _; omega
  | some i =>
    obtain ⟨h1, _⟩ := List.findIdx?_eq_some_iff_getElem.1 h
    show (i : Int) < _
    omega
theorem columnOf_same (l : List S62) (nm : ByteArray) (hl : l.length ≤ 1048576) (hz : ∀ z ∈ l, z.f0.size ≤ 1048576 ∧ z.f1.length ≤ 1048576) : ∃ a b, Ev (fun k => spec_ColumnOf.f k l nm) (a, b) ∧ Ev (fun k => impl_ColumnOf.f k l nm) (a, b) ∧ a.length ≤ 1048576 := by
  unfold spec_ColumnOf.f impl_ColumnOf.f
  have hs := specIsTable_ev l hl hz
  have hi := implIsTable_ev l hl hz
  have hf := specFindColumn_ev l nm (by omega)
  have hlt := colAt_lt l nm
  cases hc : isT l with
  | false =>
    rw [hc] at hs hi
    exact ⟨[], false, Ev.bind hf (Ev.bind hs (ev_ifn (by simp) (ev_some _))), ev_pure (implFindColumn l nm) (Ev.bind hi (ev_ifn (by simp) (ev_some _))), by simp⟩
  | true =>
    rw [hc] at hs hi
    by_cases h0 : colAt l nm < 0
    · exact ⟨[], false, Ev.bind hf (Ev.bind hs (ev_ifp rfl (ev_ifp h0 (ev_some _)))), ev_pure (implFindColumn l nm) (Ev.bind hi (ev_ifp rfl (ev_ifp h0 (ev_some _)))), by simp⟩
    · obtain ⟨i, hi0⟩ : ∃ i : Nat, colAt l nm = (i : Int) := ⟨(colAt l nm).toNat, by omega⟩
      have hil : i < l.length := by omega
      have hb := (hz l[i] (List.getElem_mem hil)).2
      have hr : rd_T62 l (colAt l nm) = l[i] := by rw [hi0]; exact rdColumn hil
      refine ⟨(l[i]).f1, true, Ev.bind hf (Ev.bind hs (ev_ifp rfl (ev_ifn h0 (ev_pure rfl (ev_ifp (by omega) (ev_ifp (by omega) (ev_ifp (by rw [hr]; simp; omega) ?_))))))), ev_pure (implFindColumn l nm) (Ev.bind hi (ev_ifp rfl (ev_ifn h0 (ev_ifp (by omega) (ev_ifp (by omega) ?_))))), hb⟩
      · rw [hr]
        exact ev_some _
      · rw [hr]
        refine ev_pure (a := (l[i]).f1) (by unfold slices_Clone_int_int.f; rw [if_pos (by omega)]) (ev_some _)

theorem markText_l0 : ∀ (n : Nat) (x : Int) (t : ByteArray), x < (10 : Int) ^ n → x ≤ 4611686018427387904 → t.size + n ≤ 100 → ∃ s, Ev (fun k => laws_markText.l0 k x t) s := by
  intro n
  induction n with
  | zero =>
    intro x t hx _ ht
    refine ⟨(⟨#[109]⟩ : ByteArray) ++ t, ev_const (fun k => ?_)⟩
    simp only [laws_markText.l0]
    rw [if_neg (by simp at hx; omega), if_pos (by omega)]
  | succ n ih =>
    intro x t hx hx2 ht
    by_cases c : x > 0
    · have hp : (10 : Int) ^ (n + 1) = 10 ^ n * 10 := Int.pow_succ 10 n
      rw [hp] at hx
      generalize (10 : Int) ^ n = p at hx ih
      have hd : wrap64 (Int.tdiv x 10) = x / 10 := by rw [tdiv_nn (by omega), w64 (by omega) (by omega)]
      obtain ⟨s, hs⟩ := ih (x / 10) (strOfNums [(wrap64 (48 + (Int.tmod x 10))) % 256] ++ t) (by omega) (by omega) (by rw [ByteArray.size_append, strOfNums_size]; simp; omega)
      refine ⟨s, Ev.step (fun k => ?_) hs⟩
      simp only [laws_markText.l0]
      rw [if_pos c, Option.bind_some, if_pos (by rw [strOfNums_size]; simp; omega), hd]
    · refine ⟨(⟨#[109]⟩ : ByteArray) ++ t, ev_const (fun k => ?_)⟩
      simp only [laws_markText.l0]
      rw [if_neg c, if_pos (by omega)]
theorem markText_ev (a : Int) (h : a ≤ 4611686018427387904) : ∃ s, Ev (fun k => laws_markText.f k a) s := by
  unfold laws_markText.f
  by_cases c : a ≤ 0
  · exact ⟨_, ev_ifp c (ev_some _)⟩
  · obtain ⟨s, hs⟩ := markText_l0 19 a ⟨#[]⟩ (by have : (10 : Int) ^ 19 = 10000000000000000000 := by decide +kernel
                                                 omega) h (by show 0 + 19 ≤ 100; omega)
    exact ⟨s, ev_ifn c hs⟩

theorem markIntS_ev (l : List Int) (a : Int) (h0 : 0 ≤ a) (h1 : a + l.length ≤ 4611686018427387904) : Ev (fun k => laws_markIntS.f k l a) (a + l.length, mk a l.length) := by
  unfold laws_markIntS.f
  have hml := mk_len a l.length
  have h := down_ev l.length (fun k i => laws_markIntS.l0 k ((mk a l.length).take i ++ l.drop i) (a + (i : Int)) (i : Int)) (a + l.length, mk a l.length) ?_ ?_
  · simpa using h
  · intro i hi ih
    refine Ev.step (fun k => ?_) ih
    simp only [laws_markIntS.l0]
    rw [if_pos (by rw [step_len _ _ (by omega) _ (by omega)]; omega), if_pos (by omega), Int.toNat_natCast, wS hi (by omega), w64 (n := a + (i : Int) + 1) (by omega) (by omega)]
    have e := set_step (mk a l.length) l (by omega) i (by omega)
    rw [mk_at] at e
    rw [e, Int.natCast_add, ← Int.add_assoc]
    rfl
  · refine ev_const (fun k => ?_)
    simp only [laws_markIntS.l0]
    rw [if_neg (by rw [step_len _ _ (by omega) _ (by omega)]; omega)]
    rw [List.take_of_length_le (by omega), List.drop_eq_nil_of_le (by omega), List.append_nil]

theorem markTable_g : ∀ (l : List S62) (a : Int), 0 ≤ a → a + l.length * 1048577 ≤ 4611686018427387904 → (∀ z ∈ l, z.f1.length ≤ 1048576) → ∃ q, Ev (fun k => laws_markTable.g k l a) q ∧ a ≤ q.1
  | [], a, h0, _, _ => ⟨(a, []), ev_const (fun k => by simp only [laws_markTable.g]), Int.le_refl _⟩
  | c :: cs, a, h0, h1, hz => by
    have hc := hz c (by simp)
    rw [List.length_cons] at h1
    obtain ⟨s, hs⟩ := markText_ev a (by omega)
    obtain ⟨q, hq, hle⟩ := markTable_g cs (a + 1 + c.f1.length) (by omega) (by omega) (fun z h => hz z (by simp [h]))
    refine ⟨(q.1, ⟨s, mk (a + 1) c.f1.length⟩ :: q.2), ?_, by show a ≤ q.1; omega⟩
    have hm := markIntS_ev c.f1 (a + 1) (by omega) (by omega)
    have e : Ev (fun k => (laws_markText.f k a).bind fun s => (laws_markIntS.f k c.f1 (wrap64 (a + 1))).bind fun p => (laws_markTable.g k cs p.1).bind fun q => some (q.1, (⟨s, p.2⟩ : S62) :: q.2)) (q.1, ⟨s, mk (a + 1) c.f1.length⟩ :: q.2) := by
      rw [w64 (n := a + 1) (by omega) (by omega)]
      exact Ev.bind hs (Ev.bind hm (Ev.bind hq (ev_some _)))
    exact Ev.congr (fun k => by simp only [laws_markTable.g]) e
theorem markTable_ev (l : List S62) (hl : l.length ≤ 1048576) (hz : ∀ z ∈ l, z.f1.length ≤ 1048576) : ∃ t, Ev (fun k => laws_markTable.f k l 1) t ∧ 0 ≤ t := by
  obtain ⟨q, hq, hle⟩ := markTable_g l 1 (by omega) (by omega) hz
  unfold laws_markTable.f
  exact ⟨q.1, Ev.bind hq (ev_some _), by omega⟩

theorem heldIntS_ev (n : Nat) (a : Int) (h0 : 0 ≤ a) (h1 : a + n ≤ 4611686018427387904) : Ev (fun k => laws_heldIntS.f k (mk a n) a) (a + n) := by
  unfold laws_heldIntS.f
  have hml := mk_len a n
  have h := down_ev n (fun k i => laws_heldIntS.l0 k (mk a n) (a + (i : Int)) (i : Int)) (a + n) ?_ ?_
  · simpa using h
  · intro i hi ih
    refine Ev.step (fun k => ?_) ih
    simp only [laws_heldIntS.l0]
    rw [if_pos (by omega), if_pos (by omega), rd_nat (by omega), mk_at, if_pos rfl, wS hi (by omega), w64 (n := a + (i : Int) + 1) (by omega) (by omega), Int.natCast_add, ← Int.add_assoc]
    rfl
  · refine ev_const (fun k => ?_)
    simp only [laws_heldIntS.l0]
    rw [if_neg (by omega)]


end Go.Proofs.Ytlikcmonejefoac.Pure.FnExactColumnOf
namespace Go.Proofs.Ytlikcmonejefoac.Pure
open Go.RowKit Go.Proofs.Ytlikcmonejefoac.PFnExactColumnOf Go.Proofs.YtlikcmonejefoacW.PrintWords Go.Proofs.YtlikcmonejefoacW.PrintLast Go.Proofs.YtlikcmonejefoacW.PrintMore Go.Proofs.Ytlikcmonejefoac.B Go.Proofs.Ytlikcmonejefoac.Pure.FnExactColumnOf
theorem FnExactColumnOf : ∀ (l0_0 : List S78) (a1 : ByteArray), (l0_0.length ≤ maxLen ∧ ∀ z ∈ l0_0, (z.f0.size ≤ maxLen ∧ (z.f1.length ≤ maxLen ∧ ∀ zz ∈ z.f1, (Lit.int .i64 zz).wf = true))) → a1.size ≤ 140737488351232 → ∃ k, laws_FnExactColumnOf.f k l0_0 a1 = some true := by
  intro l nm ⟨hl, hz⟩ hn
  refine Ev.rounds (g := fun k => laws_FnExactColumnOf.f k l nm) ?_
  unfold laws_FnExactColumnOf.f
  by_cases hb : (nm.size : Int) > 1048576
  · exact ev_ifp hb (ev_some _)
  refine ev_ifn hb ?_
  obtain ⟨t, ht, hc⟩ := szTable_at l hl (fun z h => ⟨(hz z h).1, (hz z h).2.1⟩)
  refine Ev.bind ht ?_
  rcases hc with hc | ⟨h0, h1, h2⟩
  · exact ev_ifp hc (ev_some _)
  refine ev_ifn (by omega) ?_
  have hm : (l.map cvColumn).length ≤ 1048576 := by simpa using h1
  have hq := cvColumn_all h2
  obtain ⟨a, b, e1, e2, ha⟩ := columnOf_same (l.map cvColumn) nm hm hq
  obtain ⟨m, em, hm0⟩ := markTable_ev (l.map cvColumn) hm (fun z h => (hq z h).2)
  refine Ev.bind (toTable_ev l h1 h2) ?_
  refine Ev.bind e1 ?_
  refine Ev.bind (toTable_ev l h1 h2) ?_
  refine Ev.bind e2 ?_
  refine Ev.bind (eqIntS_ev a a (by omega)) ?_
  refine ev_ifp (by simp) ?_
  apply Ev.step
  · intro k; simp only [laws_FnExactColumnOf.j0]; rfl
  refine ev_ifn (by simp) ?_
  refine Ev.bind (toTable_ev l h1 h2) ?_
  refine Ev.bind (eqTable_ev (l.map cvColumn) (by omega) (fun z h => by have := (hq z h).2; omega)) ?_
  refine ev_ifp rfl ?_
  refine Ev.bind em ?_
  refine ev_ifn (by omega) ?_
  refine Ev.bind (eqIntS_ev a a (by omega)) ?_
  refine ev_ifp (by simp) ?_
  apply Ev.step
  · intro k; simp only [laws_FnExactColumnOf.j1]; rfl
  refine ev_ifn (by simp) ?_
  refine Ev.bind (markIntS_ev a 1 (by omega) (by omega)) ?_
  refine Ev.bind (heldIntS_ev a.length 1 (by omega) (by omega)) ?_
  refine ev_ifn (by omega) (ev_ifp rfl ?_)
  refine Ev.bind (toTable_ev l h1 h2) ?_
  refine Ev.bind e2 ?_
  refine Ev.bind (eqIntS_ev a a (by omega)) ?_
  refine ev_ifp (by simp) ?_
  apply Ev.step
  · intro k; simp only [laws_FnExactColumnOf.j2]; rfl
  refine ev_ifn (by simp) ?_
  refine Ev.bind (heldIntS_ev a.length 1 (by omega) (by omega)) ?_
  exact ev_ifn (by omega) (ev_ifp rfl (ev_some _))

end Go.Proofs.Ytlikcmonejefoac.Pure
