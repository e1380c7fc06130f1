/- FormatTable of the program returns what the reference returns, for every table. No condition of ours. -/
import Derived.Test.YtjgfbamloldkfaaDoorPFnExactFormatTablex0
import Derived.Test.YtjgfbamloldkfaaDoorPFnExactFormatTablex1
import Derived.Test.YtjgfbamloldkfaaDoorPFnExactFormatTablex2
import Derived.Test.YtjgfbamloldkfaaDoorPFnExactFormatTablex3
import Derived.Test.YtjgfbamloldkfaaDoorPFnExactFormatTablex4
import Derived.Test.YtjgfbamloldkfaaDoorPFnExactFormatTablex5
import Derived.Test.YtjgfbamloldkfaaDoorPFnExactFormatTablex6
import Derived.Test.YtjgfbamloldkfaaDoorPFnExactFormatTablex7
import Derived.Test.YtjgfbamloldkfaaDoorB
set_option linter.unusedVariables false
set_option linter.unusedSimpArgs false
namespace Go.Proofs.YtjgfbamloldkfaaDoor.Pure.FnExactFormatTable
open Go.RowKit Go.Proofs.YtjgfbamloldkfaaDoor.PFnExactFormatTable Go.Proofs.YtjgfbamloldkfaaDoorW.PrintWords Go.Proofs.YtjgfbamloldkfaaDoorW.PrintLast Go.Proofs.YtjgfbamloldkfaaDoorW.PrintMore Go.Proofs.YtjgfbamloldkfaaDoor.B

/-- The decimal digits of a number that is not 0; none for 0. -/
def digs (u : Nat) : List UInt8 := if u = 0 then [] else Lib.decDigits u
theorem digs_step {u : Nat} (h : 0 < u) : digs u = digs (u / 10) ++ [UInt8.ofNat (48 + u % 10)] := by
  unfold digs
  rw [if_neg (by omega), Lib.decDigits]
  by_cases h10 : u < 10
  · rw [dif_pos h10, if_pos (by omega), show u % 10 = u by omega]; rfl
  · rw [dif_neg h10, if_neg (by omega)]
theorem digs_len (u : Nat) : (digs u).length ≤ 1 + u / 10 := by
  induction u using Nat.strongRecOn with
  | _ u ih =>
    by_cases h : u = 0
    · subst h; simp [digs]
    · rw [digs_step (by omega), List.length_append, List.length_singleton]
      by_cases h10 : u < 10
      · have : u / 10 = 0 := by omega
        rw [this]; simp [digs]
      · have := ih (u / 10) (by omega); omega
def sgnB (b : Bool) : List UInt8 := if b then [45] else []
theorem ofInt_byte (m : Nat) (h : m < 10) : (wrap64 (48 + (m : Int))) % 256 = ((48 + m : Nat) : Int) := by
  rw [w64 (by omega) (by omega)]; omega
theorem str_one (m : Nat) (h : m < 10) (s : List UInt8) : strOfNums [((48 + m : Nat) : Int)] ++ (⟨s.toArray⟩ : ByteArray) = ⟨(UInt8.ofNat (48 + m) :: s).toArray⟩ := by
  apply ByteArray.ext
  rw [ByteArray.data_append]
  show (strOfNums [((48 + m : Nat) : Int)]).data ++ s.toArray = (UInt8.ofNat (48 + m) :: s).toArray
  rw [show (strOfNums [((48 + m : Nat) : Int)]).data = #[UInt8.ofNat (48 + m)] from rfl]
  simp
theorem fmt_loop (u : Nat) : ∀ (x : Int) (s : List UInt8) (neg : Bool), x.natAbs = u → -9223372036854775808 ≤ x → x ≤ 9223372036854775807 → s.length + (digs u).length ≤ 922337203685477600 →
    Ev (fun k => spec_FormatInt.l0 k x ⟨s.toArray⟩ neg) ⟨(sgnB neg ++ (digs u ++ s)).toArray⟩ := by
  induction u using Nat.strongRecOn with
  | _ u ih =>
    intro x s neg hu hl hh hs
    have hsz : (⟨s.toArray⟩ : ByteArray).size = s.length := by simp [ByteArray.size]
    by_cases h0 : x = 0
    · subst h0
      have : u = 0 := by omega
      subst this
      refine ev_const (fun k => ?_)
      simp only [spec_FormatInt.l0]
      rw [if_pos trivial, hsz]
      cases neg with
      | true =>
        rw [if_pos rfl, if_pos (by simp [digs] at hs; omega)]
        congr 1
      | false => rw [if_neg (by simp)]; simp [sgnB, digs]
    · have hu0 : 0 < u := by omega
      have hm : (Int.tmod x 10 < 0 → -(Int.tmod x 10) = ((u % 10 : Nat) : Int)) ∧ (¬ Int.tmod x 10 < 0 → Int.tmod x 10 = ((u % 10 : Nat) : Int)) := by
        have := tmod_cases x 10
        by_cases hx : 0 ≤ x
        · have := this.1 hx; omega
        · have := this.2 (by omega); omega
      have hd : (Int.tdiv x 10).natAbs = u / 10 ∧ -9223372036854775808 ≤ Int.tdiv x 10 ∧ Int.tdiv x 10 ≤ 9223372036854775807 := by
        have := tdiv_cases x 10
        by_cases hx : 0 ≤ x
        · have := this.1 hx; omega
        · have := this.2 (by omega); omega
      have hst := digs_step hu0
      have hlen : (digs u).length = (digs (u / 10)).length + 1 := by rw [hst]; simp
      have h := ih (u / 10) (by omega) (Int.tdiv x 10) (UInt8.ofNat (48 + u % 10) :: s) neg hd.1 hd.2.1 hd.2.2 (by simp; omega)
      refine ev_eq (Ev.step (fun k => ?_) h) (by rw [hst, List.append_assoc]; rfl)
      simp only [spec_FormatInt.l0]
      rw [if_neg h0, w64 (n := Int.tdiv x 10) hd.2.1 (by omega)]
      by_cases ht : Int.tmod x 10 < 0
      · rw [if_pos ht, hm.1 ht, Option.bind_some, w64 (n := ((u % 10 : Nat) : Int)) (by omega) (by omega), ofInt_byte _ (by omega), if_pos (by rw [strOfNums_size, hsz]; simp; omega), str_one _ (by omega)]
      · rw [if_neg ht, hm.2 ht, Option.bind_some, ofInt_byte _ (by omega), if_pos (by rw [strOfNums_size, hsz]; simp; omega), str_one _ (by omega)]
theorem fmt_spec (n : Int) (h0 : -9223372036854775808 ≤ n) (h1 : n ≤ 9223372036854775807) : Ev (fun k => spec_FormatInt.f k n) ⟨(Lib.itoa n).toArray⟩ := by
  unfold spec_FormatInt.f
  by_cases hz : n = 0
  · subst hz
    exact ev_ifp rfl (ev_eq (ev_some _) (by decide +kernel))
  · refine ev_ifn hz ?_
    have h := fmt_loop n.natAbs n [] (decide (n < 0)) rfl h0 h1 (by have := digs_len n.natAbs; simp; omega)
    have hne : n.natAbs ≠ 0 := by omega
    have hd : digs n.natAbs = Lib.decDigits n.natAbs := if_neg hne
    have e : (sgnB (decide (n < 0)) ++ (digs n.natAbs ++ [])) = Lib.itoa n := by
      rw [List.append_nil, hd]
      unfold Lib.itoa
      by_cases hn : n < 0
      · rw [decide_eq_true hn, if_pos hn]; rfl
      · rw [decide_eq_false hn, if_neg hn, show n.natAbs = n.toNat by omega]; rfl
    rw [e] at h
    exact h
theorem fmt_impl (n : Int) (h0 : -9223372036854775808 ≤ n) (h1 : n ≤ 9223372036854775807) : impl_FormatInt.f n = some ⟨(Lib.itoa n).toArray⟩ := by
  unfold impl_FormatInt.f strconv_Itoa.f
  rw [if_pos ⟨h0, h1⟩]
  rfl

def bs (l : List UInt8) : ByteArray := ⟨l.toArray⟩
theorem bs_app (a b : List UInt8) : bs a ++ bs b = bs (a ++ b) := by
  apply ByteArray.ext
  rw [ByteArray.data_append]
  simp [bs]
theorem bs_size (a : List UInt8) : (bs a).size = a.length := by simp [bs, ByteArray.size]

theorem itoa_len2 (n : Int) : (Lib.itoa n).length ≤ 3 + n.natAbs / 10 := by
  by_cases hz : n = 0
  · subst hz; decide +kernel
  · have hd : digs n.natAbs = Lib.decDigits n.natAbs := if_neg (by omega)
    have := digs_len n.natAbs
    unfold Lib.itoa
    by_cases hn : n < 0
    · rw [if_pos hn, List.length_cons, ← hd]; omega
    · rw [if_neg hn, show n.toNat = n.natAbs by omega, ← hd]; omega
theorem fs (n : Int) (h : n.natAbs ≤ 100000) : Ev (fun k => spec_FormatInt.f k n) (bs (Lib.itoa n)) := fmt_spec n (by omega) (by omega)
theorem fi (n : Int) (h : n.natAbs ≤ 100000) : impl_FormatInt.f n = some (bs (Lib.itoa n)) := fmt_impl n (by omega) (by omega)
theorem bs_list (l : List UInt8) : (bs l).data.toList = l := by simp [bs]

def flat (ws : List (List UInt8)) : List UInt8 := (ws.map (32 :: ·)).flatten
theorem flat_app (ws : List (List UInt8)) (w : List UInt8) : flat (ws ++ [w]) = flat ws ++ 32 :: w := by simp [flat]
theorem join_flat : ∀ ws : List (List UInt8), ws ≠ [] → Lib.join ws [32] = (flat ws).drop 1
  | [], h => absurd rfl h
  | x :: r, _ => by rw [Lib.join_cons]; simp [flat, Lib.joinTail]
theorem flat_ne {ws : List (List UInt8)} (h : ws ≠ []) : flat ws ≠ [] := by
  cases ws with
  | nil => exact absurd rfl h
  | cons x r => simp [flat]
theorem map_bs (ws : List (List UInt8)) : (ws.map bs).map (·.data.toList) = ws := by
  rw [List.map_map]
  have : ((fun x : ByteArray => x.data.toList) ∘ bs) = id := by funext l; exact bs_list l
  rw [this, List.map_id]

def areV (l : List Int) : Bool := decide (l.length ≤ 64) && l.all (fun x => decide (-999 ≤ x) && decide (x ≤ 999))

theorem areV_facts {l : List Int} (h : areV l = true) : l.length ≤ 64 ∧ ∀ i : Nat, i < l.length → -999 ≤ rd l (i : Int) ∧ rd l (i : Int) ≤ 999 := by
  unfold areV at h
  rw [Bool.and_eq_true, decide_eq_true_eq, List.all_eq_true] at h
  refine ⟨h.1, fun i hi => ?_⟩
  rw [rd_nat hi]
  have := h.2 l[i] (List.getElem_mem hi)
  simpa using this

/-- A loop that ends false at the first round that is not ok, and goes on with r behind the last. -/
theorem all_ev (n : Nat) (ok : Nat → Bool) (r : Bool) (g : Nat → Nat → Option Bool) (hf : ∀ i, i < n → ok i = false → Ev (fun k => g k i) false)
    (ht : ∀ i, i < n → ∀ r, ok i = true → Ev (fun k => g k (i + 1)) r → Ev (fun k => g k i) r) (he : (∀ i, i < n → ok i = true) → Ev (fun k => g k n) r) :
    Ev (fun k => g k 0) ((List.range n).all ok && r) := by
  refine loop_ev n (fun i => ∀ j, j < i → ok j = true) g _ (fun j h => absurd h (Nat.not_lt_zero _)) ?_ ?_
  · intro i hi hc ih
    cases e : ok i with
    | true =>
      refine ht i hi _ e (ih (fun j hj => ?_))
      by_cases h : j = i
      · rw [h]; exact e
      · exact hc j (by omega)
    | false =>
      have : (List.range n).all ok = false := by
        rw [List.all_eq_false]
        exact ⟨i, List.mem_range.2 hi, by simp [e]⟩
      rw [this, Bool.false_and]
      exact hf i hi e
  · intro hc
    have : (List.range n).all ok = true := by
      rw [List.all_eq_true]
      exact fun i hi => hc i (List.mem_range.1 hi)
    rw [this, Bool.true_and]
    exact he hc

theorem l1In_eq (x a b : Int) : spec_l1In.f x a b = some (decide (a ≤ x) && decide (x ≤ b)) := by
  unfold spec_l1In.f
  by_cases h : x ≥ a
  · rw [if_pos h]
    have : a ≤ x := h
    simp [this]
  · rw [if_neg h]
    have : ¬ a ≤ x := h
    simp [this]

theorem specAreValues_ev (l : List Int) (hl : l.length ≤ 4611686018427387904) : Ev (fun k => spec_AreValues.f k l) (areV l) := by
  unfold spec_AreValues.f
  refine loop_ev l.length (fun i => ∀ j (h : j < l.length), j < i → (decide (-999 ≤ l[j]) && decide (l[j] ≤ 999)) = true) (fun k i => spec_AreValues.l0 k l (i : Int)) (areV l) (fun j _ h => absurd h (Nat.not_lt_zero _)) ?_ ?_
  · intro i hi hc ih
    cases e : (decide (-999 ≤ l[i]) && decide (l[i] ≤ 999)) with
    | true =>
      refine Ev.step (fun k => ?_) (ih (fun j h hj => ?_))
      · simp only [spec_AreValues.l0]
        rw [if_pos (by omega), if_pos (by omega), rd_nat hi]
        have e2 : spec_l1In.f l[i] (-999) 999 = some true := by
          simp at e
          unfold spec_l1In.f
          rw [if_pos (by omega)]
          simp [e.2]
        rw [e2, Option.bind_some, if_pos rfl, wS hi (by omega)]
      · by_cases hji : j = i
        · subst hji; exact e
        · exact hc j h (by omega)
    | false =>
      refine ev_const (fun k => ?_)
      simp only [spec_AreValues.l0]
      rw [if_pos (by omega), if_pos (by omega), rd_nat hi]
      have e2 : spec_l1In.f l[i] (-999) 999 = some false := by
        unfold spec_l1In.f
        by_cases c : l[i] ≥ -999
        · rw [if_pos c]
          have c2 : -999 ≤ l[i] := c
          simp [c2] at e
          simp; omega
        · rw [if_neg c]
      rw [e2, Option.bind_some, if_neg (by simp)]
      unfold areV
      rw [all_false_at _ l i hi e, Bool.and_false]
  · intro hc
    refine ev_const (fun k => ?_)
    simp only [spec_AreValues.l0]
    rw [if_neg (by omega)]
    unfold areV
    rw [all_take_true _ l (fun i h => hc i h h), Bool.and_true]
    congr 1
    simp
    omega

theorem within_all (l : List Int) (a b : Int) : impl_within.f l a b = some (l.all fun x => decide (a ≤ x) && decide (x ≤ b)) := by
  unfold impl_within.f
  rw [List.not_any_eq_all_not]
  congr 2
  funext x
  by_cases h1 : x < a <;> by_cases h2 : b < x <;> simp [h1, h2] <;> omega
theorem implAreValues (l : List Int) : impl_AreValues.f l = some (areV l) := by
  unfold impl_AreValues.f areV
  by_cases h : (l.length : Int) ≤ 64
  · rw [if_pos h, within_all, Option.bind_some]
    have : l.length ≤ 64 := by omega
    simp [this]
  · rw [if_neg h]
    have : ¬ l.length ≤ 64 := by omega
    simp [this]

def nmI (s : ByteArray) (i : Nat) : Bool := decide (97 ≤ bt s (i : Int)) && decide (bt s (i : Int) ≤ 122)
def isN (s : ByteArray) : Bool := (List.range s.size).all (nmI s) && (decide (1 ≤ (s.size : Int)) && decide ((s.size : Int) ≤ 8))
theorem specIsName_ev (s : ByteArray) (hs : s.size ≤ 4611686018427387904) : Ev (fun k => spec_IsName.f k s) (isN s) := by
  unfold spec_IsName.f
  refine all_ev s.size (nmI s) _ (fun k i => spec_IsName.l0 k s (i : Int)) ?_ ?_ ?_
  · intro i hi e
    refine ev_const (fun k => ?_)
    simp only [spec_IsName.l0]
    unfold nmI at e
    rw [if_pos (by omega), if_pos (by omega)]
    by_cases c : bt s (i : Int) < 97
    · rw [if_pos c]
    · rw [if_neg c, if_pos]
      simp [show 97 ≤ bt s (i : Int) by omega] at e
      omega
  · intro i hi r e h
    refine Ev.step (fun k => ?_) h
    simp only [spec_IsName.l0]
    unfold nmI at e
    simp only [Bool.and_eq_true, decide_eq_true_eq] at e
    rw [if_pos (by omega), if_pos (by omega), if_neg (by omega), if_neg (by omega), wS hi (by omega)]
  · intro _
    refine ev_const (fun k => ?_)
    simp only [spec_IsName.l0]
    rw [if_neg (by omega), l1In_eq, Option.bind_some]
theorem implIsName_ev (s : ByteArray) (hs : s.size ≤ 4611686018427387904) : Ev (fun k => impl_IsName.f k s) (isN s) := by
  unfold impl_IsName.f
  refine all_ev s.size (nmI s) _ (fun k i => impl_IsName.l0 k s (s.size : Int) (i : Int)) ?_ ?_ ?_
  · intro i hi e
    refine ev_const (fun k => ?_)
    simp only [impl_IsName.l0]
    unfold nmI at e
    rw [if_pos (by omega), if_pos (by omega), if_pos (by omega)]
    by_cases c : bt s (i : Int) < 97
    · rw [if_pos c]
    · rw [if_neg c, if_pos]
      simp [show 97 ≤ bt s (i : Int) by omega] at e
      omega
  · intro i hi r e h
    refine Ev.step (fun k => ?_) h
    simp only [impl_IsName.l0]
    unfold nmI at e
    simp only [Bool.and_eq_true, decide_eq_true_eq] at e
    rw [if_pos (by omega), if_pos (by omega), if_pos (by omega), if_neg (by omega), if_neg (by omega), wS hi (by omega)]
  · intro _
    refine ev_const (fun k => ?_)
    simp only [impl_IsName.l0]
    rw [if_neg (by omega)]
    by_cases h : (s.size : Int) ≥ 1
    · rw [if_pos h]
      have : 1 ≤ (s.size : Int) := h
      simp [this]
    · rw [if_neg h, decide_eq_false (show ¬ 1 ≤ (s.size : Int) from h), Bool.false_and]

theorem szIntS_at (l : List Int) (a : Int) (ha : 0 ≤ a ∧ a ≤ 1048576) (hl : l.length ≤ maxLen) : laws_szIntS.f l a = some (if (l.length : Int) ≤ a then a - l.length else -1) := by
  unfold maxLen at hl
  unfold laws_szIntS.f
  rw [w64 (n := a - (l.length : Int)) (by omega) (by omega)]
  by_cases h : (l.length : Int) ≤ a
  · rw [if_neg (by omega), if_pos h]
  · rw [if_pos (by omega), if_neg h]

theorem toIntS_ev (l : List Int) (hl : l.length ≤ 1048576) : Ev (fun k => laws_toIntS.f k l) l := by
  unfold laws_toIntS.f
  refine ev_ifp (by omega) (ev_ifp (by omega) ?_)
  rw [show ((l.length : Int)).toNat = l.length by omega]
  have h := down_ev l.length (fun k i => laws_toIntS.l0 k l (l.take i ++ (List.replicate l.length (0 : Int)).drop i) (i : Int)) l ?_ ?_
  · simpa using h
  · intro i hi ih
    refine Ev.step (fun k => ?_) ih
    simp only [laws_toIntS.l0]
    rw [if_pos (by omega), if_pos (by omega), if_pos (by rw [step_len _ _ (by simp) _ (by omega)]; omega), rd_nat hi, wS hi (by omega), Int.toNat_natCast, set_step _ _ (by simp) _ hi]
  · refine ev_const (fun k => ?_)
    simp only [laws_toIntS.l0]
    rw [if_neg (by omega)]
    simp

theorem eqIntS_ev (l m : List Int) (hl : l.length ≤ 4611686018427387904) : Ev (fun k => laws_eqIntS.f k l m) (decide (l = m)) := by
  unfold laws_eqIntS.f
  by_cases hlm : l.length = m.length
  · refine ev_ifp (by omega) ?_
    refine loop_ev l.length (fun i => ∀ j (h : j < l.length), j < i → l[j] = m[j]'(by omega)) (fun k i => laws_eqIntS.l0 k l m (i : Int)) (decide (l = m)) (fun j _ h => absurd h (Nat.not_lt_zero _)) ?_ ?_
    · intro i hi hc ih
      have hi2 : i < m.length := by omega
      by_cases e : l[i] = m[i]
      · refine Ev.step (fun k => ?_) (ih (fun j h hj => ?_))
        · simp only [laws_eqIntS.l0]
          simp only [if_pos (show (i : Int) < (l.length : Int) by omega), if_pos (show (0 : Int) ≤ (i : Int) by omega), if_pos (show (i : Int) < (m.length : Int) by omega), rd_nat hi, rd_nat hi2, if_pos e, wS hi (by omega)]
        · by_cases hji : j = i
          · subst hji; exact e
          · exact hc j h (by omega)
      · refine ev_const (fun k => ?_)
        simp only [laws_eqIntS.l0]
        simp only [if_pos (show (i : Int) < (l.length : Int) by omega), if_pos (show (0 : Int) ≤ (i : Int) by omega), if_pos (show (i : Int) < (m.length : Int) by omega), rd_nat hi, rd_nat hi2, if_neg e]
        have : l ≠ m := fun hh => e (by subst hh; rfl)
        simp [this]
    · intro hc
      refine ev_const (fun k => ?_)
      simp only [laws_eqIntS.l0]
      rw [if_neg (by omega)]
      have : l = m := List.ext_getElem hlm (fun j h1 h2 => hc j h1 h1)
      simp [this]
  · refine ev_ifn (by omega) ?_
    have : l ≠ m := fun hh => hlm (by rw [hh])
    exact ev_eq (ev_some _) (by simp [this])

def cvColumn (x : S128) : S96 := ⟨x.f0, x.f1⟩
theorem rdColumn {l : List S96} {i : Nat} (h : i < l.length) : rd_T96 l (i : Int) = l[i] := by
  unfold rd_T96; simp [List.getD_eq_getElem?_getD, List.getElem?_eq_getElem h]
theorem rdLColumn {l : List S128} {i : Nat} (h : i < l.length) : rd_T128 l (i : Int) = l[i] := by
  unfold rd_T128; simp [List.getD_eq_getElem?_getD, List.getElem?_eq_getElem h]
theorem szColumn_at (s : ByteArray) (v : List Int) (a : Int) (ha : 0 ≤ a ∧ a ≤ 1048576) (hs : s.size ≤ maxLen) (hv : v.length ≤ maxLen) :
    ∃ t, laws_szColumn.f s v a = some t ∧ (t < 0 ∨ (0 ≤ t ∧ t ≤ a ∧ s.size ≤ 1048576 ∧ v.length ≤ 1048576)) := by
  unfold maxLen at hs
  unfold laws_szColumn.f
  rw [w64 (n := a - (s.size : Int)) (by omega) (by omega)]
  by_cases h1 : a - (s.size : Int) < 0
  · rw [if_pos h1]; exact ⟨_, rfl, .inl (by omega)⟩
  · rw [if_neg h1, szIntS_at v _ (by omega) hv, Option.bind_some]
    by_cases h2 : (v.length : Int) ≤ a - s.size
    · rw [if_pos h2, if_neg (by omega)]; exact ⟨_, rfl, .inr ⟨by omega, by omega, by omega, by omega⟩⟩
    · rw [if_neg h2, if_pos (by omega)]; exact ⟨_, rfl, .inl (by omega)⟩
theorem szColumnS_l0 (l : List S128) (hl : l.length ≤ 1048576) (hz : ∀ z ∈ l, z.f0.size ≤ maxLen ∧ z.f1.length ≤ maxLen) : ∀ (d i : Nat) (a : Int), i + d = l.length → 0 ≤ a ∧ a ≤ 1048576 →
    ∃ t, Ev (fun k => laws_szColumnS.l0 k l a (i : Int)) t ∧ (t < 0 ∨ (0 ≤ t ∧ t ≤ a ∧ ∀ j (h : j < l.length), i ≤ j → l[j].f0.size ≤ 1048576 ∧ l[j].f1.length ≤ 1048576)) := by
  intro d
  induction d with
  | zero =>
    intro i a hi ha
    refine ⟨a, ev_const (fun k => ?_), .inr ⟨ha.1, Int.le_refl _, fun j h hj => by omega⟩⟩
    simp only [laws_szColumnS.l0]
    rw [if_neg (by omega)]
  | succ d ih =>
    intro i a hi ha
    have hil : i < l.length := by omega
    have hm := hz _ (List.getElem_mem hil)
    obtain ⟨t, ht, hc⟩ := szColumn_at l[i].f0 l[i].f1 a ha hm.1 hm.2
    rcases hc with hc | ⟨h0, h1, h2, h3⟩
    · refine ⟨-1, ev_const (fun k => ?_), .inl (by omega)⟩
      simp only [laws_szColumnS.l0]
      rw [if_pos (by omega), if_pos (by omega), rdLColumn hil, ht, Option.bind_some, if_pos hc]
    · obtain ⟨t2, e2, c2⟩ := ih (i + 1) t (by omega) (by omega)
      refine ⟨t2, Ev.step (fun k => ?_) e2, ?_⟩
      · simp only [laws_szColumnS.l0]
        rw [if_pos (by omega), if_pos (by omega), rdLColumn hil, ht, Option.bind_some, if_neg (by omega), wS hil (by omega)]
      · rcases c2 with c2 | ⟨g0, g1, g2⟩
        · exact .inl c2
        · refine .inr ⟨g0, by omega, fun j h hj => ?_⟩
          by_cases e : j = i
          · subst e; exact ⟨h2, h3⟩
          · exact g2 j h (by omega)
theorem szTable_at (l : List S128) (hl : l.length ≤ maxLen) (hz : ∀ z ∈ l, z.f0.size ≤ maxLen ∧ z.f1.length ≤ maxLen) :
    ∃ t, Ev (fun k => laws_szTable.f k l 1048576) t ∧ (t < 0 ∨ (0 ≤ t ∧ l.length ≤ 1048576 ∧ ∀ z ∈ l, z.f0.size ≤ 1048576 ∧ z.f1.length ≤ 1048576)) := by
  unfold maxLen at hl
  unfold laws_szTable.f laws_szColumnS.f
  rw [w64 (n := 1048576 - (l.length : Int)) (by omega) (by omega)]
  by_cases h : 1048576 - (l.length : Int) < 0
  · exact ⟨-1, Ev.bind (ev_ifp h (ev_some (-1 : Int))) (ev_ifp (by omega) (ev_some _)), .inl (by omega)⟩
  · obtain ⟨t, e, c⟩ := szColumnS_l0 l (by omega) hz l.length 0 (1048576 - (l.length : Int)) (by omega) (by omega)
    rcases c with c | ⟨g0, g1, g2⟩
    · exact ⟨-1, Ev.bind (ev_ifn h e) (ev_ifp c (ev_some _)), .inl (by omega)⟩
    · refine ⟨t, Ev.bind (ev_ifn h e) (ev_ifn (by omega) (ev_some _)), .inr ⟨g0, by omega, fun z hz => ?_⟩⟩
      obtain ⟨j, hj, rfl⟩ := List.mem_iff_getElem.1 hz
      exact g2 j hj (Nat.zero_le _)
theorem toTable_ev (l : List S128) (hl : l.length ≤ 1048576) (hz : ∀ z ∈ l, z.f0.size ≤ 1048576 ∧ z.f1.length ≤ 1048576) : Ev (fun k => laws_toTable.f k l) (l.map cvColumn) := by
  unfold laws_toTable.f
  refine Ev.bind ?_ (ev_some _)
  unfold laws_toColumnS.f
  refine ev_ifp (by omega) (ev_ifp (by omega) ?_)
  rw [show ((l.length : Int)).toNat = l.length by omega]
  have h := down_ev l.length (fun k i => laws_toColumnS.l0 k l ((l.map cvColumn).take i ++ (List.replicate l.length z96).drop i) (i : Int)) (l.map cvColumn) ?_ ?_
  · simpa using h
  · intro i hi ih
    have hm := hz _ (List.getElem_mem hi)
    apply Ev.step
    · intro k; simp only [laws_toColumnS.l0]; rfl
    refine ev_ifp (by omega) (ev_ifp (by omega) ?_)
    rw [rdLColumn hi]
    unfold laws_toColumn.f
    refine Ev.bind (Ev.bind (toIntS_ev l[i].f1 hm.2) (ev_some _)) (ev_ifp ?_ ?_)
    · rw [step_len _ _ (by simp) _ (by simp; omega)]; simp; omega
    · rw [wS hi (by omega), Int.toNat_natCast]
      have e := set_step (l.map cvColumn) (List.replicate l.length z96) (by simp) i (by simpa using hi)
      simp only [List.getElem_map] at e
      rw [← e] at ih
      exact ih
  · refine ev_const (fun k => ?_)
    simp only [laws_toColumnS.l0]
    rw [if_neg (by omega)]
    rw [List.take_of_length_le (by simp), List.drop_eq_nil_of_le (by simp), List.append_nil]
theorem eqTable_ev (l : List S96) (hl : l.length ≤ 4611686018427387904) (hz : ∀ z ∈ l, z.f1.length ≤ 4611686018427387904) : Ev (fun k => laws_eqTable.f k l l) true := by
  unfold laws_eqTable.f
  refine Ev.bind ?_ (ev_ifp rfl (ev_some _))
  unfold laws_eqColumnS.f
  refine ev_ifp rfl ?_
  refine down_ev l.length (fun k i => laws_eqColumnS.l0 k l l (i : Int)) true ?_ ?_
  · intro i hi ih
    apply Ev.step
    · intro k; simp only [laws_eqColumnS.l0]; rfl
    refine ev_ifp (by omega) (ev_ifp (by omega) (ev_ifp (by omega) ?_))
    rw [rdColumn hi]
    unfold laws_eqColumn.f
    refine Ev.bind (ev_ifp rfl (Ev.bind (eqIntS_ev l[i].f1 l[i].f1 (hz _ (List.getElem_mem hi))) (ev_ifp (by simp) (ev_some _)))) (ev_ifp rfl ?_)
    rw [wS hi (by omega)]
    exact ih
  · refine ev_const (fun k => ?_)
    simp only [laws_eqColumnS.l0]
    rw [if_neg (by omega)]
theorem cvColumn_all {l : List S128} (hz : ∀ z ∈ l, z.f0.size ≤ 1048576 ∧ z.f1.length ≤ 1048576) : ∀ z ∈ l.map cvColumn, z.f0.size ≤ 1048576 ∧ z.f1.length ≤ 1048576 := by
  intro z h
  obtain ⟨y, hy, rfl⟩ := List.mem_map.1 h
  exact hz y hy

def colP (nm : ByteArray) (x : S96) : Bool := x.f0.toList == nm.toList
def colAt (l : List S96) (nm : ByteArray) : Int := Giv.fidx (colP nm) l
theorem implFindColumn (l : List S96) (nm : ByteArray) : impl_FindColumn.f l nm = some (colAt l nm) := rfl

def lone (l : List S96) (i j : Nat) : Bool := !colP (rd_T96 l (i : Int)).f0 (rd_T96 l (j : Int))
def colH (l : List S96) (i : Nat) : Bool := isN (rd_T96 l (i : Int)).f0 && (areV (rd_T96 l (i : Int)).f1 && decide (((rd_T96 l (i : Int)).f1.length : Int) = ((rd_T96 l 0).f1.length : Int)))
def colOk (l : List S96) (i : Nat) : Bool := colH l i && (List.range i).all (lone l i)
def isT (l : List S96) : Bool := (decide (1 ≤ (l.length : Int)) && decide ((l.length : Int) ≤ 4)) && (List.range l.length).all (colOk l)
theorem colAt_first {l : List S96} {i : Nat} (hi : i < l.length) : (colAt l (rd_T96 l (i : Int)).f0 = (i : Int)) ↔ (List.range i).all (lone l i) = true := by
  have hself : colP (rd_T96 l (i : Int)).f0 l[i] = true := by rw [rdColumn hi]; unfold colP; simp
  constructor
  · intro h
    rw [List.all_eq_true]
    intro j hj
    have hj := List.mem_range.1 hj
    unfold lone
    rw [rdColumn (show j < l.length by omega)]
    unfold colAt Giv.fidx at h
    cases hf : l.findIdx? (colP (rd_T96 l (i : Int)).f0) with
    | none => rw [hf] at h; simp only at h; omega
    | some m =>
      rw [hf] at h
      simp only at h
      have hm : m = i := by omega
      subst hm
      obtain ⟨_, _, h3⟩ := List.findIdx?_eq_some_iff_getElem.1 hf
      simpa using h3 j hj
  · intro h
    rw [List.all_eq_true] at h
    exact Giv.fidx_hit (List.getElem?_eq_getElem hi) hself (fun j x hj hx => by
      obtain ⟨h1, rfl⟩ := List.getElem?_eq_some_iff.1 hx
      have := h j (List.mem_range.2 hj)
      unfold lone at this
      rw [rdColumn h1] at this
      simpa using this)
theorem specT_in (l : List S96) (i : Nat) (hi : i < l.length) (r : Bool) (hl : l.length ≤ 1048576) (h : (List.range i).all (lone l i) = true → Ev (fun k => spec_IsTable.l0 k (wrap64 ((i : Int) + 1)) l) r) :
    Ev (fun k => spec_IsTable.l1 k (i : Int) 0 l (rd_T96 l (i : Int)).f0 (rd_T96 l (i : Int)).f1) ((List.range i).all (lone l i) && r) := by
  refine all_ev i (lone l i) r (fun k j => spec_IsTable.l1 k (i : Int) (j : Int) l (rd_T96 l (i : Int)).f0 (rd_T96 l (i : Int)).f1) ?_ ?_ ?_
  · intro j hj e
    refine ev_const (fun k => ?_)
    simp only [spec_IsTable.l1]
    unfold lone colP at e
    rw [if_pos (by omega), if_pos (by omega), if_pos (by omega), if_pos (by simpa using e)]
  · intro j hj r e h
    refine Ev.step (fun k => ?_) h
    simp only [spec_IsTable.l1]
    unfold lone colP at e
    rw [if_pos (by omega), if_pos (by omega), if_pos (by omega), if_neg (by simpa using e), wS (show j < i from hj) (by omega)]
  · intro hall
    refine Ev.step (fun k => ?_) (h (by rw [List.all_eq_true]; exact fun j hj => hall j (List.mem_range.1 hj)))
    simp only [spec_IsTable.l1]
    rw [if_neg (by omega)]
theorem specT_head (l : List S96) (i : Nat) (hi : i < l.length) (hl : l.length ≤ 1048576) (hz : ∀ z ∈ l, z.f0.size ≤ 1048576 ∧ z.f1.length ≤ 1048576) (r : Bool)
    (hf : colH l i = false → r = false) (ht : colH l i = true → Ev (fun k => spec_IsTable.l1 k (i : Int) 0 l (rd_T96 l (i : Int)).f0 (rd_T96 l (i : Int)).f1) r) : Ev (fun k => spec_IsTable.l0 k (i : Int) l) r := by
  have hm := hz _ (List.getElem_mem hi)
  have hj : colH l i = false → ∀ a b, Ev (fun k => spec_IsTable.j1 k (i : Int) true l a b) r := fun e a b => by
    rw [hf e]
    exact ev_const (fun k => by simp [spec_IsTable.j1])
  apply Ev.step
  · intro k; simp only [spec_IsTable.l0]; rfl
  refine ev_ifp (by omega) (ev_ifp (by omega) ?_)
  refine Ev.bind (specIsName_ev _ (by rw [rdColumn hi]; omega)) ?_
  cases h1 : isN (rd_T96 l (i : Int)).f0 with
  | false => exact ev_ifn (by simp) (hj (by unfold colH; rw [h1]; rfl) _ _)
  | true =>
    refine ev_ifp rfl (Ev.bind (specAreValues_ev _ (by rw [rdColumn hi]; omega)) ?_)
    cases h2 : areV (rd_T96 l (i : Int)).f1 with
    | false => exact ev_ifn (by simp) (hj (by unfold colH; rw [h1, h2]; rfl) _ _)
    | true =>
      refine ev_ifp rfl (ev_ifp (by omega) ?_)
      by_cases c : ((rd_T96 l (i : Int)).f1.length : Int) = ((rd_T96 l 0).f1.length : Int)
      · have hH : colH l i = true := by unfold colH; rw [h1, h2, decide_eq_true c]; rfl
        rw [show (((rd_T96 l (i : Int)).f1.length : Int) != ((rd_T96 l 0).f1.length : Int)) = false by simp [c]]
        refine Ev.step (fun k => ?_) (ht hH)
        simp only [spec_IsTable.j1]
        rw [if_neg (by simp)]
      · have hH : colH l i = false := by unfold colH; rw [h1, h2, decide_eq_false c]; rfl
        rw [show (((rd_T96 l (i : Int)).f1.length : Int) != ((rd_T96 l 0).f1.length : Int)) = true from bne_iff_ne.2 c]
        exact hj hH _ _
theorem specIsTable_ev (l : List S96) (hl : l.length ≤ 1048576) (hz : ∀ z ∈ l, z.f0.size ≤ 1048576 ∧ z.f1.length ≤ 1048576) : Ev (fun k => spec_IsTable.f k l) (isT l) := by
  unfold spec_IsTable.f isT
  refine ev_pure (l1In_eq _ _ _) ?_
  cases (decide (1 ≤ (l.length : Int)) && decide ((l.length : Int) ≤ 4)) with
  | false => exact ev_ifn (by simp) (ev_some _)
  | true =>
    refine ev_ifp rfl ?_
    rw [Bool.true_and]
    have := all_ev l.length (colOk l) true (fun k i => spec_IsTable.l0 k (i : Int) l) ?_ ?_ ?_
    · rw [Bool.and_true] at this; exact this
    · intro i hi e
      refine specT_head l i hi hl hz false (fun _ => rfl) (fun hH => ?_)
      unfold colOk at e
      rw [hH, Bool.true_and] at e
      exact ev_eq (specT_in l i hi false hl (fun h => by rw [e] at h; cases h)) (by simp)
    · intro i hi r e h
      unfold colOk at e
      rw [Bool.and_eq_true] at e
      exact specT_head l i hi hl hz r (fun hH => by rw [e.1] at hH; cases hH) (fun _ => ev_eq (specT_in l i hi r hl (fun _ => by rw [wS hi (by omega)]; exact h)) (by rw [e.2, Bool.true_and]))
    · intro _
      exact ev_const (fun k => by simp only [spec_IsTable.l0]; rw [if_neg (by omega)])
theorem implIsTable_ev (l : List S96) (hl : l.length ≤ 1048576) (hz : ∀ z ∈ l, z.f0.size ≤ 1048576 ∧ z.f1.length ≤ 1048576) : Ev (fun k => impl_IsTable.f k l) (isT l) := by
  unfold impl_IsTable.f isT
  rw [Bool.and_comm]
  refine all_ev l.length (colOk l) _ (fun k i => impl_IsTable.l0 k l (l.length : Int) (i : Int) l) ?_ ?_ ?_
  · intro i hi e
    have hm := hz _ (List.getElem_mem hi)
    apply Ev.step
    · intro k; simp only [impl_IsTable.l0, implAreValues, implFindColumn, Option.bind_some]; rfl
    refine ev_ifp (by omega) (ev_ifp (by omega) (ev_ifp (by omega) (Ev.bind (implIsName_ev _ (by rw [rdColumn hi]; omega)) ?_)))
    unfold colOk colH at e
    cases h1 : isN (rd_T96 l (i : Int)).f0 with
    | false => exact ev_ifn (by simp) (ev_some _)
    | true =>
      refine ev_ifp rfl ?_
      cases h2 : areV (rd_T96 l (i : Int)).f1 with
      | false => exact ev_ifn (by simp) (ev_some _)
      | true =>
        refine ev_ifp rfl (ev_ifp (by omega) ?_)
        by_cases c : ((rd_T96 l (i : Int)).f1.length : Int) = ((rd_T96 l 0).f1.length : Int)
        · refine ev_ifp c (ev_ifn (fun hx => ?_) (ev_some _))
          rw [h1, h2, decide_eq_true c, (colAt_first hi).1 hx] at e
          cases e
        · exact ev_ifn c (ev_some _)
  · intro i hi r e h
    have hm := hz _ (List.getElem_mem hi)
    unfold colOk colH at e
    simp only [Bool.and_eq_true, decide_eq_true_eq] at e
    apply Ev.step
    · intro k; simp only [impl_IsTable.l0, implAreValues, implFindColumn, Option.bind_some]; rfl
    refine ev_ifp (by omega) (ev_ifp (by omega) (ev_ifp (by omega) (Ev.bind (implIsName_ev _ (by rw [rdColumn hi]; omega)) (ev_ifp e.1.1 (ev_ifp e.1.2.1 (ev_ifp (by omega) (ev_ifp e.1.2.2 (ev_ifp ((colAt_first hi).2 e.2) ?_))))))))
    rw [wS hi (by omega)]
    exact h
  · intro _
    refine ev_const (fun k => ?_)
    simp only [impl_IsTable.l0]
    rw [if_neg (by omega)]
    by_cases h : (l.length : Int) ≥ 1
    · rw [if_pos h]
      have : 1 ≤ (l.length : Int) := h
      simp [this]
    · rw [if_neg h, decide_eq_false (show ¬ 1 ≤ (l.length : Int) from h), Bool.false_and]

theorem join_snoc (ws : List (List UInt8)) (w : List UInt8) : Lib.join (ws ++ [w]) [32] = if ws = [] then w else Lib.join ws [32] ++ 32 :: w := by
  cases ws with
  | nil => rw [List.nil_append, Lib.join_one, if_pos rfl]
  | cons x r => rw [List.cons_append, Lib.join_cons, Lib.join_cons, if_neg (by simp)]; simp [Lib.joinTail]
theorem flat_len (B : Nat) : ∀ ws : List (List UInt8), (∀ w ∈ ws, w.length < B) → (flat ws).length ≤ ws.length * B
  | [], _ => by simp [flat]
  | x :: r, h => by
    have ih := flat_len B r (fun w hw => h w (by simp [hw]))
    have hx := h x (by simp)
    have e : flat (x :: r) = 32 :: x ++ flat r := by simp [flat]
    rw [e, List.length_append, List.length_cons, List.length_cons, Nat.add_mul, Nat.one_mul]
    omega
theorem join_len (B : Nat) (ws : List (List UInt8)) (h : ∀ w ∈ ws, w.length < B) : (Lib.join ws [32]).length ≤ ws.length * B := by
  by_cases hz : ws = []
  · subst hz; simp [Lib.join_nil]
  · rw [join_flat ws hz, List.length_drop]
    have := flat_len B ws h
    omega
theorem size_list2 (s : ByteArray) : s.size = s.data.toList.length := (Array.length_toList (xs := s.data)).symm
theorem ba_bs (s : ByteArray) : bs s.data.toList = s := by
  apply ByteArray.ext
  simp [bs]
theorem tab_bounds {l : List S96} (h : isT l = true) : 1 ≤ l.length ∧ l.length ≤ 4 ∧ (rd_T96 l 0).f1.length ≤ 64 ∧
    ∀ j : Nat, j < l.length → (rd_T96 l (j : Int)).f1.length = (rd_T96 l 0).f1.length ∧ ∀ i : Nat, i < (rd_T96 l 0).f1.length → (rd (rd_T96 l (j : Int)).f1 (i : Int)).natAbs ≤ 999 := by
  unfold isT at h
  simp only [Bool.and_eq_true, decide_eq_true_eq, List.all_eq_true] at h
  have hc : ∀ j : Nat, j < l.length → areV (rd_T96 l (j : Int)).f1 = true ∧ (((rd_T96 l (j : Int)).f1.length : Int) = ((rd_T96 l 0).f1.length : Int)) := by
    intro j hj
    have := h.2 j (List.mem_range.2 hj)
    unfold colOk colH at this
    simp only [Bool.and_eq_true, decide_eq_true_eq] at this
    exact this.1.2
  have h0 := hc 0 (by omega)
  refine ⟨by omega, by omega, (areV_facts h0.1).1, fun j hj => ?_⟩
  have hj' := hc j hj
  refine ⟨by omega, fun i hi => ?_⟩
  have := (areV_facts hj'.1).2 i (by omega)
  omega
/-- The table's text, row by row. -/
def hdr (l : List S96) : List (List UInt8) := l.map fun c => c.f0.data.toList
def rowW (l : List S96) (i : Nat) : List (List UInt8) := l.map fun c => Lib.itoa (rd c.f1 (i : Int))
def tx (l : List S96) : Nat → List UInt8
  | 0 => Lib.join (hdr l) [32] ++ [10]
  | i + 1 => tx l i ++ (Lib.join (rowW l i) [32] ++ [10])
theorem take_snoc {α β : Type} (f : α → β) (l : List α) (j : Nat) (hj : j < l.length) : (l.take (j + 1)).map f = (l.take j).map f ++ [f l[j]] := by
  rw [List.take_succ_eq_append_getElem hj, List.map_append]; rfl
theorem wP (i : Nat) (h : i ≤ 1000000) : wrap64 ((i : Int) + 1) = ((i + 1 : Nat) : Int) := by rw [w64 (by omega) (by omega)]; omega
theorem lsp (s : List UInt8) : (bs s ++ (⟨#[32]⟩ : ByteArray)) = bs (s ++ [32]) := bs_app s [32]
theorem lnl (s : List UInt8) : (bs s ++ (⟨#[10]⟩ : ByteArray)) = bs (s ++ [10]) := bs_app s [10]
/-- One row of the reference's loop: x < 0: the names; else the x-th values. -/
theorem st_inner (l : List S96) (x : Int) (wd : S96 → List UInt8) (s : List UInt8) (r : ByteArray) (hl : l.length ≤ 4) (hs : s.length ≤ 100000000)
    (hw : ∀ j : Nat, (hj : j < l.length) → (wd l[j]).length ≤ 1048576)
    (hn : x < 0 → ∀ j : Nat, (hj : j < l.length) → l[j].f0 = bs (wd l[j]))
    (hr : ¬ x < 0 → ∀ j : Nat, (hj : j < l.length) → x < (l[j].f1.length : Int) ∧ wd l[j] = Lib.itoa (rd l[j].f1 x) ∧ (rd l[j].f1 x).natAbs ≤ 999)
    (h : Ev (fun q => spec_FormatTable.l0 q (bs (s ++ (Lib.join (l.map wd) [32] ++ [10]))) (wrap64 (x + 1)) l) r) :
    ∀ d j : Nat, l.length - j = d → j ≤ l.length → Ev (fun q => spec_FormatTable.l1 q (bs (s ++ Lib.join ((l.take j).map wd) [32])) x (j : Int) l) r := by
  have hjl : ∀ j, j ≤ l.length → (Lib.join ((l.take j).map wd) [32]).length ≤ 4 * 1048577 := by
    intro j hj
    have h1 := join_len 1048577 ((l.take j).map wd) (fun w hw' => by
      obtain ⟨c, hc, rfl⟩ := List.mem_map.1 hw'
      obtain ⟨m, hm, rfl⟩ := List.mem_iff_getElem.1 (List.mem_of_mem_take hc)
      have := hw m hm
      omega)
    rw [List.length_map, List.length_take] at h1
    have h2 : min j l.length * 1048577 ≤ 4 * 1048577 := Nat.mul_le_mul (by omega) (by omega)
    exact Nat.le_trans h1 h2
  intro d
  induction d with
  | zero =>
    intro j hd hj
    have e : j = l.length := by omega
    have hb := hjl j hj
    subst e
    rw [List.take_length] at hb ⊢
    refine Ev.step (fun q => ?_) h
    simp only [spec_FormatTable.l1]
    rw [if_neg (by omega), bs_size, if_pos (by rw [List.length_append]; omega), lnl, List.append_assoc]
  | succ d ih =>
    intro j hd hj
    have hlt : j < l.length := by omega
    have hb := hjl j hj
    have ih' := ih (j + 1) (by omega) (by omega)
    have hwj := hw j hlt
    rw [take_snoc wd l j hlt, join_snoc] at ih'
    generalize hA : Lib.join ((l.take j).map wd) [32] = A at ih' hb
    have hnil : ((l.take j).map wd = []) ↔ j = 0 := by
      constructor
      · intro e
        have := congrArg List.length e
        rw [List.length_map, List.length_take] at this
        simp only [List.length_nil] at this
        omega
      · rintro rfl; rfl
    have hsz : (bs (s ++ A)).size = s.length + A.length := by rw [bs_size, List.length_append]
    by_cases hj0 : j = 0
    · rw [if_pos (hnil.2 hj0)] at ih'
      have hAn : A = [] := by rw [← hA, hnil.2 hj0]; rfl
      subst hAn
      by_cases hx : x < 0
      · have hf := hn hx j hlt
        apply Ev.step
        · intro q; simp only [spec_FormatTable.l1]; rfl
        rw [rdColumn hlt, hf, wP j (by omega)]
        refine ev_ifp (by omega) (ev_ifn (by omega) (ev_ifp hx (ev_ifp (by omega) (ev_ifp (by rw [hsz, bs_size, List.length_nil]; omega) ?_))))
        rw [bs_app, List.append_nil]
        exact ih'
      · obtain ⟨q1, q2, q3⟩ := hr hx j hlt
        have lx := itoa_len2 (rd l[j].f1 x)
        apply Ev.step
        · intro q; simp only [spec_FormatTable.l1]; rfl
        rw [rdColumn hlt, wP j (by omega)]
        refine ev_ifp (by omega) (ev_ifn (by omega) (ev_ifn hx (ev_ifp (by omega) (ev_ifp (by omega) (ev_ifp q1 (Ev.bind (fs _ (by omega)) (ev_ifp (by rw [hsz, bs_size, List.length_nil]; omega) ?_)))))))
        rw [bs_app, List.append_nil, ← q2]
        exact ih'
    · rw [if_neg (fun e => hj0 (hnil.1 e))] at ih'
      by_cases hx : x < 0
      · have hf := hn hx j hlt
        apply Ev.step
        · intro q; simp only [spec_FormatTable.l1]; rfl
        rw [rdColumn hlt, hf, wP j (by omega)]
        refine ev_ifp (by omega) (ev_ifp (by omega) (ev_ifp (by rw [hsz]; omega) (ev_ifp hx (ev_ifp (by omega) (ev_ifp (by rw [lsp, bs_size, bs_size, List.length_append, List.length_append, List.length_singleton]; omega) ?_)))))
        rw [lsp, bs_app, show s ++ A ++ [32] ++ wd l[j] = s ++ (A ++ 32 :: wd l[j]) by simp]
        exact ih'
      · obtain ⟨q1, q2, q3⟩ := hr hx j hlt
        have lx := itoa_len2 (rd l[j].f1 x)
        apply Ev.step
        · intro q; simp only [spec_FormatTable.l1]; rfl
        rw [rdColumn hlt, wP j (by omega)]
        refine ev_ifp (by omega) (ev_ifp (by omega) (ev_ifp (by rw [hsz]; omega) (ev_ifn hx (ev_ifp (by omega) (ev_ifp (by omega) (ev_ifp q1 (Ev.bind (fs _ (by omega)) (ev_ifp (by rw [lsp, bs_size, bs_size, List.length_append, List.length_append, List.length_singleton]; omega) ?_))))))))
        rw [lsp, bs_app, ← q2, show s ++ A ++ [32] ++ wd l[j] = s ++ (A ++ 32 :: wd l[j]) by simp]
        exact ih'
theorem joinF (xs : List ByteArray) (ws : List (List UInt8)) (he : xs.map (·.data.toList) = ws) (hl : ws.length ≤ 100000) (hj : (Lib.join ws [32]).length ≤ 100000000) : strings_Join.f xs (⟨#[32]⟩ : ByteArray) = some (bs (Lib.join ws [32])) := by
  have hlen : xs.length = ws.length := by rw [← he, List.length_map]
  have c0 : (⟨#[32]⟩ : ByteArray).data.toList = [32] := rfl
  unfold strings_Join.f
  rw [c0, he, if_pos ⟨by omega, by omega⟩]
  rfl
theorem it_names (l : List S96) (r : ByteArray) (hl : l.length ≤ 4) (h1 : 1 ≤ l.length) (hw : ∀ j : Nat, (hj : j < l.length) → l[j].f0.size ≤ 1048576)
    (h : Ev (fun q => impl_FormatTable.l1 q (bs (tx l 0)) ((rd_T96 l 0).f1.length : Int) 0 l) r) :
    ∀ d j : Nat, l.length - j = d → j ≤ l.length → Ev (fun q => impl_FormatTable.l0 q ((l.take j).map (·.f0)) l (l.length : Int) (j : Int) l) r := by
  intro d
  induction d with
  | zero =>
    intro j hd hj
    have e : j = l.length := by omega
    subst e
    have hb := join_len 1048577 (hdr l) (fun w hw' => by
      obtain ⟨c, hc, rfl⟩ := List.mem_map.1 hw'
      obtain ⟨m, hm, rfl⟩ := List.mem_iff_getElem.1 hc
      have := hw m hm
      rw [size_list2] at this
      omega)
    have hh : (hdr l).length = l.length := by unfold hdr; rw [List.length_map]
    rw [hh] at hb
    have h2 : l.length * 1048577 ≤ 4 * 1048577 := Nat.mul_le_mul hl (by omega)
    have hjn := joinF (l.map (·.f0)) (hdr l) (by unfold hdr; rw [List.map_map]; rfl) (by omega) (by omega)
    rw [List.take_length]
    apply Ev.step
    · intro q; simp only [impl_FormatTable.l0]; rfl
    refine ev_ifn (by omega) (ev_pure hjn (ev_ifp (by rw [bs_size]; omega) (ev_ifp (by omega) ?_)))
    rw [lnl]
    exact h
  | succ d ih =>
    intro j hd hj
    have hlt : j < l.length := by omega
    have ih' := ih (j + 1) (by omega) (by omega)
    rw [take_snoc (·.f0) l j hlt] at ih'
    refine Ev.step (fun q => ?_) ih'
    simp only [impl_FormatTable.l0]
    rw [if_pos (by omega), if_pos (by omega), if_pos (by omega), if_pos (by rw [List.length_map, List.length_take]; omega), rdColumn hlt, wP j (by omega)]
theorem joined_ev (xs : List Int) (hl : xs.length ≤ 4) (hx : ∀ j : Nat, (hj : j < xs.length) → xs[j].natAbs ≤ 999) : Ev (fun q => impl_joined.f q xs (⟨#[32]⟩ : ByteArray)) (bs (Lib.join (xs.map Lib.itoa) [32])) := by
  unfold impl_joined.f
  have key : ∀ d j : Nat, xs.length - j = d → j ≤ xs.length → Ev (fun q => impl_joined.l0 q (⟨#[32]⟩ : ByteArray) (((xs.take j).map Lib.itoa).map bs) xs (xs.length : Int) (j : Int)) (bs (Lib.join (xs.map Lib.itoa) [32])) := by
    intro d
    induction d with
    | zero =>
      intro j hd hj
      have e : j = xs.length := by omega
      subst e
      rw [List.take_length]
      have hb := join_len 201 (xs.map Lib.itoa) (fun w hw' => by
        obtain ⟨c, hc, rfl⟩ := List.mem_map.1 hw'
        obtain ⟨m, hm, rfl⟩ := List.mem_iff_getElem.1 hc
        have := itoa_len2 xs[m]
        have := hx m hm
        omega)
      rw [List.length_map] at hb
      have h2 : xs.length * 201 ≤ 4 * 201 := Nat.mul_le_mul hl (by omega)
      have hjn := joinF ((xs.map Lib.itoa).map bs) (xs.map Lib.itoa) (map_bs _) (by rw [List.length_map]; omega) (by omega)
      apply Ev.step
      · intro q; simp only [impl_joined.l0]; rfl
      exact ev_ifn (by omega) (ev_pure hjn (ev_some _))
    | succ d ih =>
      intro j hd hj
      have hlt : j < xs.length := by omega
      have ih' := ih (j + 1) (by omega) (by omega)
      have hxj := hx j hlt
      rw [take_snoc Lib.itoa xs j hlt, List.map_append] at ih'
      apply Ev.step
      · intro q; simp only [impl_joined.l0]; rfl
      refine ev_ifp (by omega) (ev_ifp (by omega) (ev_ifp (by omega) ?_))
      rw [rd_nat hlt, wP j (by omega)]
      refine ev_pure (fi _ (by omega)) (ev_ifp (by rw [List.length_map, List.length_map, List.length_take]; omega) ?_)
      exact ih'
  exact key xs.length 0 (by omega) (by omega)
theorem it_row (l : List S96) (i : Nat) (s : List UInt8) (n : Int) (r : ByteArray) (hl : l.length ≤ 4) (hs : s.length ≤ 100000000) (hi : i ≤ 1000)
    (hr : ∀ j : Nat, (hj : j < l.length) → (i : Int) < (l[j].f1.length : Int) ∧ (rd l[j].f1 (i : Int)).natAbs ≤ 999)
    (h : Ev (fun q => impl_FormatTable.l1 q (bs (s ++ (Lib.join (rowW l i) [32] ++ [10]))) n ((i + 1 : Nat) : Int) l) r) :
    ∀ d j : Nat, l.length - j = d → j ≤ l.length → Ev (fun q => impl_FormatTable.l2 q (bs s) (i : Int) ((l.take j).map fun c => rd c.f1 (i : Int)) n (i : Int) l (l.length : Int) (j : Int) l) r := by
  intro d
  induction d with
  | zero =>
    intro j hd hj
    have e : j = l.length := by omega
    subst e
    rw [List.take_length]
    have hjd := joined_ev (l.map fun c => rd c.f1 (i : Int)) (by rw [List.length_map]; exact hl) (fun j hj => by
      rw [List.getElem_map]
      exact (hr j (by rw [List.length_map] at hj; exact hj)).2)
    have hrw : (l.map fun c => rd c.f1 (i : Int)).map Lib.itoa = rowW l i := by unfold rowW; rw [List.map_map]; rfl
    rw [hrw] at hjd
    have hb := join_len 201 (rowW l i) (fun w hw' => by
      obtain ⟨c, hc, rfl⟩ := List.mem_map.1 hw'
      obtain ⟨m, hm, rfl⟩ := List.mem_iff_getElem.1 hc
      have := itoa_len2 (rd l[m].f1 (i : Int))
      have := (hr m hm).2
      omega)
    have hh : (rowW l i).length = l.length := by unfold rowW; rw [List.length_map]
    rw [hh] at hb
    have h2 : l.length * 201 ≤ 4 * 201 := Nat.mul_le_mul hl (by omega)
    apply Ev.step
    · intro q; simp only [impl_FormatTable.l2]; rfl
    rw [wP i (by omega)]
    refine ev_ifn (by omega) (Ev.bind hjd (ev_ifp (by rw [bs_size]; omega) ?_))
    rw [lnl, bs_size, bs_size, bs_app]
    exact ev_ifp (by rw [List.length_append, List.length_singleton]; omega) h
  | succ d ih =>
    intro j hd hj
    have hlt : j < l.length := by omega
    have ih' := ih (j + 1) (by omega) (by omega)
    have hq := (hr j hlt).1
    rw [take_snoc (fun c => rd c.f1 (i : Int)) l j hlt] at ih'
    refine Ev.step (fun q => ?_) ih'
    simp only [impl_FormatTable.l2]
    rw [if_pos (by omega), if_pos (by omega), if_pos (by omega), rdColumn hlt, if_pos (by omega), if_pos hq, if_pos (by rw [List.length_map, List.length_take]; omega), wP j (by omega)]
theorem table_text (l : List S96) (hl : l.length ≤ 1048576) (hz : ∀ z ∈ l, z.f0.size ≤ 1048576 ∧ z.f1.length ≤ 1048576) :
    ∃ r, Ev (fun q => spec_FormatTable.f q l) r ∧ Ev (fun q => impl_FormatTable.f q l) r := by
  have s1 := specIsTable_ev l hl hz
  have s2 := implIsTable_ev l hl hz
  unfold spec_FormatTable.f impl_FormatTable.f
  cases hc : isT l with
  | false =>
    rw [hc] at s1 s2
    exact ⟨⟨#[]⟩, Ev.bind s1 (ev_ifn (by simp) (ev_some _)), Ev.bind s2 (ev_ifn (by simp) (ev_some _))⟩
  | true =>
    rw [hc] at s1 s2
    obtain ⟨b1, b2, b3, b4⟩ := tab_bounds hc
    have hrc : Ev (fun q => spec_RowCount.f q l) ((rd_T96 l 0).f1.length : Int) := by
      unfold spec_RowCount.f
      exact Ev.bind s1 (ev_ifp rfl (ev_ifp (by omega) (ev_some _)))
    generalize hN : (rd_T96 l 0).f1.length = N at b3 b4 hrc
    have hf0 : ∀ j : Nat, (hj : j < l.length) → l[j].f0.size ≤ 1048576 := fun j hj => (hz _ (List.getElem_mem hj)).1
    have hlen : ∀ j : Nat, (hj : j < l.length) → l[j].f1.length = N := fun j hj => by have := (b4 j hj).1; rw [rdColumn hj] at this; exact this
    have hval : ∀ i : Nat, i < N → ∀ j : Nat, (hj : j < l.length) → (rd l[j].f1 (i : Int)).natAbs ≤ 999 := fun i hi j hj => by have := (b4 j hj).2 i hi; rw [rdColumn hj] at this; exact this
    have htx : ∀ i : Nat, i ≤ N → (tx l i).length ≤ 4194309 + 900 * i := by
      intro i
      induction i with
      | zero =>
        intro _
        have hb := join_len 1048577 (hdr l) (fun w hw' => by
          obtain ⟨c, hc, rfl⟩ := List.mem_map.1 hw'
          obtain ⟨m, hm, rfl⟩ := List.mem_iff_getElem.1 hc
          have := hf0 m hm
          rw [size_list2] at this
          omega)
        have hh : (hdr l).length = l.length := by unfold hdr; rw [List.length_map]
        rw [hh] at hb
        have h2 : l.length * 1048577 ≤ 4 * 1048577 := Nat.mul_le_mul b2 (by omega)
        unfold tx
        rw [List.length_append, List.length_singleton]; omega
      | succ i ih =>
        intro hi
        have := ih (by omega)
        have hb := join_len 201 (rowW l i) (fun w hw' => by
          obtain ⟨c, hc, rfl⟩ := List.mem_map.1 hw'
          obtain ⟨m, hm, rfl⟩ := List.mem_iff_getElem.1 hc
          have := itoa_len2 (rd l[m].f1 (i : Int))
          have := hval i (by omega) m hm
          omega)
        have hh : (rowW l i).length = l.length := by unfold rowW; rw [List.length_map]
        rw [hh] at hb
        have h2 : l.length * 201 ≤ 4 * 201 := Nat.mul_le_mul b2 (by omega)
        unfold tx
        rw [List.length_append, List.length_append, List.length_singleton]; omega
    have hrows : ∀ d i : Nat, N - i = d → i ≤ N → Ev (fun q => spec_FormatTable.l0 q (bs (tx l i)) (i : Int) l) (bs (tx l N)) ∧ Ev (fun q => impl_FormatTable.l1 q (bs (tx l i)) (N : Int) (i : Int) l) (bs (tx l N)) := by
      intro d
      induction d with
      | zero =>
        intro i hd hi
        have e : i = N := by omega
        subst e
        constructor
        · apply Ev.step
          · intro q; simp only [spec_FormatTable.l0]; rfl
          exact Ev.bind hrc (ev_ifn (by omega) (ev_some _))
        · refine ev_const (fun q => ?_)
          simp only [impl_FormatTable.l1]
          rw [if_neg (by omega)]
      | succ d ih =>
        intro i hd hi
        have hlt : i < N := by omega
        obtain ⟨i1, i2⟩ := ih (i + 1) (by omega) (by omega)
        have ht := htx i hi
        constructor
        · have hin := st_inner l (i : Int) (fun c => Lib.itoa (rd c.f1 (i : Int))) (tx l i) (bs (tx l N)) b2 (by omega)
            (fun j hj => by have := itoa_len2 (rd l[j].f1 (i : Int)); have := hval i hlt j hj; omega) (fun hx => by omega)
            (fun _ j hj => ⟨by have := hlen j hj; omega, rfl, hval i hlt j hj⟩) (by rw [wP i (by omega)]; exact i1) l.length 0 (by omega) (by omega)
          rw [List.take_zero, List.map_nil, Lib.join_nil, List.append_nil] at hin
          apply Ev.step
          · intro q; simp only [spec_FormatTable.l0]; rfl
          exact Ev.bind hrc (ev_ifp (by omega) hin)
        · have hin := it_row l i (tx l i) (N : Int) (bs (tx l N)) b2 (by omega) (by omega) (fun j hj => ⟨by have := hlen j hj; omega, hval i hlt j hj⟩) i2 l.length 0 (by omega) (by omega)
          refine Ev.step (fun q => ?_) hin
          simp only [impl_FormatTable.l1]
          rw [if_pos (by omega)]
          rfl
    obtain ⟨g1, g2⟩ := hrows N 0 (by omega) (by omega)
    refine ⟨bs (tx l N), Ev.bind s1 (ev_ifp rfl ?_), Ev.bind s2 (ev_ifp rfl ?_)⟩
    · have hin := st_inner l (-1) (fun c => c.f0.data.toList) [] (bs (tx l N)) b2 (by simp)
        (fun j hj => by have := hf0 j hj; rw [size_list2] at this; exact this) (fun _ j hj => (ba_bs _).symm) (fun hx => by omega) (by rw [show wrap64 (-1 + 1) = ((0 : Nat) : Int) from w64 (by omega) (by omega)]; exact g1) l.length 0 (by omega) (by omega)
      rw [List.take_zero, List.map_nil, Lib.join_nil, List.append_nil] at hin
      apply Ev.step
      · intro q; simp only [spec_FormatTable.l0]; rfl
      exact Ev.bind hrc (ev_ifp (by omega) hin)
    · refine it_names l (bs (tx l N)) b2 b1 hf0 ?_ l.length 0 (by omega) (by omega)
      rw [hN]
      exact g2


end Go.Proofs.YtjgfbamloldkfaaDoor.Pure.FnExactFormatTable
namespace Go.Proofs.YtjgfbamloldkfaaDoor.Pure
open Go.RowKit Go.Proofs.YtjgfbamloldkfaaDoor.PFnExactFormatTable Go.Proofs.YtjgfbamloldkfaaDoorW.PrintWords Go.Proofs.YtjgfbamloldkfaaDoorW.PrintLast Go.Proofs.YtjgfbamloldkfaaDoorW.PrintMore Go.Proofs.YtjgfbamloldkfaaDoor.B Go.Proofs.YtjgfbamloldkfaaDoor.Pure.FnExactFormatTable
theorem FnExactFormatTable : ∀ (l0_0 : List S128), (l0_0.length ≤ maxLen ∧ ∀ z ∈ l0_0, (z.f0.size ≤ maxLen ∧ (z.f1.length ≤ maxLen ∧ ∀ zz ∈ z.f1, (Lit.int .i64 zz).wf = true))) → ∃ k, laws_FnExactFormatTable.f k l0_0 = some true := by
  intro l ⟨hl, hz⟩
  refine Ev.rounds (g := fun k => laws_FnExactFormatTable.f k l) ?_
  unfold laws_FnExactFormatTable.f
  obtain ⟨t, ht, hc⟩ := szTable_at l hl (fun z h => ⟨(hz z h).1, (hz z h).2.1⟩)
  refine Ev.bind ht ?_
  rcases hc with hc | ⟨h0, h1, h2⟩
  · exact ev_ifp hc (ev_some _)
  refine ev_ifn (by omega) ?_
  have hm : (l.map cvColumn).length ≤ 1048576 := by simpa using h1
  have hq := cvColumn_all h2
  obtain ⟨r, e1, e2⟩ := table_text (l.map cvColumn) hm hq
  refine Ev.bind (toTable_ev l h1 h2) ?_
  refine Ev.bind e1 ?_
  refine Ev.bind (toTable_ev l h1 h2) ?_
  refine Ev.bind e2 ?_
  refine ev_ifp rfl ?_
  refine Ev.bind (toTable_ev l h1 h2) ?_
  refine Ev.bind (eqTable_ev (l.map cvColumn) (by omega) (fun z h => by have := (hq z h).2; omega)) ?_
  exact ev_ifp rfl (ev_some _)

end Go.Proofs.YtjgfbamloldkfaaDoor.Pure
