/- At most half of the elements are less than the median and at most half are greater; the median, the choice of a pivot, the levels, the next seed and the sorted numbers are the reference's, at all that is drawn from a code. No condition. -/
import Derived.Test.YtlikcmonejefoacPFnMediansx0
import Derived.Test.YtlikcmonejefoacPFnMediansx1
import Derived.Test.YtlikcmonejefoacPFnMediansx2
import Derived.Test.YtlikcmonejefoacPFnMediansx3
import Derived.Test.YtlikcmonejefoacPFnMediansx4
import Derived.Test.YtlikcmonejefoacPFnMediansx5
import Derived.Test.YtlikcmonejefoacPFnMediansx6
import Derived.Test.YtlikcmonejefoacPFnMediansx7
import Derived.Test.YtlikcmonejefoacPFnMediansx8
import Derived.Test.YtlikcmonejefoacPFnMediansx9
import Derived.Test.YtlikcmonejefoacPFnMediansx10
import Derived.Test.YtlikcmonejefoacPFnMediansx11
import Derived.Test.YtlikcmonejefoacPFnMediansx12
import Derived.Test.YtlikcmonejefoacPFnMediansx13
import Derived.Test.YtlikcmonejefoacPFnMediansx14
import Derived.Test.YtlikcmonejefoacPFnMediansx15
import Derived.Test.YtlikcmonejefoacPFnMediansx16
import Derived.Test.YtlikcmonejefoacPFnMediansx17
import Derived.Test.YtlikcmonejefoacB
set_option linter.unusedVariables false
set_option linter.unusedSimpArgs false
namespace Go.Proofs.Ytlikcmonejefoac.Pure.FnMedians
open Go.RowKit Go.Proofs.Ytlikcmonejefoac.PFnMedians Go.Proofs.YtlikcmonejefoacW.PrintWords Go.Proofs.YtlikcmonejefoacW.PrintLast Go.Proofs.YtlikcmonejefoacW.PrintMore Go.Proofs.Ytlikcmonejefoac.B

def srt (l : List Int) : List Int := l.mergeSort fun x y => decide (x ≤ y)
theorem srt_len (l : List Int) : (srt l).length = l.length := List.length_mergeSort _
theorem srt_unique {x l : List Int} (hp : x.Perm l) (hs : x.Pairwise (· ≤ ·)) : x = srt l := by
  refine List.Perm.eq_of_pairwise (le := (· ≤ ·)) (fun a b _ _ h1 h2 => Int.le_antisymm h1 h2) hs ?_ (hp.trans (List.mergeSort_perm l _).symm)
  have := List.pairwise_mergeSort (le := fun x y : Int => decide (x ≤ y)) (fun a b c h1 h2 => by simp at *; omega) (fun a b => by simp; omega) l
  exact this.imp (fun h => by simpa using h)
theorem implSort {l : List Int} (h : l.length ≤ 1048576) : impl_SortInts.f l = some (srt l) := by
  unfold impl_SortInts.f
  rw [if_pos (by omega)]
  rfl
def at_ (x : List Int) (p : Nat) : Int := rd x (p : Int)
theorem at_get {x : List Int} {p : Nat} (h : p < x.length) : at_ x p = x[p] := rd_nat h
theorem at_set {x : List Int} {i p : Nat} {v : Int} (hp : p < x.length) : at_ (x.set i v) p = if i = p then v else at_ x p := by
  rw [at_get (by simpa using hp), at_get hp, List.getElem_set]
/-- The places before i lie in order. -/
def upto (x : List Int) (i : Nat) : Prop := ∀ p q, p < q → q < i → q < x.length → at_ x p ≤ at_ x q
/-- The places before i + 1 lie in order but for place j, which is no more than what lies behind it. -/
def hole (x : List Int) (i j : Nat) : Prop := (∀ p q, p < q → q ≤ i → p ≠ j → q ≠ j → at_ x p ≤ at_ x q) ∧ ∀ q, j < q → q ≤ i → at_ x j ≤ at_ x q
theorem sortIn_l1 (l : List Int) (hl : l.length ≤ 1048576) (i : Nat) (hi : i < l.length) (hout : ∀ x : List Int, x.Perm l → upto x (i + 1) → Ev (fun k => spec_SortInts.l0 k x ((i + 1 : Nat) : Int)) (srt l)) :
    ∀ (j : Nat) (x : List Int), j ≤ i → x.Perm l → hole x i j → Ev (fun k => spec_SortInts.l1 k x (i : Int) (j : Int)) (srt l) := by
  intro j
  induction j with
  | zero =>
    intro x _ hp hh
    have hx := hp.length_eq
    refine Ev.step (fun k => ?_) (hout x hp (fun p q h1 h2 h3 => ?_))
    · simp only [spec_SortInts.l1]
      rw [if_neg (by omega), wS hi (by omega)]
    · by_cases e : p = 0
      · subst e; exact hh.2 q h1 (by omega)
      · exact hh.1 p q h1 (by omega) e (by omega)
  | succ j ih =>
    intro x hj hp hh
    have hx := hp.length_eq
    have hw : wrap64 (((j + 1 : Nat) : Int) - 1) = (j : Int) := by rw [w64 (by omega) (by omega)]; omega
    have e1 : rd x (j : Int) = at_ x j := rfl
    have e2 : rd x ((j + 1 : Nat) : Int) = at_ x (j + 1) := rfl
    by_cases c : at_ x j > at_ x (j + 1)
    · have hperm : ((x.set j (at_ x (j + 1))).set (j + 1) (at_ x j)).Perm l := by
        rw [at_get (show j + 1 < x.length by omega), at_get (show j < x.length by omega)]
        exact (List.set_set_perm (by omega) (by omega)).trans hp
      have hat : ∀ p, p < x.length → at_ ((x.set j (at_ x (j + 1))).set (j + 1) (at_ x j)) p = if j + 1 = p then at_ x j else if j = p then at_ x (j + 1) else at_ x p := by
        intro p h
        rw [at_set (by simpa using h), at_set h]
      refine Ev.step (fun k => ?_) (ih _ (by omega) hperm ⟨fun p q h1 h2 h3 h4 => ?_, fun q h1 h2 => ?_⟩)
      · simp only [spec_SortInts.l1]
        rw [hw, if_pos (by omega), if_pos (by omega), if_pos (by omega), if_pos (by omega), if_pos (by omega), e1, e2, if_pos c]
        unfold spec_l5Swap.f
        rw [if_pos (by omega), if_pos (by omega), if_pos (by omega), if_pos (by omega), Option.bind_some, Int.toNat_natCast, Int.toNat_natCast]
        rfl
      · rw [hat p (by omega), hat q (by omega)]
        by_cases eq : j + 1 = q
        · rw [if_pos eq, if_neg (by omega), if_neg (by omega)]
          exact hh.1 p j (by omega) (by omega) (by omega) (by omega)
        · rw [if_neg eq, if_neg (show ¬ j = q by omega)]
          by_cases ep : j + 1 = p
          · rw [if_pos ep]
            exact hh.1 j q (by omega) h2 (by omega) (by omega)
          · rw [if_neg ep, if_neg (by omega)]
            exact hh.1 p q h1 h2 (by omega) (by omega)
      · rw [hat j (by omega), hat q (by omega), if_neg (by omega), if_pos rfl]
        by_cases eq : j + 1 = q
        · rw [if_pos eq]; omega
        · rw [if_neg eq, if_neg (by omega)]
          exact hh.2 q (by omega) h2
    · refine Ev.step (fun k => ?_) (hout x hp (fun p q h1 h2 h3 => ?_))
      · simp only [spec_SortInts.l1]
        rw [hw, if_pos (by omega), if_pos (by omega), if_pos (by omega), if_pos (by omega), if_pos (by omega), e1, e2, if_neg c, wS hi (by omega)]
      · by_cases eq : q = j + 1
        · subst eq
          by_cases ep : p = j
          · subst ep; omega
          · have := hh.1 p j (by omega) (by omega) (by omega) (by omega)
            omega
        · by_cases ep : p = j + 1
          · subst ep; exact hh.2 q h1 (by omega)
          · exact hh.1 p q h1 (by omega) ep eq
theorem sort_l0 (l : List Int) (hl : l.length ≤ 1048576) : ∀ (d i : Nat) (x : List Int), l.length ≤ i + d → x.Perm l → upto x i → Ev (fun k => spec_SortInts.l0 k x (i : Int)) (srt l) := by
  intro d
  induction d with
  | zero =>
    intro i x hd hp hu
    have hx := hp.length_eq
    have : x = srt l := srt_unique hp (List.pairwise_iff_getElem.2 (fun a b ha hb hab => by
      have := hu a b hab (by omega) hb
      rw [at_get ha, at_get hb] at this
      exact this))
    rw [← this]
    exact ev_const (fun k => by simp only [spec_SortInts.l0]; rw [if_neg (by omega)])
  | succ d ih =>
    intro i x hd hp hu
    by_cases c : l.length ≤ i + d
    · exact ih i x c hp hu
    · have hx := hp.length_eq
      have hi : i < l.length := by omega
      refine Ev.step (fun k => ?_) (sortIn_l1 l hl i hi (fun y hy hyu => ih (i + 1) y (by omega) hy hyu) i x (Nat.le_refl _) hp ⟨fun p q h1 h2 h3 h4 => hu p q h1 (by omega) (by omega), fun q h1 h2 => by omega⟩)
      simp only [spec_SortInts.l0]
      rw [if_pos (by omega)]
theorem specSort_ev (l : List Int) (hl : l.length ≤ 1048576) : Ev (fun k => spec_SortInts.f k l) (srt l) := by
  unfold spec_SortInts.f
  refine ev_pure rfl (ev_ifp (by simp; omega) ?_)
  exact sort_l0 l hl l.length 1 l (by omega) (List.Perm.refl l) (fun p q h1 h2 _ => by omega)

theorem median_same (l : List Int) (hl : l.length ≤ 1048576) : ∃ r, Ev (fun k => spec_MedianOf.f k l) r ∧ impl_MedianOf.f l = some r := by
  unfold spec_MedianOf.f impl_MedianOf.f
  by_cases h0 : (l.length : Int) = 0
  · exact ⟨0, ev_ifp h0 (ev_some _), by rw [if_pos h0]⟩
  by_cases h1 : (l.length : Int) > 64
  · exact ⟨0, ev_ifn h0 (ev_ifp h1 (ev_some _)), by rw [if_neg h0, if_pos h1]⟩
  have hx := srt_len l
  have hw : wrap64 (Int.tdiv (wrap64 ((l.length : Int) - 1)) 2) = ((l.length : Int) - 1) / 2 := by
    rw [w64 (n := (l.length : Int) - 1) (by omega) (by omega), tdiv_nn (by omega), w64 (by omega) (by omega)]
  rw [hw]
  exact ⟨_, ev_ifn h0 (ev_ifn h1 (Ev.bind (specSort_ev l hl) (ev_ifp (by omega) (ev_ifp (by omega) (ev_some _))))), by rw [if_neg h0, if_neg h1, implSort hl, Option.bind_some, if_pos (by omega), if_pos (by omega)]⟩

/-- A loop that ends false at the first round that is not ok, and goes on with r behind the last. -/
theorem all_ev (n : Nat) (ok : Nat → Bool) (r : Bool) (g : Nat → Nat → Option Bool) (hf : ∀ i, i < n → ok i = false → Ev (fun k => g k i) false)
    (ht : ∀ i, i < n → ∀ r, ok i = true → Ev (fun k => g k (i + 1)) r → Ev (fun k => g k i) r) (he : (∀ i, i < n → ok i = true) → Ev (fun k => g k n) r) :
    Ev (fun k => g k 0) ((List.range n).all ok && r) := by
  refine loop_ev n (fun i => ∀ j, j < i → ok j = true) g _ (fun j h => absurd h (Nat.not_lt_zero _)) ?_ ?_
  · intro i hi hc ih
    cases e : ok i with
    | true =>
      refine ht i hi _ e (ih (fun j hj => ?_))
      by_cases h : j = i
      · rw [h]; exact e
      · exact hc j (by omega)
    | false =>
      have : (List.range n).all ok = false := by
        rw [List.all_eq_false]
        exact ⟨i, List.mem_range.2 hi, by simp [e]⟩
      rw [this, Bool.false_and]
      exact hf i hi e
  · intro hc
    have : (List.range n).all ok = true := by
      rw [List.all_eq_true]
      exact fun i hi => hc i (List.mem_range.1 hi)
    rw [this, Bool.true_and]
    exact he hc

theorem l1In_eq (x a b : Int) : spec_l1In.f x a b = some (decide (a ≤ x) && decide (x ≤ b)) := by
  unfold spec_l1In.f
  by_cases h : x ≥ a
  · rw [if_pos h]
    have : a ≤ x := h
    simp [this]
  · rw [if_neg h]
    have : ¬ a ≤ x := h
    simp [this]

def areV (l : List Int) : Bool := decide (l.length ≤ 64) && l.all (fun x => decide (-999 ≤ x) && decide (x ≤ 999))

theorem specAreValues_ev (l : List Int) (hl : l.length ≤ 4611686018427387904) : Ev (fun k => spec_AreValues.f k l) (areV l) := by
  unfold spec_AreValues.f
  refine loop_ev l.length (fun i => ∀ j (h : j < l.length), j < i → (decide (-999 ≤ l[j]) && decide (l[j] ≤ 999)) = true) (fun k i => spec_AreValues.l0 k l (i : Int)) (areV l) (fun j _ h => absurd h (Nat.not_lt_zero _)) ?_ ?_
  · intro i hi hc ih
    cases e : (decide (-999 ≤ l[i]) && decide (l[i] ≤ 999)) with
    | true =>
      refine Ev.step (fun k => ?_) (ih (fun j h hj => ?_))
      · simp only [spec_AreValues.l0]
        rw [if_pos (by omega), if_pos (by omega), rd_nat hi]
        have e2 : spec_l1In.f l[i] (-999) 999 = some true := by
          simp at e
          unfold spec_l1In.f
          rw [if_pos (by omega)]
          simp [e.2]
        rw [e2, Option.bind_some, if_pos rfl, wS hi (by omega)]
      · by_cases hji : j = i
        · subst hji; exact e
        · exact hc j h (by omega)
    | false =>
      refine ev_const (fun k => ?_)
      simp only [spec_AreValues.l0]
      rw [if_pos (by omega), if_pos (by omega), rd_nat hi]
      have e2 : spec_l1In.f l[i] (-999) 999 = some false := by
        unfold spec_l1In.f
        by_cases c : l[i] ≥ -999
        · rw [if_pos c]
          have c2 : -999 ≤ l[i] := c
          simp [c2] at e
          simp; omega
        · rw [if_neg c]
      rw [e2, Option.bind_some, if_neg (by simp)]
      unfold areV
      rw [all_false_at _ l i hi e, Bool.and_false]
  · intro hc
    refine ev_const (fun k => ?_)
    simp only [spec_AreValues.l0]
    rw [if_neg (by omega)]
    unfold areV
    rw [all_take_true _ l (fun i h => hc i h h), Bool.and_true]
    congr 1
    simp
    omega

theorem within_all (l : List Int) (a b : Int) : impl_within.f l a b = some (l.all fun x => decide (a ≤ x) && decide (x ≤ b)) := by
  unfold impl_within.f
  rw [List.not_any_eq_all_not]
  congr 2
  funext x
  by_cases h1 : x < a <;> by_cases h2 : b < x <;> simp [h1, h2] <;> omega
theorem implAreValues (l : List Int) : impl_AreValues.f l = some (areV l) := by
  unfold impl_AreValues.f areV
  by_cases h : (l.length : Int) ≤ 64
  · rw [if_pos h, within_all, Option.bind_some]
    have : l.length ≤ 64 := by omega
    simp [this]
  · rw [if_neg h]
    have : ¬ l.length ≤ 64 := by omega
    simp [this]

def rowAt (l : List Int) (v : Int) : Int := match l.findIdx? (fun x => x == v) with | some i => (i : Int) | none => -1
theorem rowAt_hit {l : List Int} {v : Int} {i : Nat} (hi : i < l.length) (he : l[i] = v) (hb : ∀ j (h : j < l.length), j < i → l[j] ≠ v) : rowAt l v = (i : Int) := by
  have : l.findIdx? (fun x => x == v) = some i := by
    rw [List.findIdx?_eq_some_iff_getElem]
    exact ⟨hi, by simp [he], fun j hj => by simp [hb j (by omega) hj]⟩
  unfold rowAt
  rw [this]
theorem rowAt_miss {l : List Int} {v : Int} (hb : ∀ j (h : j < l.length), l[j] ≠ v) : rowAt l v = -1 := by
  have : l.findIdx? (fun x => x == v) = none := by
    rw [List.findIdx?_eq_none_iff]
    intro x hx
    obtain ⟨j, hj, rfl⟩ := List.mem_iff_getElem.1 hx
    simp [hb j hj]
  unfold rowAt
  rw [this]
theorem rowAt_cases (l : List Int) (v : Int) : (rowAt l v = -1 ∧ v ∉ l) ∨ (∃ i, ∃ h : i < l.length, rowAt l v = (i : Int) ∧ l[i] = v) := by
  unfold rowAt
  cases h : l.findIdx? (fun x => x == v) with
  | none =>
    rw [List.findIdx?_eq_none_iff] at h
    exact .inl ⟨rfl, fun hv => by have := h v hv; simp at this⟩
  | some i =>
    obtain ⟨h1, h2, _⟩ := List.findIdx?_eq_some_iff_getElem.1 h
    exact .inr ⟨i, h1, rfl, by simpa using h2⟩
theorem rowAt_neg (l : List Int) (v : Int) : rowAt l v < 0 ↔ v ∉ l := by
  rcases rowAt_cases l v with ⟨h, hv⟩ | ⟨i, hi, h, he⟩
  · rw [h]; simp [hv]
  · rw [h]
    have : v ∈ l := he ▸ List.getElem_mem hi
    simp [this] <;> omega

theorem index_ev (r : List Int) (q : Int) (hl : r.length ≤ 4611686018427387904) : Ev (fun k => slices_Index_int_int.f k r q) (rowAt r q) := by
  unfold slices_Index_int_int.f
  refine loop_ev r.length (fun i => ∀ j (h : j < r.length), j < i → r[j] ≠ q) (fun k i => slices_Index_int_int.l0 k r q (r.length : Int) (i : Int)) _ (fun j _ h => absurd h (Nat.not_lt_zero _)) ?_ ?_
  · intro i hi hc ih
    by_cases e : r[i] = q
    · refine ev_const (fun k => ?_)
      simp only [slices_Index_int_int.l0]
      rw [if_pos (by omega), if_pos (by omega), if_pos (by omega), rd_nat hi, if_pos e.symm, rowAt_hit hi e hc]
    · refine Ev.step (fun k => ?_) (ih (fun j h hj => ?_))
      · simp only [slices_Index_int_int.l0]
        rw [if_pos (by omega), if_pos (by omega), if_pos (by omega), rd_nat hi, if_neg (fun h => e h.symm), wS hi (by omega)]
      · by_cases hji : j = i
        · subst hji; exact e
        · exact hc j h (by omega)
  · intro hc
    refine ev_const (fun k => ?_)
    simp only [slices_Index_int_int.l0]
    rw [if_neg (by omega), rowAt_miss (fun j h => hc j h h)]

theorem bound_eq (x : Int) : impl_bound.f x = some (decide (-1000 ≤ x) && decide (x ≤ 1000)) := by
  unfold impl_bound.f
  by_cases h : x ≥ -1000
  · rw [if_pos h]
    have : -1000 ≤ x := h
    simp [this]
  · rw [if_neg h]
    have : ¬ -1000 ≤ x := h
    simp [this]
/-- Is the k-th pivot's head in order: its value, its place, and both against the pivot before it? -/
def ph (n : Int) (P : List S90) (k : Nat) : Bool :=
  (decide (-1000 ≤ (rd_T90 P (k : Int)).f0) && decide ((rd_T90 P (k : Int)).f0 ≤ 1000)) && (decide (0 ≤ (rd_T90 P (k : Int)).f1) && decide ((rd_T90 P (k : Int)).f1 ≤ n)) &&
  !(decide (0 < k) && (decide ((rd_T90 P (k : Int)).f0 ≤ (rd_T90 P ((k : Int) - 1)).f0) || decide ((rd_T90 P (k : Int)).f1 < (rd_T90 P ((k : Int) - 1)).f1)))
/-- Do the values lie on their side of a pivot? -/
def pbi (V : List Int) (v at_ : Int) (i : Nat) : Bool := decide (rd V (i : Int) < v) == decide ((i : Int) < at_)
def pb (V : List Int) (v at_ : Int) : Bool := (List.range V.length).all (pbi V v at_)
def pok (V : List Int) (P : List S90) (k : Nat) : Bool := ph (V.length : Int) P k && pb V (rd_T90 P (k : Int)).f0 (rd_T90 P (k : Int)).f1
def pall (V : List Int) (P : List S90) : Bool := (List.range P.length).all (pok V P)
theorem w_pred {i : Nat} (h0 : 0 < i) (h : i ≤ 4611686018427387904) : wrap64 ((i : Int) - 1) = (i : Int) - 1 := w64 (by omega) (by omega)
theorem specP_step (V : List Int) (P : List S90) (i : Nat) (hi : i < P.length) (hl : P.length ≤ 4611686018427387904) (k : Nat) :
    spec_l4Pivots.l0 (k + 1) V P (i : Int) = spec_l4Pivots.j1 k V P (i : Int) (!ph (V.length : Int) P i) (rd_T90 P (i : Int)).f0 (rd_T90 P (i : Int)).f1 := by
  simp only [spec_l4Pivots.l0, l1In_eq, Option.bind_some]
  rw [if_pos (by omega), if_pos (by omega)]
  unfold ph
  generalize (rd_T90 P (i : Int)).f0 = v
  generalize (rd_T90 P (i : Int)).f1 = a
  cases hA : (decide (-1000 ≤ v) && decide (v ≤ 1000)) with
  | false => rw [if_neg (by simp)]; simp
  | true =>
    rw [if_pos rfl]
    cases hB : (decide (0 ≤ a) && decide (a ≤ (V.length : Int))) with
    | false => rw [if_neg (by simp)]; simp
    | true =>
      rw [if_pos rfl]
      by_cases h0 : 0 < i
      · rw [if_pos (by omega), w_pred h0 (by omega), if_pos (by omega), if_pos (by omega)]
        by_cases hv : v ≤ (rd_T90 P ((i : Int) - 1)).f0
        · rw [if_pos hv]; simp [hv, h0]
        · rw [if_neg hv]; simp [hv, h0]
      · rw [if_neg (by omega)]; simp [h0]
theorem implP_step (V R : List Int) (P : List S90) (i : Nat) (hi : i < P.length) (hl : P.length ≤ 4611686018427387904) (k : Nat) :
    impl_IsCracker.l1 (k + 1) P (P.length : Int) (i : Int) V R P = impl_IsCracker.j3 k P (P.length : Int) (i : Int) (!ph (V.length : Int) P i) V R P (rd_T90 P (i : Int)).f0 (rd_T90 P (i : Int)).f1 := by
  simp only [impl_IsCracker.l1, bound_eq, Option.bind_some]
  rw [if_pos (by omega), if_pos (by omega), if_pos (by omega)]
  unfold ph
  generalize (rd_T90 P (i : Int)).f0 = v
  generalize (rd_T90 P (i : Int)).f1 = a
  cases hA : (decide (-1000 ≤ v) && decide (v ≤ 1000)) with
  | false => rw [if_neg (by simp)]; simp
  | true =>
    rw [if_pos rfl]
    by_cases hB : a < 0
    · rw [if_pos hB, decide_eq_false (show ¬ 0 ≤ a by omega)]; simp
    rw [if_neg hB, decide_eq_true (show 0 ≤ a by omega)]
    by_cases hC : a > (V.length : Int)
    · rw [if_pos hC, decide_eq_false (show ¬ a ≤ (V.length : Int) by omega)]; simp
    rw [if_neg hC, decide_eq_true (show a ≤ (V.length : Int) by omega)]
    by_cases h0 : 0 < i
    · rw [if_pos (by omega), w_pred h0 (by omega), if_pos (by omega), if_pos (by omega)]
      by_cases hv : v ≤ (rd_T90 P ((i : Int) - 1)).f0
      · rw [if_pos hv]; simp [hv, h0]
      · rw [if_neg hv]; simp [hv, h0]
    · rw [if_neg (by omega)]; simp [h0]
theorem specP_in (V : List Int) (P : List S90) (i : Nat) (v a : Int) (r : Bool) (hV : V.length ≤ 4611686018427387904) (h : pb V v a = true → Ev (fun k => spec_l4Pivots.l0 k V P (wrap64 ((i : Int) + 1))) r) :
    Ev (fun k => spec_l4Pivots.l1 k V P (i : Int) 0 v a) (pb V v a && r) := by
  refine all_ev V.length (pbi V v a) r (fun k j => spec_l4Pivots.l1 k V P (i : Int) (j : Int) v a) ?_ ?_ ?_
  · intro j hj e
    refine ev_const (fun k => ?_)
    simp only [spec_l4Pivots.l1]
    unfold pbi at e
    rw [if_pos (by omega), if_pos (by omega), if_pos (by simpa using e)]
  · intro j hj r e h
    refine Ev.step (fun k => ?_) h
    simp only [spec_l4Pivots.l1]
    unfold pbi at e
    rw [if_pos (by omega), if_pos (by omega), if_neg (by simpa using e), wS hj (by omega)]
  · intro hall
    refine Ev.step (fun k => ?_) (h (by unfold pb; rw [List.all_eq_true]; exact fun j hj => hall j (List.mem_range.1 hj)))
    simp only [spec_l4Pivots.l1]
    rw [if_neg (by omega)]
theorem implP_in (V R : List Int) (P : List S90) (i : Nat) (v a : Int) (r : Bool) (hV : V.length ≤ 4611686018427387904) (h : pb V v a = true → Ev (fun k => impl_IsCracker.l1 k P (P.length : Int) (wrap64 ((i : Int) + 1)) V R P) r) :
    Ev (fun k => impl_IsCracker.l2 k P (P.length : Int) (i : Int) V (V.length : Int) 0 V R P v a) (pb V v a && r) := by
  refine all_ev V.length (pbi V v a) r (fun k j => impl_IsCracker.l2 k P (P.length : Int) (i : Int) V (V.length : Int) (j : Int) V R P v a) ?_ ?_ ?_
  · intro j hj e
    refine ev_const (fun k => ?_)
    simp only [impl_IsCracker.l2]
    unfold pbi at e
    rw [if_pos (by omega), if_pos (by omega), if_pos (by omega), if_pos (by simpa using e)]
  · intro j hj r e h
    refine Ev.step (fun k => ?_) h
    simp only [impl_IsCracker.l2]
    unfold pbi at e
    rw [if_pos (by omega), if_pos (by omega), if_pos (by omega), if_neg (by simpa using e), wS hj (by omega)]
  · intro hall
    refine Ev.step (fun k => ?_) (h (by unfold pb; rw [List.all_eq_true]; exact fun j hj => hall j (List.mem_range.1 hj)))
    simp only [impl_IsCracker.l2]
    rw [if_neg (by omega)]
theorem specP_ev (V : List Int) (P : List S90) (hV : V.length ≤ 4611686018427387904) (hP : P.length ≤ 4611686018427387904) : Ev (fun k => spec_l4Pivots.f k V P) (pall V P) := by
  unfold spec_l4Pivots.f
  have := all_ev P.length (pok V P) true (fun k i => spec_l4Pivots.l0 k V P (i : Int)) ?_ ?_ ?_
  · rw [Bool.and_true] at this; exact this
  · intro i hi e
    refine Ev.step (specP_step V P i hi hP) ?_
    unfold pok at e
    cases hh : ph (V.length : Int) P i with
    | false => exact ev_const (fun k => by simp only [spec_l4Pivots.j1]; rw [if_pos (by simp)])
    | true =>
      rw [hh, Bool.true_and] at e
      refine Ev.step (fun k => ?_) (ev_eq (specP_in V P i (rd_T90 P (i : Int)).f0 (rd_T90 P (i : Int)).f1 false hV (fun h => by rw [e] at h; cases h)) (by simp))
      simp only [spec_l4Pivots.j1]
      rw [if_neg (by simp)]
  · intro i hi r e h
    refine Ev.step (specP_step V P i hi hP) ?_
    unfold pok at e
    rw [Bool.and_eq_true] at e
    rw [e.1]
    refine Ev.step (fun k => ?_) (ev_eq (specP_in V P i (rd_T90 P (i : Int)).f0 (rd_T90 P (i : Int)).f1 r hV (fun _ => by rw [wS hi (by omega)]; exact h)) (by rw [e.2, Bool.true_and]))
    simp only [spec_l4Pivots.j1]
    rw [if_neg (by simp)]
  · intro _
    exact ev_const (fun k => by simp only [spec_l4Pivots.l0]; rw [if_neg (by omega)])
theorem implP_ev (V R : List Int) (P : List S90) (hV : V.length ≤ 4611686018427387904) (hP : P.length ≤ 4611686018427387904) : Ev (fun k => impl_IsCracker.l1 k P (P.length : Int) 0 V R P) (pall V P) := by
  have := all_ev P.length (pok V P) true (fun k i => impl_IsCracker.l1 k P (P.length : Int) (i : Int) V R P) ?_ ?_ ?_
  · rw [Bool.and_true] at this; exact this
  · intro i hi e
    refine Ev.step (implP_step V R P i hi hP) ?_
    unfold pok at e
    cases hh : ph (V.length : Int) P i with
    | false => exact ev_const (fun k => by simp only [impl_IsCracker.j3]; rw [if_pos (by simp)])
    | true =>
      rw [hh, Bool.true_and] at e
      refine Ev.step (fun k => ?_) (ev_eq (implP_in V R P i (rd_T90 P (i : Int)).f0 (rd_T90 P (i : Int)).f1 false hV (fun h => by rw [e] at h; cases h)) (by simp))
      simp only [impl_IsCracker.j3]
      rw [if_neg (by simp)]
  · intro i hi r e h
    refine Ev.step (implP_step V R P i hi hP) ?_
    unfold pok at e
    rw [Bool.and_eq_true] at e
    rw [e.1]
    refine Ev.step (fun k => ?_) (ev_eq (implP_in V R P i (rd_T90 P (i : Int)).f0 (rd_T90 P (i : Int)).f1 r hV (fun _ => by rw [wS hi (by omega)]; exact h)) (by rw [e.2, Bool.true_and]))
    simp only [impl_IsCracker.j3]
    rw [if_neg (by simp)]
  · intro _
    exact ev_const (fun k => by simp only [impl_IsCracker.l1]; rw [if_neg (by omega)])
theorem pall_at {V : List Int} {P : List S90} (h : pall V P = true) (i : Nat) (hi : i < P.length) : pok V P i = true := by
  unfold pall at h
  rw [List.all_eq_true] at h
  exact h i (List.mem_range.2 hi)
theorem ph_facts {n : Int} {P : List S90} {k : Nat} (h : ph n P k = true) : (-1000 ≤ (rd_T90 P (k : Int)).f0 ∧ (rd_T90 P (k : Int)).f0 ≤ 1000) ∧ (0 ≤ (rd_T90 P (k : Int)).f1 ∧ (rd_T90 P (k : Int)).f1 ≤ n) ∧
    (0 < k → (rd_T90 P ((k : Int) - 1)).f0 < (rd_T90 P (k : Int)).f0 ∧ (rd_T90 P ((k : Int) - 1)).f1 ≤ (rd_T90 P (k : Int)).f1) := by
  unfold ph at h
  simp only [Bool.and_eq_true, decide_eq_true_eq, Bool.not_eq_true', Bool.and_eq_false_iff, Bool.or_eq_false_iff, decide_eq_false_iff_not] at h
  refine ⟨h.1.1, h.1.2, fun h0 => ?_⟩
  rcases h.2 with h | h
  · exact absurd h0 h
  · omega
theorem pall_len {V : List Int} {P : List S90} (h : pall V P = true) : P.length ≤ 2001 := by
  have key : ∀ i : Nat, i < P.length → -1000 + (i : Int) ≤ (rd_T90 P (i : Int)).f0 := by
    intro i
    induction i with
    | zero =>
      intro hi
      have := pall_at h 0 hi
      unfold pok at this
      rw [Bool.and_eq_true] at this
      have := (ph_facts this.1).1.1
      omega
    | succ i ih =>
      intro hi
      have := pall_at h (i + 1) hi
      unfold pok at this
      rw [Bool.and_eq_true] at this
      have h2 := ((ph_facts this.1).2.2 (by omega)).1
      have h3 := ih (by omega)
      rw [show (((i + 1 : Nat) : Int) - 1) = (i : Int) by omega] at h2
      omega
  by_cases c : P.length = 0
  · omega
  · have := key (P.length - 1) (by omega)
    have h2 := pall_at h (P.length - 1) (by omega)
    unfold pok at h2
    rw [Bool.and_eq_true] at h2
    have := (ph_facts h2.1).1.2
    omega
def rowIn (R : List Int) (i : Nat) : Bool := decide (0 ≤ rd R (i : Int)) && decide (rd R (i : Int) ≤ 999)
def fresh (R : List Int) (i : Nat) : Bool := !decide (rd R (i : Int) ∈ R.take i)
def isC (V R : List Int) (P : List S90) : Bool := areV V && (decide (R.length = V.length) && ((List.range R.length).all (fun i => rowIn R i && fresh R i) && pall V P))
theorem has_ev (l : List Int) (x : Int) (hl : l.length ≤ 4611686018427387904) : Ev (fun k => spec_l4Has.f k l x) (decide (x ∈ l)) := by
  unfold spec_l4Has.f
  refine loop_ev l.length (fun i => ∀ j (h : j < l.length), j < i → l[j] ≠ x) (fun k i => spec_l4Has.l0 k l x (i : Int)) _ (fun j _ h => absurd h (Nat.not_lt_zero _)) ?_ ?_
  · intro i hi hc ih
    by_cases e : l[i] = x
    · refine ev_const (fun k => ?_)
      simp only [spec_l4Has.l0]
      rw [if_pos (by omega), if_pos (by omega), rd_nat hi, if_pos e, decide_eq_true (e ▸ List.getElem_mem hi)]
    · refine Ev.step (fun k => ?_) (ih (fun j h hj => ?_))
      · simp only [spec_l4Has.l0]
        rw [if_pos (by omega), if_pos (by omega), rd_nat hi, if_neg e, wS hi (by omega)]
      · by_cases hji : j = i
        · subst hji; exact e
        · exact hc j h (by omega)
  · intro hc
    refine ev_const (fun k => ?_)
    simp only [spec_l4Has.l0]
    rw [if_neg (by omega), decide_eq_false]
    intro hx
    obtain ⟨j, hj, e⟩ := List.mem_iff_getElem.1 hx
    exact hc j hj hj e
theorem contains_ev (l : List Int) (x : Int) (hl : l.length ≤ 4611686018427387904) : Ev (fun k => slices_Contains_int_int.f k l x) (decide (x ∈ l)) := by
  unfold slices_Contains_int_int.f
  refine Ev.bind (index_ev l x hl) (ev_eq (ev_some _) ?_)
  have := rowAt_neg l x
  by_cases h : x ∈ l
  · rw [decide_eq_true h, decide_eq_true]
    have : ¬ rowAt l x < 0 := fun c => (this.1 c) h
    omega
  · rw [decide_eq_false h, decide_eq_false]
    have := this.2 h
    omega
theorem specR_ev (V R : List Int) (P : List S90) (hV : V.length ≤ 4611686018427387904) (hR : R.length ≤ 4611686018427387904) (hP : P.length ≤ 4611686018427387904) :
    Ev (fun k => spec_IsCracker.l0 k 0 V R P) ((List.range R.length).all (fun i => rowIn R i && fresh R i) && pall V P) := by
  refine all_ev R.length (fun i => rowIn R i && fresh R i) (pall V P) (fun k i => spec_IsCracker.l0 k (i : Int) V R P) ?_ ?_ ?_
  · intro i hi e
    apply Ev.step
    · intro k; simp only [spec_IsCracker.l0, l1In_eq, Option.bind_some]; rfl
    refine ev_ifp (by omega) (ev_ifp (by omega) ?_)
    cases c : rowIn R i with
    | false => unfold rowIn at c; rw [c]; exact ev_ifn (by simp) (ev_some _)
    | true =>
      rw [c, Bool.true_and] at e
      unfold rowIn at c
      rw [c]
      refine ev_ifp rfl (ev_ifp (by omega) (Ev.bind (has_ev _ _ (by rw [List.length_take]; omega)) (ev_ifp ?_ (ev_some _))))
      rw [Int.toNat_natCast]
      unfold fresh at e
      simpa using e
  · intro i hi r e h
    rw [Bool.and_eq_true] at e
    apply Ev.step
    · intro k; simp only [spec_IsCracker.l0, l1In_eq, Option.bind_some]; rfl
    refine ev_ifp (by omega) (ev_ifp (by omega) ?_)
    have c := e.1
    unfold rowIn at c
    rw [c]
    refine ev_ifp rfl (ev_ifp (by omega) (Ev.bind (has_ev _ _ (by rw [List.length_take]; omega)) (ev_ifn ?_ ?_)))
    · rw [Int.toNat_natCast]
      have := e.2
      unfold fresh at this
      simpa using this
    · rw [wS hi (by omega)]; exact h
  · intro _
    apply Ev.step
    · intro k; simp only [spec_IsCracker.l0]; rfl
    exact ev_ifn (by omega) (Ev.bind (specP_ev V P hV hP) (ev_some _))
theorem implR_ev (V R : List Int) (P : List S90) (hV : V.length ≤ 4611686018427387904) (hR : R.length ≤ 4611686018427387904) (hP : P.length ≤ 4611686018427387904) :
    Ev (fun k => impl_IsCracker.l0 k R (R.length : Int) 0 V R P) ((List.range R.length).all (fresh R) && pall V P) := by
  refine all_ev R.length (fresh R) (pall V P) (fun k i => impl_IsCracker.l0 k R (R.length : Int) (i : Int) V R P) ?_ ?_ ?_
  · intro i hi e
    apply Ev.step
    · intro k; simp only [impl_IsCracker.l0]; rfl
    refine ev_ifp (by omega) (ev_ifp (by omega) (ev_ifp (by omega) (ev_ifp (by omega) (Ev.bind (contains_ev _ _ (by rw [List.length_take]; omega)) (ev_ifp ?_ (ev_some _))))))
    rw [Int.toNat_natCast]
    unfold fresh at e
    simpa using e
  · intro i hi r e h
    apply Ev.step
    · intro k; simp only [impl_IsCracker.l0]; rfl
    refine ev_ifp (by omega) (ev_ifp (by omega) (ev_ifp (by omega) (ev_ifp (by omega) (Ev.bind (contains_ev _ _ (by rw [List.length_take]; omega)) (ev_ifn ?_ ?_)))))
    · rw [Int.toNat_natCast]
      unfold fresh at e
      simpa using e
    · rw [wS hi (by omega)]; exact h
  · intro _
    apply Ev.step
    · intro k; simp only [impl_IsCracker.l0]; rfl
    exact ev_ifn (by omega) (implP_ev V R P hV hP)
theorem specIsC_ev (V R : List Int) (P : List S90) (hV : V.length ≤ 4611686018427387904) (hR : R.length ≤ 4611686018427387904) (hP : P.length ≤ 4611686018427387904) : Ev (fun k => spec_IsCracker.f k V R P) (isC V R P) := by
  unfold spec_IsCracker.f isC
  have hf : Ev (fun k => spec_IsCracker.j0 k true V R P) false := ev_const (fun k => by simp [spec_IsCracker.j0])
  refine Ev.bind (specAreValues_ev V (by omega)) ?_
  cases areV V with
  | false => exact ev_ifn (by simp) hf
  | true =>
    refine ev_ifp rfl ?_
    rw [Bool.true_and]
    by_cases c : R.length = V.length
    · rw [show ((R.length : Int) != (V.length : Int)) = false by simp [c], decide_eq_true c, Bool.true_and]
      refine Ev.step (fun k => ?_) (specR_ev V R P hV hR hP)
      simp only [spec_IsCracker.j0]
      rw [if_neg (by simp)]
    · rw [show ((R.length : Int) != (V.length : Int)) = true by simp; omega, decide_eq_false c, Bool.false_and]
      exact hf
theorem implIsC_ev (V R : List Int) (P : List S90) (hV : V.length ≤ 4611686018427387904) (hR : R.length ≤ 4611686018427387904) (hP : P.length ≤ 4611686018427387904) : Ev (fun k => impl_IsCracker.f k V R P) (isC V R P) := by
  unfold impl_IsCracker.f isC
  have hf : Ev (fun k => impl_IsCracker.j0 k true V R P) false := ev_const (fun k => by simp [impl_IsCracker.j0])
  refine ev_pure (implAreValues V) ?_
  cases areV V with
  | false => exact ev_ifn (by simp) hf
  | true =>
    refine ev_ifp rfl ?_
    rw [Bool.true_and]
    by_cases c : R.length = V.length
    · refine ev_ifp (by omega) ?_
      rw [decide_eq_true c, Bool.true_and]
      refine ev_pure (within_all R 0 999) ?_
      have hw : (R.all fun x => decide (0 ≤ x) && decide (x ≤ 999)) = (List.range R.length).all (rowIn R) := by
        rw [Bool.eq_iff_iff, List.all_eq_true, List.all_eq_true]
        refine ⟨fun h i hi => ?_, fun h x hx => ?_⟩
        · have hi := List.mem_range.1 hi
          unfold rowIn
          rw [rd_nat hi]
          exact h _ (List.getElem_mem hi)
        · obtain ⟨i, hi, rfl⟩ := List.mem_iff_getElem.1 hx
          have := h i (List.mem_range.2 hi)
          unfold rowIn at this
          rw [rd_nat hi] at this
          exact this
      rw [hw]
      have hs : ((List.range R.length).all fun i => rowIn R i && fresh R i) = ((List.range R.length).all (rowIn R) && (List.range R.length).all (fresh R)) := by
        rw [Bool.eq_iff_iff, Bool.and_eq_true, List.all_eq_true, List.all_eq_true, List.all_eq_true]
        refine ⟨fun h => ⟨fun i hi => (Bool.and_eq_true _ _ ▸ h i hi).1, fun i hi => (Bool.and_eq_true _ _ ▸ h i hi).2⟩, fun h i hi => by rw [h.1 i hi, h.2 i hi]; rfl⟩
      rw [hs]
      cases (List.range R.length).all (rowIn R) with
      | false => exact ev_ifn (by simp) hf
      | true =>
        refine ev_ifp rfl ?_
        rw [Bool.true_and]
        by_cases d : P.length ≤ 2001
        · rw [decide_eq_false (show ¬ (P.length : Int) > 2001 by omega)]
          refine Ev.step (fun k => ?_) (implR_ev V R P hV hR hP)
          simp only [impl_IsCracker.j0]
          rw [if_neg (by simp)]
        · rw [decide_eq_true (show (P.length : Int) > 2001 by omega)]
          have : pall V P = false := by
            cases e : pall V P with
            | false => rfl
            | true => exact absurd (pall_len e) d
          rw [this, Bool.and_false]
          exact hf
    · refine ev_ifn (by omega) ?_
      rw [decide_eq_false c, Bool.false_and]
      exact hf

def isS (p t s : Int) : Bool := decide (0 ≤ p ∧ p ≤ 2 ∧ 1 ≤ t ∧ t ≤ 64 ∧ 0 ≤ s ∧ s ≤ 10006)
theorem specIsSettings (a b c : Int) : spec_IsSettings.f a b c = some (isS a b c) := by
  unfold spec_IsSettings.f spec_l1In.f isS
  by_cases h1 : a ≥ 0 <;> by_cases h2 : a ≤ 2 <;> by_cases h3 : b ≥ 1 <;> by_cases h4 : b ≤ 64 <;> by_cases h5 : c ≥ 0 <;> by_cases h6 : c ≤ 10006 <;> simp [h1, h2, h3, h4, h5, h6] <;> omega
theorem implIsSettings (a b c : Int) : impl_IsSettings.f a b c = some (isS a b c) := by
  unfold impl_IsSettings.f isS
  by_cases h1 : a ≥ 0 <;> by_cases h2 : a ≤ 2 <;> by_cases h3 : b ≥ 1 <;> by_cases h4 : b ≤ 64 <;> by_cases h5 : c ≥ 0 <;> by_cases h6 : c ≤ 10006 <;> simp [h1, h2, h3, h4, h5, h6] <;> omega

theorem seed_same (a0 : Int) : ∃ t, spec_NextSeed.f a0 = some t ∧ impl_NextSeed.f a0 = some t ∧ 0 ≤ t ∧ t ≤ 10006 := by
  unfold spec_NextSeed.f impl_NextSeed.f
  obtain ⟨h1, h2⟩ := tmod_cases a0 10007
  generalize Int.tmod a0 10007 = t at *
  have ht : -10007 < t ∧ t < 10007 := by
    rcases Int.lt_or_le a0 0 with h | h
    · rw [h2 h]; omega
    · rw [h1 h]; omega
  clear h1 h2
  have w1 : wrap64 (t + 10007) = t + 10007 := by unfold wrap64; omega
  have m1 : Int.tmod (t + 10007) 10007 = (t + 10007) % 10007 := Int.tmod_eq_emod_of_nonneg (by omega)
  rw [w1, m1]
  have hu : ∀ u : Int, 0 ≤ u → u < 10007 → 0 ≤ Int.tmod (wrap64 (wrap64 (u * 1103) + 2345)) 10007 ∧ Int.tmod (wrap64 (wrap64 (u * 1103) + 2345)) 10007 ≤ 10006 := fun u h0 h1 => by
    rw [w64 (n := u * 1103) (by omega) (by omega), w64 (n := u * 1103 + 2345) (by omega) (by omega), tmod_nn (by omega)]
    omega
  by_cases h : t < 0
  · rw [if_pos h]
    have e : (t + 10007) % 10007 = t + 10007 := by omega
    rw [e]
    exact ⟨_, rfl, rfl, hu _ (by omega) (by omega)⟩
  · rw [if_neg h]
    have e : (t + 10007) % 10007 = t := by omega
    rw [e]
    exact ⟨_, rfl, rfl, hu _ (by omega) (by omega)⟩

theorem choose_same (V R : List Int) (P : List S90) (p t s a b : Int) (hV : V.length ≤ 1048576) (hR : R.length ≤ 1048576) (hP : P.length ≤ 1048576) :
    ∃ x, Ev (fun k => spec_ChoosePivot.f k V R P p t s a b) x ∧ Ev (fun k => impl_ChoosePivot.f k V R P p t s a b) x := by
  have hi := implIsC_ev V R P (by omega) (by omega) (by omega)
  have hs := specIsC_ev V R P (by omega) (by omega) (by omega)
  unfold spec_ChoosePivot.f impl_ChoosePivot.f
  have f1 : Ev (fun k => spec_ChoosePivot.j0 k a b true V R P p t s) (0, p, t, s) := ev_const (fun k => by simp [spec_ChoosePivot.j0])
  have f2 : Ev (fun k => impl_ChoosePivot.j0 k a b true V R P p t s) (0, p, t, s) := ev_const (fun k => by simp [impl_ChoosePivot.j0])
  cases hc : isC V R P with
  | false =>
    rw [hc] at hi hs
    exact ⟨_, Ev.bind hs (ev_ifn (by simp) f1), Ev.bind hi (ev_ifn (by simp) f2)⟩
  | true =>
    rw [hc] at hi hs
    cases hq : isS p t s with
    | false => exact ⟨_, Ev.bind hs (ev_ifp rfl (ev_pure ((specIsSettings p t s).trans (congrArg some hq)) (ev_ifn (by simp) f1))), Ev.bind hi (ev_ifp rfl (ev_pure ((implIsSettings p t s).trans (congrArg some hq)) (ev_ifn (by simp) f2)))⟩
    | true =>
      have hq1 := (specIsSettings p t s).trans (congrArg some hq)
      have hq2 := (implIsSettings p t s).trans (congrArg some hq)
      by_cases h0 : a < 0
      · exact ⟨_, Ev.bind hs (ev_ifp rfl (ev_pure hq1 (ev_ifp rfl (ev_ifp h0 f1)))), Ev.bind hi (ev_ifp rfl (ev_pure hq2 (ev_ifp rfl (ev_ifp h0 f2))))⟩
      by_cases h1 : a ≥ b
      · exact ⟨_, Ev.bind hs (ev_ifp rfl (ev_pure hq1 (ev_ifp rfl (ev_ifn h0 (ev_ifp h1 f1))))), Ev.bind hi (ev_ifp rfl (ev_pure hq2 (ev_ifp rfl (ev_ifn h0 (ev_ifp h1 f2)))))⟩
      have hj : ∃ x, Ev (fun k => spec_ChoosePivot.j0 k a b (decide (b > (V.length : Int))) V R P p t s) x ∧ Ev (fun k => impl_ChoosePivot.j0 k a b (decide (b > (V.length : Int))) V R P p t s) x := by
        by_cases h2 : b > (V.length : Int)
        · rw [decide_eq_true h2]; exact ⟨_, f1, f2⟩
        rw [decide_eq_false h2]
        by_cases h3 : p = 2
        · obtain ⟨u, u1, u2, u3, u4⟩ := seed_same s
          have hw : wrap64 (b - a) = b - a := w64 (by omega) (by omega)
          have hm0 : Int.tmod u (b - a) = u % (b - a) := tmod_nn u3
          have hm1 : 0 ≤ u % (b - a) := Int.emod_nonneg _ (by omega)
          have hm2 : u % (b - a) < b - a := Int.emod_lt_of_pos _ (by omega)
          have hw2 : wrap64 (a + u % (b - a)) = a + u % (b - a) := w64 (by omega) (by omega)
          refine ⟨(rd V (a + u % (b - a)), p, t, u), ev_const (fun k => ?_), ev_const (fun k => ?_)⟩
          · simp only [spec_ChoosePivot.j0]
            rw [if_neg (by simp), if_pos h3, u1, Option.bind_some, hw, hm0, hw2, if_neg (by omega), if_pos (by omega), if_pos (by omega)]
          · simp only [impl_ChoosePivot.j0]
            rw [if_neg (by simp), if_pos h3, u2, Option.bind_some, hw, hm0, hw2, if_neg (by omega), if_pos (by omega), if_pos (by omega)]
        · obtain ⟨m, m1, m2⟩ := median_same ((V.take b.toNat).drop a.toNat) (by rw [List.length_drop, List.length_take]; omega)
          refine ⟨(m, p, t, s), ?_, ?_⟩
          · apply Ev.step
            · intro k; simp only [spec_ChoosePivot.j0]; rfl
            exact ev_ifn (by simp) (ev_ifn h3 (ev_ifp (by omega) (ev_ifp (by omega) (ev_ifp (by omega) (Ev.bind m1 (ev_some _))))))
          · apply Ev.step
            · intro k; simp only [impl_ChoosePivot.j0]; rfl
            exact ev_ifn (by simp) (ev_ifn h3 (ev_ifp (by omega) (ev_ifp (by omega) (ev_ifp (by omega) (ev_pure m2 (ev_some _))))))
      obtain ⟨x, j1, j2⟩ := hj
      exact ⟨x, Ev.bind hs (ev_ifp rfl (ev_pure hq1 (ev_ifp rfl (ev_ifn h0 (ev_ifn h1 j1))))), Ev.bind hi (ev_ifp rfl (ev_pure hq2 (ev_ifp rfl (ev_ifn h0 (ev_ifn h1 j2)))))⟩

theorem levels_l0 (t : Int) (h1 : 0 < t) : ∀ (d : Nat) (x n : Int), x ≤ 1000000 → x ≤ d → 0 ≤ n → n + d ≤ 2000000 →
    ∃ r, Ev (fun k => spec_Levels.l0 k t n x) r ∧ Ev (fun k => impl_Levels.l0 k x t n) r := by
  intro d
  induction d with
  | zero =>
    intro x n hx hd hn hnd
    refine ⟨n, ev_const (fun k => ?_), ev_const (fun k => ?_)⟩
    · simp only [spec_Levels.l0]; rw [if_neg (by omega)]
    · simp only [impl_Levels.l0]; rw [if_neg (by omega)]
  | succ d ih =>
    intro x n hx hd hn hnd
    by_cases c : x > t
    · have e : Int.tdiv x 2 = x / 2 := tdiv_nn (by omega)
      have e1 : wrap64 (x / 2) = x / 2 := w64 (by omega) (by omega)
      have e2 : wrap64 (n + 1) = n + 1 := w64 (by omega) (by omega)
      obtain ⟨r, hs, hi⟩ := ih (x / 2) (n + 1) (by omega) (by omega) (by omega) (by omega)
      refine ⟨r, Ev.step (fun k => ?_) hs, Ev.step (fun k => ?_) hi⟩
      · simp only [spec_Levels.l0]; rw [if_pos c, if_pos (by omega), e, e1, e2]
      · simp only [impl_Levels.l0]; rw [if_pos c, e, e1, e2]
    · refine ⟨n, ev_const (fun k => ?_), ev_const (fun k => ?_)⟩
      · simp only [spec_Levels.l0]; rw [if_neg c]
      · simp only [impl_Levels.l0]; rw [if_neg c]
theorem levels_ev (n t : Int) : ∃ r, Ev (fun k => spec_Levels.f k n t) r ∧ Ev (fun k => impl_Levels.f k n t) r := by
  unfold spec_Levels.f impl_Levels.f
  by_cases h : t ≤ 0
  · refine ⟨0, ev_const (fun k => ?_), ev_ifp h (ev_some _)⟩
    simp only [spec_Levels.l0]
    by_cases c : mn n 1000000 > t
    · rw [if_pos c, if_neg (by omega)]
    · rw [if_neg c]
  · have hm : mn n 1000000 ≤ 1000000 := by unfold mn; split <;> omega
    obtain ⟨r, hs, hi⟩ := levels_l0 t (by omega) 1000000 (mn n 1000000) 0 hm (by omega) (by omega) (by omega)
    exact ⟨r, hs, ev_ifn h hi⟩

theorem ex_loop {β : Type} (n : Nat) (g : Nat → Nat → Option β) (hs : ∀ i, i < n → (∃ r, Ev (fun k => g k (i + 1)) r) → ∃ r, Ev (fun k => g k i) r) (he : ∃ r, Ev (fun k => g k n) r) : ∃ r, Ev (fun k => g k 0) r := by
  have key : ∀ d, d ≤ n → ∃ r, Ev (fun k => g k (n - d)) r := by
    intro d
    induction d with
    | zero => intro _; exact he
    | succ d ih =>
      intro hd
      refine hs (n - (d + 1)) (by omega) ?_
      rw [show n - (d + 1) + 1 = n - d by omega]
      exact ih (by omega)
  have := key n (Nat.le_refl n)
  rwa [Nat.sub_self] at this

theorem findT (v r : List Int) (p : List S90) (q : Int) (hl : p.length ≤ 4611686018427387904) : ∃ x, Ev (fun k => spec_FindPivot.f k v r p q) x := by
  unfold spec_FindPivot.f
  refine ex_loop p.length (fun k i => spec_FindPivot.l0 k q (i : Int) v r p) (fun i hi ⟨x, hx⟩ => ?_) ⟨(0, false), ev_const (fun k => ?_)⟩
  · by_cases c : (rd_T90 p (i : Int)).f0 = q
    · exact ⟨((rd_T90 p (i : Int)).f1, true), ev_const (fun k => by simp only [spec_FindPivot.l0]; rw [if_pos (by omega), if_pos (by omega), if_pos c])⟩
    · exact ⟨x, Ev.step (fun k => by simp only [spec_FindPivot.l0]; rw [if_pos (by omega), if_pos (by omega), if_neg c, wS hi (by omega)]) hx⟩
  · simp only [spec_FindPivot.l0]; rw [if_neg (by omega)]

theorem pieceT1 (p : List S90) (v : Int) (hl : p.length ≤ 4611686018427387904) : ∀ (i : Nat) (a b : Int), i ≤ p.length → ∃ x, Ev (fun k => spec_l4Piece.l1 k p v a b ((i : Int) - 1)) x := by
  intro i
  induction i with
  | zero => intro a b _; exact ⟨(a, b), ev_const (fun k => by simp only [spec_l4Piece.l1]; rw [if_neg (by omega)])⟩
  | succ i ih =>
    intro a b hi
    have e0 : (((i + 1 : Nat) : Int) - 1) = (i : Int) := by omega
    have e2 : wrap64 ((i : Int) - 1) = (i : Int) - 1 := w64 (by omega) (by omega)
    rw [e0]
    by_cases c : (rd_T90 p (i : Int)).f0 ≥ v
    · obtain ⟨x, hx⟩ := ih a (rd_T90 p (i : Int)).f1 (by omega)
      exact ⟨x, Ev.step (fun k => by simp only [spec_l4Piece.l1, e2]; rw [if_pos (by omega), if_pos (by omega), if_pos (by omega), if_pos c]) hx⟩
    · obtain ⟨x, hx⟩ := ih a b (by omega)
      exact ⟨x, Ev.step (fun k => by simp only [spec_l4Piece.l1, e2]; rw [if_pos (by omega), if_pos (by omega), if_pos (by omega), if_neg c]) hx⟩
theorem pieceT0 (p : List S90) (v b : Int) (hl : p.length ≤ 4611686018427387904) : ∀ (d i : Nat) (a : Int), p.length - i = d → i ≤ p.length → ∃ x, Ev (fun k => spec_l4Piece.l0 k p v a b (i : Int)) x := by
  intro d
  induction d with
  | zero =>
    intro i a hd hi
    obtain ⟨x, hx⟩ := pieceT1 p v hl p.length a b (Nat.le_refl _)
    exact ⟨x, Ev.step (fun k => by simp only [spec_l4Piece.l0]; rw [if_neg (by omega), w64 (n := (p.length : Int) - 1) (by omega) (by omega)]) hx⟩
  | succ d ih =>
    intro i a hd hi
    by_cases c : (rd_T90 p (i : Int)).f0 ≤ v
    · obtain ⟨x, hx⟩ := ih (i + 1) (rd_T90 p (i : Int)).f1 (by omega) (by omega)
      exact ⟨x, Ev.step (fun k => by simp only [spec_l4Piece.l0]; rw [if_pos (by omega), if_pos (by omega), if_pos c, wS (by omega : i < p.length) (by omega)]) hx⟩
    · obtain ⟨x, hx⟩ := ih (i + 1) a (by omega) (by omega)
      exact ⟨x, Ev.step (fun k => by simp only [spec_l4Piece.l0]; rw [if_pos (by omega), if_pos (by omega), if_neg c, wS (by omega : i < p.length) (by omega)]) hx⟩

theorem partT0 (l : List Int) (p : Int) (hl : l.length ≤ 1048576) : ∀ (d : Nat) (i j : Int) (out : List S134), 0 ≤ i → j < (l.length : Int) → j + 1 - i ≤ (d : Int) → i ≤ 1048577 → -2 ≤ j → out.length + d ≤ 4194304 → ∃ r, Ev (fun k => spec_Partition.l0 k l p out i j) r ∧ r.1.length ≤ 4194304 := by
  intro d
  induction d with
  | zero => intro i j out h0 h1 h2 h3 h4 h5; exact ⟨(out, i), ev_const (fun k => by simp only [spec_Partition.l0]; rw [if_neg (by omega)]), by show out.length ≤ _; omega⟩
  | succ d ih =>
    intro i j out h0 h1 h2 h3 h4 h5
    by_cases c : i ≤ j
    · have e1 : wrap64 (i + 1) = i + 1 := w64 (by omega) (by omega)
      have e2 : wrap64 (j - 1) = j - 1 := w64 (by omega) (by omega)
      by_cases c1 : rd l i < p
      · obtain ⟨r, hr, hb⟩ := ih (i + 1) j out (by omega) h1 (by omega) (by omega) h4 (by omega)
        exact ⟨r, Ev.step (fun k => by simp only [spec_Partition.l0, e1]; rw [if_pos c, if_pos h0, if_pos (by omega), if_pos c1]) hr, hb⟩
      · by_cases c2 : rd l j ≥ p
        · obtain ⟨r, hr, hb⟩ := ih i (j - 1) out h0 (by omega) (by omega) h3 (by omega) (by omega)
          exact ⟨r, Ev.step (fun k => by simp only [spec_Partition.l0, e2]; rw [if_pos c, if_pos h0, if_pos (by omega), if_neg c1, if_pos (by omega), if_pos h1, if_pos c2]) hr, hb⟩
        · obtain ⟨r, hr, hb⟩ := ih (i + 1) (j - 1) (out ++ [⟨i, j⟩]) (by omega) (by omega) (by omega) (by omega) (by omega) (by simp; omega)
          exact ⟨r, Ev.step (fun k => by simp only [spec_Partition.l0, e1, e2]; rw [if_pos c, if_pos h0, if_pos (by omega), if_neg c1, if_pos (by omega), if_pos h1, if_neg c2, if_pos (by omega)]) hr, hb⟩
    · exact ⟨(out, i), ev_const (fun k => by simp only [spec_Partition.l0]; rw [if_neg c]), by show out.length ≤ _; omega⟩
theorem partT (l : List Int) (a b p : Int) (hl : l.length ≤ 1048576) : ∃ r, Ev (fun k => spec_Partition.f k l a b p) r ∧ r.1.length ≤ 4194304 := by
  unfold spec_Partition.f
  have f1 : Ev (fun k => spec_Partition.j0 k l a b p [] true) ([], 0) := ev_const (fun k => by simp only [spec_Partition.j0]; rfl)
  cases h : (decide (0 ≤ a) && decide (a ≤ b)) with
  | false =>
    refine ⟨([], 0), ?_, by simp⟩
    refine ev_pure (a := ([] : List S134)) rfl (ev_pure (l1In_eq a 0 b) (ev_ifn (by rw [h]; simp) f1))
  | true =>
    rw [Bool.and_eq_true, decide_eq_true_eq, decide_eq_true_eq] at h
    by_cases c : b > (l.length : Int)
    · refine ⟨([], 0), ?_, by simp⟩
      rw [← decide_eq_true c] at f1
      exact ev_pure (a := ([] : List S134)) rfl (ev_pure (l1In_eq a 0 b) (ev_ifp (by simp [h.1, h.2]) f1))
    · obtain ⟨r, hr, hb⟩ := partT0 l p hl (l.length + 1) a (b - 1) [] h.1 (by omega) (by omega) (by omega) (by omega) (by simp; omega)
      refine ⟨r, ev_pure (a := ([] : List S134)) rfl (ev_pure (l1In_eq a 0 b) (ev_ifp (by simp [h.1, h.2]) ?_)), hb⟩
      refine Ev.step (fun k => ?_) hr
      simp only [spec_Partition.j0]
      rw [if_neg (by simp; omega), w64 (n := b - 1) (by omega) (by omega)]

theorem rdSwap {l : List S134} {i : Nat} (h : i < l.length) : rd_T134 l (i : Int) = l[i] := by
  unfold rd_T134; simp [List.getD_eq_getElem?_getD, List.getElem?_eq_getElem h]

def swin (n : Int) (s : S134) : Bool := (decide (0 ≤ s.f0) && decide (s.f0 < n)) && (decide (0 ≤ s.f1) && decide (s.f1 < n))
def sw1 (l : List Int) (s : S134) : List Int := (l.set s.f0.toNat (rd l s.f1)).set s.f1.toNat (rd l s.f0)
theorem sw1_len (l : List Int) (s : S134) : (sw1 l s).length = l.length := by simp [sw1]
def runS (n : Int) (V0 R0 : List Int) (P : List S90) : List S134 → List Int → List Int → List Int × List Int × List S90 × Bool
  | [], V, R => (V, R, P, true)
  | s :: L, V, R => if swin n s = true then runS n V0 R0 P L (sw1 V s) (sw1 R s) else (V0, R0, P, false)
def appR (V R : List Int) (P : List S90) (L : List S134) : List Int × List Int × List S90 × Bool :=
  if R.length = V.length then runS (V.length : Int) V R P L V R else (V, R, P, false)
theorem runS_len (n : Int) (V0 R0 : List Int) (P : List S90) (a b : Nat) (ha : V0.length = a) (hb : R0.length = b) : ∀ (L : List S134) (V R : List Int), V.length = a → R.length = b →
    (runS n V0 R0 P L V R).1.length = a ∧ (runS n V0 R0 P L V R).2.1.length = b ∧ (runS n V0 R0 P L V R).2.2.1 = P
  | [], V, R, h1, h2 => ⟨h1, h2, rfl⟩
  | s :: L, V, R, h1, h2 => by
    simp only [runS]
    by_cases hs : swin n s = true
    · rw [if_pos hs]
      exact runS_len n V0 R0 P a b ha hb L (sw1 V s) (sw1 R s) (by rw [sw1_len, h1]) (by rw [sw1_len, h2])
    · rw [if_neg hs]
      exact ⟨ha, hb, rfl⟩
theorem appR_len (V R : List Int) (P : List S90) (L : List S134) : (appR V R P L).1.length = V.length ∧ (appR V R P L).2.1.length = R.length ∧ (appR V R P L).2.2.1 = P := by
  unfold appR
  by_cases h : R.length = V.length
  · rw [if_pos h]
    exact runS_len _ V R P V.length R.length rfl rfl L V R rfl rfl
  · rw [if_neg h]
    exact ⟨rfl, rfl, rfl⟩

theorem copyS {V R : List Int} {P : List S90} (h0 : V.length ≤ 1048576) (h1 : R.length ≤ 1048576) (h2 : P.length ≤ 1048576) : spec_l4Copy.f V R P = some (V, R, P) := by
  unfold spec_l4Copy.f
  simp only [Option.bind_some, List.nil_append, List.length_nil, Nat.zero_add]
  rw [if_pos (by omega), if_pos (by omega), if_pos (by omega)]
theorem l5Swap_in {l : List Int} {s : S134} (n : Nat) (hl : l.length = n) (a0 : 0 ≤ s.f0) (a1 : s.f0 < (n : Int)) (b0 : 0 ≤ s.f1) (b1 : s.f1 < (n : Int)) : spec_l5Swap.f l s.f0 s.f1 = some (sw1 l s) := by
  unfold spec_l5Swap.f
  rw [if_pos a0, if_pos (by omega), if_pos b0, if_pos (by omega)]
  rfl
theorem specApp_l0 (L : List S134) (V0 R0 : List Int) (P : List S90) (hL : L.length ≤ 4611686018427387904) (h0 : V0.length ≤ 1048576) (h1 : R0.length ≤ 1048576) (h2 : P.length ≤ 1048576) (n : Nat) (hn : n ≤ 1048576) :
    ∀ (d i : Nat) (V R : List Int), i + d = L.length → V.length = n → R.length = n → Ev (fun k => spec_ApplySwaps.l0 k L (i : Int) V0 R0 P V R P) (runS (n : Int) V0 R0 P (L.drop i) V R) := by
  intro d
  induction d with
  | zero =>
    intro i V R hd hV hR
    rw [List.drop_eq_nil_of_le (by omega)]
    refine ev_const (fun k => ?_)
    simp only [spec_ApplySwaps.l0, runS]
    rw [if_neg (by omega)]
  | succ d ih =>
    intro i V R hd hV hR
    have hi : i < L.length := by omega
    rw [List.drop_eq_getElem_cons hi]
    simp only [runS]
    have hw : wrap64 ((V.length : Int) - 1) = (n : Int) - 1 := by rw [hV, w64 (n := (n : Int) - 1) (by omega) (by omega)]
    by_cases hs : swin (n : Int) L[i] = true
    · rw [if_pos hs]
      unfold swin at hs
      simp only [Bool.and_eq_true, decide_eq_true_eq] at hs
      obtain ⟨⟨a0, a1⟩, b0, b1⟩ := hs
      refine Ev.step (f := fun k => spec_ApplySwaps.j1 k L (i : Int) (L[i]).f0 (L[i]).f1 false V0 R0 P V R P) (fun k => ?_) (Ev.step (fun k => ?_) (ih (i + 1) (sw1 V L[i]) (sw1 R L[i]) (by omega) (by rw [sw1_len, hV]) (by rw [sw1_len, hR])))
      · simp only [spec_ApplySwaps.l0]
        rw [if_pos (by omega), if_pos (by omega), rdSwap hi, hw, l1In_eq, l1In_eq, decide_eq_true a0, decide_eq_true b0, decide_eq_true (show (L[i]).f0 ≤ (n : Int) - 1 by omega), decide_eq_true (show (L[i]).f1 ≤ (n : Int) - 1 by omega)]
        rfl
      · simp only [spec_ApplySwaps.j1]
        rw [if_neg (by simp), l5Swap_in n hV a0 a1 b0 b1, l5Swap_in n hR a0 a1 b0 b1, wS hi (by omega)]
        rfl
    · rw [if_neg hs]
      refine Ev.step (f := fun k => spec_ApplySwaps.j1 k L (i : Int) (L[i]).f0 (L[i]).f1 true V0 R0 P V R P) (fun k => ?_) (ev_const (fun k => ?_))
      · simp only [spec_ApplySwaps.l0]
        rw [if_pos (by omega), if_pos (by omega), rdSwap hi, hw, l1In_eq, l1In_eq]
        simp only [Option.bind_some]
        cases ha : (decide (0 ≤ (L[i]).f0) && decide ((L[i]).f0 ≤ (n : Int) - 1)) with
        | false => rw [if_neg (by simp)]
        | true =>
          rw [if_pos rfl]
          cases hb : (decide (0 ≤ (L[i]).f1) && decide ((L[i]).f1 ≤ (n : Int) - 1)) with
          | false => rfl
          | true =>
            simp only [Bool.and_eq_true, decide_eq_true_eq] at ha hb
            exact absurd (by unfold swin; simp only [Bool.and_eq_true, decide_eq_true_eq]; omega) hs
      · simp only [spec_ApplySwaps.j1]
        rw [if_pos trivial, copyS h0 h1 h2]
        rfl
theorem specApp_ev (V R : List Int) (P : List S90) (L : List S134) (hL : L.length ≤ 4611686018427387904) (h0 : V.length ≤ 1048576) (h1 : R.length ≤ 1048576) (h2 : P.length ≤ 1048576) :
    Ev (fun k => spec_ApplySwaps.f k V R P L) (appR V R P L) := by
  unfold spec_ApplySwaps.f appR
  refine ev_pure (copyS h0 h1 h2) ?_
  by_cases h : R.length = V.length
  · rw [if_pos h]
    exact ev_ifp (by show (R.length : Int) = (V.length : Int); omega) (specApp_l0 L V R P hL h0 h1 h2 V.length h0 L.length 0 V R (by omega) rfl h)
  · rw [if_neg h]
    exact ev_ifn (by show ¬ (R.length : Int) = (V.length : Int); omega) (ev_some _)

theorem addT0 (V R : List Int) (P : List S90) (v t : Int) (W X : List Int) (hV : V.length ≤ 1000000) (hR : R.length ≤ 1000000) (hP : P.length ≤ 1000000) (hW : W.length = V.length) (hX : X.length = R.length) : ∀ (d i : Nat) (pl : Bool) (O : List S90), P.length - i = d → i ≤ P.length → O.length ≤ 2 * i → ∃ r, Ev (fun k => spec_AddPivot.l0 k pl (i : Int) V R P v t W X O) r ∧ r.1.length = V.length ∧ r.2.1.length = R.length ∧ r.2.2.1.length ≤ 2 * P.length + 1 := by
  have fin : ∀ O : List S90, O.length ≤ 2 * P.length + 1 → ∃ r, Ev (fun k => spec_AddPivot.j1 k V R P W X O) r ∧ r.1.length = V.length ∧ r.2.1.length = R.length ∧ r.2.2.1.length ≤ 2 * P.length + 1 := by
    intro O hO
    have h1 := specIsC_ev V R P (by omega) (by omega) (by omega)
    have h2 := specIsC_ev W X O (by omega) (by omega) (by omega)
    have hc := copyS (V := V) (R := R) (P := P) (by omega) (by omega) (by omega)
    cases c1 : isC V R P with
    | false =>
      rw [c1] at h1
      refine ⟨(V, R, P, false), ?_, rfl, rfl, by show P.length ≤ _; omega⟩
      apply Ev.step
      · intro k; simp only [spec_AddPivot.j1]; rfl
      refine Ev.bind h1 (ev_ifn (by simp) (ev_pure hc ?_))
      exact ev_some _
    | true =>
      rw [c1] at h1
      cases c2 : isC W X O with
      | false =>
        rw [c2] at h2
        refine ⟨(V, R, P, false), ?_, rfl, rfl, by show P.length ≤ _; omega⟩
        apply Ev.step
        · intro k; simp only [spec_AddPivot.j1]; rfl
        refine Ev.bind h1 (ev_ifp rfl (Ev.bind h2 (ev_ifn (by simp) (ev_pure hc ?_))))
        exact ev_some _
      | true =>
        rw [c2] at h2
        refine ⟨(W, X, O, true), ?_, hW, hX, hO⟩
        apply Ev.step
        · intro k; simp only [spec_AddPivot.j1]; rfl
        refine Ev.bind h1 (ev_ifp rfl (Ev.bind h2 (ev_ifp rfl ?_)))
        exact ev_some _
  intro d
  induction d with
  | zero =>
    intro i pl O hd hi hO
    cases pl with
    | true =>
      obtain ⟨r, hr, hb⟩ := fin O (by omega)
      exact ⟨r, Ev.step (fun k => by simp only [spec_AddPivot.l0]; rw [if_neg (by omega), if_pos trivial]) hr, hb⟩
    | false =>
      obtain ⟨r, hr, hb⟩ := fin (O ++ [⟨v, t⟩]) (by simp; omega)
      exact ⟨r, Ev.step (fun k => by simp only [spec_AddPivot.l0]; rw [if_neg (by omega), if_neg (by simp), if_pos (by omega)]) hr, hb⟩
  | succ d ih =>
    intro i pl O hd hi hO
    have hi' : i < P.length := by omega
    cases pl with
    | true =>
      obtain ⟨r, hr, hb⟩ := ih (i + 1) true (O ++ [⟨(rd_T90 P (i : Int)).f0, (rd_T90 P (i : Int)).f1⟩]) (by omega) (by omega) (by simp; omega)
      exact ⟨r, Ev.step (fun k => by simp only [spec_AddPivot.l0]; rw [if_pos (by omega), if_pos trivial, if_pos (by omega), if_pos (by omega), wS hi' (by omega)]) hr, hb⟩
    | false =>
      by_cases c : (rd_T90 P (i : Int)).f0 > v
      · obtain ⟨r, hr, hb⟩ := ih (i + 1) true (O ++ [⟨v, t⟩] ++ [⟨(rd_T90 P (i : Int)).f0, (rd_T90 P (i : Int)).f1⟩]) (by omega) (by omega) (by simp; omega)
        exact ⟨r, Ev.step (fun k => by simp only [spec_AddPivot.l0, Option.bind_some]; rw [if_pos (by omega), if_neg (by simp), if_pos (by omega), if_pos c, if_pos (by omega), if_pos (by simp; omega), wS hi' (by omega)]) hr, hb⟩
      · obtain ⟨r, hr, hb⟩ := ih (i + 1) false (O ++ [⟨(rd_T90 P (i : Int)).f0, (rd_T90 P (i : Int)).f1⟩]) (by omega) (by omega) (by simp; omega)
        exact ⟨r, Ev.step (fun k => by simp only [spec_AddPivot.l0]; rw [if_pos (by omega), if_neg (by simp), if_pos (by omega), if_neg c, if_pos (by omega), wS hi' (by omega)]) hr, hb⟩
theorem addT (V R : List Int) (P : List S90) (v t : Int) (hV : V.length ≤ 1000000) (hR : R.length ≤ 1000000) (hP : P.length ≤ 1000000) : ∃ r, Ev (fun k => spec_AddPivot.f k V R P v t) r ∧ r.1.length = V.length ∧ r.2.1.length = R.length ∧ r.2.2.1.length ≤ 2 * P.length + 1 := by
  unfold spec_AddPivot.f
  obtain ⟨r, hr, hb⟩ := addT0 V R P v t V R hV hR hP rfl rfl (P.length - 0) 0 false [] rfl (by omega) (by simp)
  exact ⟨r, ev_pure (copyS (by omega) (by omega) (by omega)) hr, hb⟩

theorem crackT (V R : List Int) (P : List S90) (v : Int) (hV : V.length ≤ 1000000) (hR : R.length ≤ 1000000) (hP : P.length ≤ 1000000) : ∃ r, Ev (fun k => spec_CrackAt.f k V R P v) r ∧ r.1.length = V.length ∧ r.2.1.length = R.length ∧ r.2.2.1.length ≤ 2 * P.length + 1 := by
  have h1 := specIsC_ev V R P (by omega) (by omega) (by omega)
  have hc := copyS (V := V) (R := R) (P := P) (by omega) (by omega) (by omega)
  have f1 : Ev (fun k => spec_CrackAt.j0 k v true V R P) (V, R, P, [], false) := ev_const (fun k => by simp only [spec_CrackAt.j0, hc, Option.bind_some]; rfl)
  unfold spec_CrackAt.f
  cases c1 : isC V R P with
  | false =>
    rw [c1] at h1
    exact ⟨(V, R, P, [], false), Ev.bind h1 (ev_ifn (by simp) f1), rfl, rfl, by show P.length ≤ _; omega⟩
  | true =>
    rw [c1] at h1
    cases c2 : (decide (-1000 ≤ v) && decide (v ≤ 1000)) with
    | false =>
      refine ⟨(V, R, P, [], false), Ev.bind h1 (ev_ifp rfl (ev_pure (l1In_eq v (-1000) 1000) ?_)), rfl, rfl, by show P.length ≤ _; omega⟩
      rw [c2]
      exact f1
    | true =>
      obtain ⟨⟨at_, fd⟩, hf⟩ := findT V R P v (by omega)
      cases fd with
      | true =>
        refine ⟨(V, R, P, [], true), Ev.bind h1 (ev_ifp rfl (ev_pure (l1In_eq v (-1000) 1000) ?_)), rfl, rfl, by show P.length ≤ _; omega⟩
        rw [c2]
        apply Ev.step
        · intro k; simp only [spec_CrackAt.j0]; rfl
        refine ev_ifn (by simp) (Ev.bind hf (ev_ifp rfl (ev_pure hc ?_)))
        exact ev_some _
      | false =>
        obtain ⟨⟨a, b⟩, hp⟩ := pieceT0 P v (V.length : Int) (by omega) (P.length - 0) 0 0 rfl (by omega)
        have hpo : Ev (fun k => spec_PieceOf.f k V R P v) (a, b) := by
          unfold spec_PieceOf.f spec_l4Piece.f
          refine Ev.bind h1 (ev_ifp rfl (ev_pure (l1In_eq v (-1000) 1000) (ev_ifp c2 (Ev.bind hp (ev_some _)))))
        obtain ⟨⟨sw, at2⟩, hq, hb⟩ := partT V a b v (by omega)
        obtain ⟨la, lb, lc⟩ := appR_len V R P sw
        have hs := specApp_ev V R P sw (by dsimp only at hb; omega) (by omega) (by omega) (by omega)
        obtain ⟨r, hr, l1, l2, l3⟩ := addT (appR V R P sw).1 (appR V R P sw).2.1 (appR V R P sw).2.2.1 v at2 (by omega) (by omega) (by rw [lc]; omega)
        refine ⟨(r.1, r.2.1, r.2.2.1, sw, true), Ev.bind h1 (ev_ifp rfl (ev_pure (l1In_eq v (-1000) 1000) ?_)), by dsimp only; omega, by dsimp only; omega, by rw [lc] at l3; exact l3⟩
        rw [c2]
        apply Ev.step
        · intro k; simp only [spec_CrackAt.j0]; rfl
        refine ev_ifn (by simp) (Ev.bind hf (ev_ifn (by simp) (Ev.bind hpo (Ev.bind hq (Ev.bind hs (Ev.bind hr ?_))))))
        exact ev_some _

theorem i64_and255 (n : Int) : Go.bits .and .i64 n 255 = n % 256 := by
  have h255 : (BitVec.ofInt 64 255).toNat = 2 ^ 8 - 1 := by decide
  have key : (BitVec.ofInt 64 n &&& BitVec.ofInt 64 255).toNat = (n % ((2 ^ 64 : Nat) : Int)).toNat % 2 ^ 8 := by
    rw [BitVec.toNat_and, BitVec.toNat_ofInt, h255, Nat.and_two_pow_sub_one_eq_mod]
  show IntKind.i64.wrap ((BitVec.ofInt 64 n &&& BitVec.ofInt 64 255).toNat : Nat) = n % 256
  rw [key, IntKind.wrap_i64]
  omega
theorem byte_ok (b : List Int) (i h : Int) (hi : 0 ≤ i ∧ i ≤ (b.length : Int)) (hb : b.length ≤ 1048576) : ∃ x i' h', spec_l1Byte.f b i h = some (x, i', h') ∧ (0 ≤ x ∧ x < 256) ∧ (0 ≤ i' ∧ i' ≤ (b.length : Int)) := by
  unfold spec_l1Byte.f
  by_cases c : i < (b.length : Int)
  · rw [if_pos c, if_pos hi.1, i64_and255]
    refine ⟨_, _, _, rfl, ⟨Int.emod_nonneg _ (by decide), Int.emod_lt_of_pos _ (by decide)⟩, ?_⟩
    rw [w64 (by omega) (by omega)]; omega
  · rw [if_neg c, i64_and255]
    exact ⟨_, _, _, rfl, ⟨Int.emod_nonneg _ (by decide), Int.emod_lt_of_pos _ (by decide)⟩, hi⟩
theorem below_ok (b : List Int) (i h n : Int) (hi : 0 ≤ i ∧ i ≤ (b.length : Int)) (hb : b.length ≤ 1048576) : ∃ x i' h', spec_l1Below.f b i h n = some (x, i', h') ∧ (0 ≤ x ∧ (0 < n → x < n) ∧ (n ≤ 0 → x = 0)) ∧ (0 ≤ i' ∧ i' ≤ (b.length : Int)) := by
  unfold spec_l1Below.f
  by_cases c0 : n ≤ 0
  · rw [if_pos c0]
    exact ⟨_, _, _, rfl, ⟨by omega, fun h => h, fun _ => rfl⟩, hi⟩
  rw [if_neg c0]
  by_cases c1 : n ≤ 256
  · rw [if_pos c1]
    obtain ⟨x, i', h', e, hx, hi'⟩ := byte_ok b i h hi hb
    rw [e, Option.bind_some, if_neg (by omega)]
    have hm0 := Int.emod_nonneg x (show n ≠ 0 by omega)
    have hm1 := Int.emod_lt_of_pos x (show 0 < n by omega)
    refine ⟨_, _, _, rfl, ?_, hi'⟩
    rw [tmod_nn hx.1]
    exact ⟨hm0, fun _ => hm1, fun h => absurd h c0⟩
  · rw [if_neg c1]
    obtain ⟨x1, i1, h1, e1, g1, k1⟩ := byte_ok b i h hi hb
    obtain ⟨x2, i2, h2, e2, g2, k2⟩ := byte_ok b i1 h1 k1 hb
    obtain ⟨x3, i3, h3, e3, g3, k3⟩ := byte_ok b i2 h2 k2 hb
    obtain ⟨x4, i4, h4, e4, g4, k4⟩ := byte_ok b i3 h3 k3 hb
    rw [e1, Option.bind_some]
    dsimp only
    rw [e2, Option.bind_some]
    dsimp only
    rw [e3, Option.bind_some]
    dsimp only
    rw [e4, Option.bind_some, if_neg (by omega)]
    refine ⟨_, _, _, rfl, ?_, k4⟩
    dsimp only
    rw [w64 (n := x1 * 16777216) (by omega) (by omega), w64 (n := x2 * 65536) (by omega) (by omega), w64 (n := x1 * 16777216 + x2 * 65536) (by omega) (by omega), w64 (n := x3 * 256) (by omega) (by omega),
      w64 (n := x1 * 16777216 + x2 * 65536 + x3 * 256) (by omega) (by omega), w64 (n := x1 * 16777216 + x2 * 65536 + x3 * 256 + x4) (by omega) (by omega), tmod_nn (by omega)]
    have hm0 := Int.emod_nonneg (x1 * 16777216 + x2 * 65536 + x3 * 256 + x4) (show n ≠ 0 by omega)
    have hm1 := Int.emod_lt_of_pos (x1 * 16777216 + x2 * 65536 + x3 * 256 + x4) (show 0 < n by omega)
    exact ⟨hm0, fun _ => hm1, fun h => absurd h c0⟩
theorem new_ok (b : List Int) (hb : b.length ≤ 1048576) : ∃ h, Ev (fun k => spec_l1New.f k b) (b, 0, h) := by
  unfold spec_l1New.f
  have key : ∀ d i : Nat, min b.length 4000 - i = d → i ≤ min b.length 4000 → ∀ x : Int, ∃ h, Ev (fun k => spec_l1New.l0 k b x (i : Int)) (b, 0, h) := by
    intro d
    induction d with
    | zero =>
      intro i hd hi x
      refine ⟨x, ev_const (fun k => ?_)⟩
      simp only [spec_l1New.l0]
      by_cases c : i < b.length
      · rw [if_pos (by omega), if_neg (by omega)]
      · rw [if_neg (by omega)]
    | succ d ih =>
      intro i hd hi x
      obtain ⟨h, hh⟩ := ih (i + 1) (by omega) (by omega) (Go.bits .and .i64 (wrap64 ((wrap64 ((wrap64 (x * 131)) + (wrap64 (rd b (i : Int))))) + 7)) 1073741823)
      refine ⟨h, Ev.step (fun k => ?_) hh⟩
      simp only [spec_l1New.l0]
      rw [if_pos (by omega), if_pos (by omega), if_pos (by omega), show wrap64 ((i : Int) + 1) = ((i + 1 : Nat) : Int) by rw [w64 (by omega) (by omega)]; omega]
  exact key (min b.length 4000) 0 (by omega) (by omega) _

theorem pickI_ok (b : List Int) (i h : Int) (l : List Int) (hi : 0 ≤ i ∧ i ≤ (b.length : Int)) (hb : b.length ≤ 1048576) (hl : 0 < l.length) (hl2 : l.length ≤ 256) : ∃ n i' h', spec_l1PickInt.f b i h l = some (rd l (n : Int), i', h') ∧ (0 ≤ n ∧ n < (l.length : Int)) ∧ (0 ≤ i' ∧ i' ≤ (b.length : Int)) := by
  unfold spec_l1PickInt.f
  obtain ⟨x, i1, h1, e1, g1, k1⟩ := below_ok b i h (l.length : Int) hi hb
  have hx := g1.2.1 (by omega)
  rw [e1, Option.bind_some]
  dsimp only
  rw [if_pos g1.1, if_pos hx]
  exact ⟨x, i1, h1, rfl, ⟨g1.1, hx⟩, k1⟩
theorem values_loop (b : List Int) (hb : b.length ≤ 1048576) (wd : Int) : ∀ (n : Nat) (x : List Int) (i h : Int), (0 ≤ i ∧ i ≤ (b.length : Int)) → x.length + n ≤ 100000 →
    ∃ l i' h', Ev (fun k => spec_l2Values.l0 k x wd (n : Int) b i h) (l, i', h') ∧ l.length = x.length + n ∧ (0 ≤ i' ∧ i' ≤ (b.length : Int)) := by
  intro n
  induction n with
  | zero =>
    intro x i h hi hn
    refine ⟨x, i, h, ev_const (fun k => ?_), by omega, hi⟩
    simp only [spec_l2Values.l0]
    rw [if_neg (by omega)]
  | succ n ih =>
    intro x i h hi hn
    obtain ⟨y, i1, h1, e1, g1, k1⟩ := below_ok b i h wd hi hb
    obtain ⟨l, i2, h2, e2, hl, k2⟩ := ih (x ++ [wrap64 (y - (wrap64 (Int.tdiv wd 3)))]) i1 h1 k1 (by simp; omega)
    refine ⟨l, i2, h2, Ev.step (fun k => ?_) e2, by simp at hl; omega, k2⟩
    simp only [spec_l2Values.l0]
    rw [if_pos (by omega), e1, Option.bind_some]
    dsimp only
    rw [if_pos (by omega), w64 (n := ((n + 1 : Nat) : Int) - 1) (by omega) (by omega), show ((n + 1 : Nat) : Int) - 1 = (n : Int) by omega]
theorem values_ok (b : List Int) (hb : b.length ≤ 1048576) (i h m : Int) (hi : 0 ≤ i ∧ i ≤ (b.length : Int)) (hm : 0 ≤ m ∧ m ≤ 1000) : ∃ l i' h', Ev (fun k => spec_l2Values.f k b i h m) (l, i', h') ∧ (l.length : Int) ≤ m ∧ (0 ≤ i' ∧ i' ≤ (b.length : Int)) := by
  unfold spec_l2Values.f
  obtain ⟨n, i1, h1, e1, g1, k1⟩ := pickI_ok b i h [3, 10, 30, 1000] hi hb (by decide) (by decide)
  obtain ⟨y, i2, h2, e2, g2, k2⟩ := below_ok b i1 h1 (m + 1) k1 hb
  have hy := g2.2.1 (by omega)
  obtain ⟨l, i3, h3, e3, hl, k3⟩ := values_loop b hb (rd [3, 10, 30, 1000] n) y.toNat [] i2 h2 k2 (by simp; omega)
  refine ⟨l, i3, h3, ev_pure e1 ?_, by simp at hl; omega, k3⟩
  dsimp only
  rw [w64 (n := m + 1) (by omega) (by omega)]
  refine ev_pure e2 ?_
  dsimp only
  rw [show ((y.toNat : Nat) : Int) = y by omega] at e3
  exact e3

def newC (l : List Int) : List Int × List Int × List S90 := if areV l = true then (l, mk 0 l.length, []) else ([], [], [])
theorem specNew_ev (l : List Int) (hl : l.length ≤ 1048576) : Ev (fun k => spec_NewCracker.f k l) (newC l) := by
  unfold spec_NewCracker.f newC
  have hs := specAreValues_ev l (by omega)
  cases h : areV l with
  | false =>
    rw [h] at hs
    exact Ev.bind hs (ev_ifn (by simp) (ev_some _))
  | true =>
    rw [h] at hs
    have hm := mk_len 0 l.length
    rw [if_pos rfl]
    refine Ev.bind hs (ev_ifp rfl (ev_pure rfl (ev_ifp (by simp; omega) ?_)))
    rw [List.nil_append]
    have hh := down_ev l.length (fun k i => spec_NewCracker.l0 k l (i : Int) l ((mk 0 l.length).take i)) (l, mk 0 l.length, ([] : List S90)) ?_ ?_
    · simpa using hh
    · intro i hi ih
      refine Ev.step (fun k => ?_) ih
      simp only [spec_NewCracker.l0]
      rw [if_pos (by omega), if_pos (by rw [List.length_take]; omega), wS hi (by omega), take_snoc _ i (by omega), mk_at, Int.zero_add]
    · refine ev_const (fun k => ?_)
      simp only [spec_NewCracker.l0]
      rw [if_neg (by omega), List.take_of_length_le (by omega)]

theorem onceD (b : List Int) (i h n : Int) (hi : 0 ≤ i ∧ i ≤ (b.length : Int)) (hb : b.length ≤ 1048576) : ∃ x i' h', spec_l1Once.f b i h n = some (x, i', h') ∧ (0 ≤ i' ∧ i' ≤ (b.length : Int)) := by
  unfold spec_l1Once.f
  obtain ⟨x, i1, h1, e1, _, k1⟩ := below_ok b i h n hi hb
  exact ⟨_, i1, h1, by rw [e1]; rfl, k1⟩
theorem valueD (b : List Int) (i h : Int) (V R : List Int) (P : List S90) (hi : 0 ≤ i ∧ i ≤ (b.length : Int)) (hb : b.length ≤ 1048576) : ∃ x i' h', Ev (fun k => spec_l4Value.f k b i h V R P) (x, i', h') ∧ (0 ≤ i' ∧ i' ≤ (b.length : Int)) := by
  have pick : ∀ i h, (0 ≤ i ∧ i ≤ (b.length : Int)) → ∃ x i' h', Ev (fun k => spec_l4Value.j0 k false b i h V R P) (x, i', h') ∧ (0 ≤ i' ∧ i' ≤ (b.length : Int)) := by
    intro i h hi
    obtain ⟨n, i1, h1, e1, _, k1⟩ := pickI_ok b i h [0, 3, -2, -1000, 1000, 50] hi hb (by decide) (by decide)
    exact ⟨_, i1, h1, ev_const (fun k => by simp only [spec_l4Value.j0, e1, Option.bind_some]; rfl), k1⟩
  unfold spec_l4Value.f
  by_cases c : (V.length : Int) > 0
  · obtain ⟨x, i1, h1, e1, k1⟩ := onceD b i h 4 hi hb
    cases x with
    | true =>
      obtain ⟨y, i2, h2, e2, k2⟩ := pick i1 h1 k1
      exact ⟨y, i2, h2, ev_ifp c (ev_pure e1 e2), k2⟩
    | false =>
      obtain ⟨n, i2, h2, e2, g2, k2⟩ := below_ok b i1 h1 (V.length : Int) k1 hb
      obtain ⟨m, i3, h3, e3, _, k3⟩ := below_ok b i2 h2 3 k2 hb
      have := g2.2.1 c
      exact ⟨_, i3, h3, ev_ifp c (ev_pure e1 (ev_const (fun k => by
        simp only [spec_l4Value.j0]
        rw [if_pos (by rfl), e2, Option.bind_some, if_pos g2.1, if_pos this, e3]
        rfl))), k3⟩
  · obtain ⟨y, i2, h2, e2, k2⟩ := pick i h hi
    exact ⟨y, i2, h2, ev_ifn c e2, k2⟩
theorem crackerD0 (b : List Int) (hb : b.length ≤ 1048576) : ∀ (n : Nat) (i h : Int) (V R : List Int) (P : List S90), (0 ≤ i ∧ i ≤ (b.length : Int)) → n ≤ 4 → V.length ≤ 1000 → R.length ≤ 1000 → (P.length + 1) * 2 ^ n ≤ 64 → ∃ V' R' P' i' h', Ev (fun k => spec_l4Cracker.l0 k (n : Int) b i h V R P) (V', R', P', i', h') ∧ V'.length = V.length ∧ R'.length = R.length ∧ P'.length ≤ 64 ∧ (0 ≤ i' ∧ i' ≤ (b.length : Int)) := by
  intro n
  induction n with
  | zero => intro i h V R P hi hn hV hR hP; exact ⟨V, R, P, i, h, ev_const (fun k => by simp only [spec_l4Cracker.l0]; rw [if_neg (by omega)]), rfl, rfl, by omega, hi⟩
  | succ n ih =>
    intro i h V R P hi hn hV hR hP
    have hP2 : P.length + 1 ≤ 64 := by
      have : 0 < 2 ^ (n + 1) := Nat.pow_pos (by decide)
      exact Nat.le_trans (Nat.le_mul_of_pos_right _ this) hP
    obtain ⟨x, i1, h1, e1, k1⟩ := valueD b i h V R P hi hb
    obtain ⟨⟨V1, R1, P1, s1, o1⟩, e2, l1, l2, l3⟩ := crackT V R P x (by omega) (by omega) (by omega)
    dsimp only at l1 l2 l3
    have hP3 : (P1.length + 1) * 2 ^ n ≤ 64 := by
      refine Nat.le_trans (Nat.mul_le_mul_right _ (show P1.length + 1 ≤ (P.length + 1) * 2 by omega)) ?_
      rw [Nat.mul_assoc, ← Nat.pow_succ']
      exact hP
    obtain ⟨V2, R2, P2, i2, h2, e3, m1, m2, m3, k2⟩ := ih i1 h1 V1 R1 P1 k1 (by omega) (by omega) (by omega) hP3
    refine ⟨V2, R2, P2, i2, h2, Ev.step (fun k => by simp only [spec_l4Cracker.l0]; rfl) (ev_ifp (by omega) (Ev.bind e1 (Ev.bind e2 ?_))), by omega, by omega, m3, k2⟩
    rw [show ((n + 1 : Nat) : Int) - 1 = (n : Int) by omega, w64 (by omega) (by omega)]
    exact e3
theorem crackerD (b : List Int) (hb : b.length ≤ 1048576) (i h : Int) (hi : 0 ≤ i ∧ i ≤ (b.length : Int)) : ∃ V R P i' h', Ev (fun k => spec_l4Cracker.f k b i h) (V, R, P, i', h') ∧ V.length ≤ 14 ∧ R.length ≤ 14 ∧ P.length ≤ 64 ∧ (0 ≤ i' ∧ i' ≤ (b.length : Int)) := by
  unfold spec_l4Cracker.f
  obtain ⟨l, i1, h1, e1, hl, k1⟩ := values_ok b hb i h 14 hi (by omega)
  obtain ⟨n, i2, h2, e2, g2, k2⟩ := below_ok b i1 h1 5 k1 hb
  have hn := g2.2.1 (by omega)
  have hnew := specNew_ev l (by omega)
  have hlen : (newC l).1.length ≤ 14 ∧ (newC l).2.1.length ≤ 14 ∧ (newC l).2.2 = [] := by
    unfold newC
    split <;> simp [mk_len] <;> omega
  have hpow : ((newC l).2.2.length + 1) * 2 ^ n.toNat ≤ 64 := by
    rw [hlen.2.2]
    have : n.toNat ≤ 4 := by omega
    have : 2 ^ n.toNat ≤ 2 ^ 4 := Nat.pow_le_pow_right (by decide) this
    simp; omega
  obtain ⟨V, R, P, i3, h3, e3, m1, m2, m3, k3⟩ := crackerD0 b hb n.toNat i2 h2 (newC l).1 (newC l).2.1 (newC l).2.2 k2 (by omega) (by omega) (by omega) hpow
  refine ⟨V, R, P, i3, h3, Ev.bind e1 (Ev.bind hnew (ev_pure e2 ?_)), by omega, by omega, m3, k3⟩
  rw [show ((n.toNat : Nat) : Int) = n by omega] at e3
  exact e3
theorem anyD (b : List Int) (hb : b.length ≤ 1048576) (i h : Int) (hi : 0 ≤ i ∧ i ≤ (b.length : Int)) : ∃ V R P i' h', Ev (fun k => spec_l4Any.f k b i h) (V, R, P, i', h') ∧ V.length ≤ 14 ∧ R.length ≤ 15 ∧ P.length ≤ 65 ∧ (0 ≤ i' ∧ i' ≤ (b.length : Int)) := by
  unfold spec_l4Any.f
  obtain ⟨V, R, P, i1, h1, e1, hV, hR, hP, k1⟩ := crackerD b hb i h hi
  obtain ⟨n, i2, h2, e2, _, k2⟩ := below_ok b i1 h1 12 k1 hb
  by_cases c0 : n = 0
  · by_cases cv : (V.length : Int) > 0
    · obtain ⟨m, i3, h3, e3, _, k3⟩ := pickI_ok b i2 h2 [0, 999, 1000, -5] k2 hb (by decide) (by decide)
      exact ⟨V.set (0 : Int).toNat (rd [0, 999, 1000, -5] m), R, P, i3, h3, Ev.bind e1 (ev_pure e2 (ev_ifp c0 (ev_ifp cv (ev_pure e3 (ev_ifp (by omega) (ev_some _)))))), by simp; omega, by omega, by omega, k3⟩
    · exact ⟨V, R, P, i2, h2, Ev.bind e1 (ev_pure e2 (ev_ifp c0 (ev_ifn cv (ev_some _)))), by omega, by omega, by omega, k2⟩
  · by_cases c1 : n = 1
    · obtain ⟨m, i3, h3, e3, _, k3⟩ := below_ok b i2 h2 9 k2 hb
      obtain ⟨m2, i4, h4, e4, _, k4⟩ := below_ok b i3 h3 9 k3 hb
      exact ⟨V, R, P ++ [⟨m, m2⟩], i4, h4, Ev.bind e1 (ev_pure e2 (ev_ifn c0 (ev_ifp c1 (ev_pure e3 (ev_pure e4 (ev_ifp (by dsimp only; omega) (ev_some _))))))), by omega, by omega, by simp; omega, k4⟩
    · by_cases c2 : n = 2
      · exact ⟨V, R ++ [0], P, i2, h2, Ev.bind e1 (ev_pure e2 (ev_ifn c0 (ev_ifn c1 (ev_ifp c2 (ev_ifp (by dsimp only; omega) (ev_some _)))))), by omega, by simp; omega, by omega, k2⟩
      · exact ⟨V, R, P, i2, h2, Ev.bind e1 (ev_pure e2 (ev_ifn c0 (ev_ifn c1 (ev_ifn c2 (ev_some _))))), by omega, by omega, by omega, k2⟩

theorem settingsD (b : List Int) (hb : b.length ≤ 1048576) (i h : Int) (hi : 0 ≤ i ∧ i ≤ (b.length : Int)) : ∃ p t s i' h', spec_l7Any.f b i h = some (p, t, s, i', h') ∧ (0 ≤ i' ∧ i' ≤ (b.length : Int)) := by
  have h0 : ∃ p t s i' h', spec_l7Settings.f b i h = some (p, t, s, i', h') ∧ (0 ≤ i' ∧ i' ≤ (b.length : Int)) := by
    unfold spec_l7Settings.f
    obtain ⟨x1, i1, h1, e1, _, k1⟩ := below_ok b i h 3 hi hb
    obtain ⟨x2, i2, h2, e2, _, k2⟩ := pickI_ok b i1 h1 [1, 2, 3, 5, 64] k1 hb (by decide) (by decide)
    obtain ⟨x3, i3, h3, e3, _, k3⟩ := below_ok b i2 h2 10007 k2 hb
    exact ⟨x1, _, x3, i3, h3, by rw [e1, Option.bind_some]; dsimp only; rw [e2, Option.bind_some]; dsimp only; rw [e3]; rfl, k3⟩
  obtain ⟨p, t, s, i1, h1, e1, k1⟩ := h0
  obtain ⟨n, i2, h2, e2, _, k2⟩ := below_ok b i1 h1 10 k1 hb
  unfold spec_l7Any.f
  by_cases c0 : n = 0
  · obtain ⟨m, i3, h3, e3, _, k3⟩ := pickI_ok b i2 h2 [-1, 3] k2 hb (by decide) (by decide)
    exact ⟨_, _, _, i3, h3, by rw [e1, Option.bind_some]; dsimp only; rw [e2, Option.bind_some]; dsimp only; rw [if_pos c0, e3]; rfl, k3⟩
  · by_cases c1 : n = 1
    · obtain ⟨m, i3, h3, e3, _, k3⟩ := pickI_ok b i2 h2 [0, 1, 64, 65] k2 hb (by decide) (by decide)
      exact ⟨_, _, _, i3, h3, by rw [e1, Option.bind_some]; dsimp only; rw [e2, Option.bind_some]; dsimp only; rw [if_neg c0, if_pos c1, e3]; rfl, k3⟩
    · by_cases c2 : n = 2
      · obtain ⟨m, i3, h3, e3, _, k3⟩ := pickI_ok b i2 h2 [-1, 0, 10006, 10007] k2 hb (by decide) (by decide)
        exact ⟨_, _, _, i3, h3, by rw [e1, Option.bind_some]; dsimp only; rw [e2, Option.bind_some]; dsimp only; rw [if_neg c0, if_neg c1, if_pos c2, e3]; rfl, k3⟩
      · exact ⟨_, _, _, i2, h2, by rw [e1, Option.bind_some]; dsimp only; rw [e2, Option.bind_some]; dsimp only; rw [if_neg c0, if_neg c1, if_neg c2], k2⟩

theorem sameInts_ev (l m : List Int) (hl : l.length ≤ 4611686018427387904) : Ev (fun k => laws_sameInts.f k l m) (decide (l = m)) := by
  unfold laws_sameInts.f
  by_cases hlm : l.length = m.length
  · refine ev_ifp (by omega) ?_
    refine loop_ev l.length (fun i => ∀ j (h : j < l.length), j < i → l[j] = m[j]'(by omega)) (fun k i => laws_sameInts.l0 k l m (i : Int)) (decide (l = m)) (fun j _ h => absurd h (Nat.not_lt_zero _)) ?_ ?_
    · intro i hi hc ih
      have hi2 : i < m.length := by omega
      by_cases e : l[i] = m[i]
      · refine Ev.step (fun k => ?_) (ih (fun j h hj => ?_))
        · simp only [laws_sameInts.l0]
          simp only [if_pos (show (i : Int) < (l.length : Int) by omega), if_pos (show (0 : Int) ≤ (i : Int) by omega), if_pos (show (i : Int) < (m.length : Int) by omega), rd_nat hi, rd_nat hi2, if_pos e, wS hi (by omega)]
        · by_cases hji : j = i
          · subst hji; exact e
          · exact hc j h (by omega)
      · refine ev_const (fun k => ?_)
        simp only [laws_sameInts.l0]
        simp only [if_pos (show (i : Int) < (l.length : Int) by omega), if_pos (show (0 : Int) ≤ (i : Int) by omega), if_pos (show (i : Int) < (m.length : Int) by omega), rd_nat hi, rd_nat hi2, if_neg e]
        have : l ≠ m := fun hh => e (by subst hh; rfl)
        simp [this]
    · intro hc
      refine ev_const (fun k => ?_)
      simp only [laws_sameInts.l0]
      rw [if_neg (by omega)]
      have : l = m := List.ext_getElem hlm (fun j h1 h2 => hc j h1 h1)
      simp [this]
  · refine ev_ifn (by omega) ?_
    have : l ≠ m := fun hh => hlm (by rw [hh])
    exact ev_eq (ev_some _) (by simp [this])

theorem srt_perm (l : List Int) : (srt l).Perm l := List.mergeSort_perm l _
theorem srt_sorted (l : List Int) : (srt l).Pairwise (· ≤ ·) := by
  have := List.pairwise_mergeSort (le := fun x y : Int => decide (x ≤ y)) (fun a b c h1 h2 => by simp at *; omega) (fun a b => by simp; omega) l
  exact this.imp (fun h => by simpa using h)
theorem countP_zero (p : Int → Bool) (l : List Int) (h : ∀ x ∈ l, p x = false) : l.countP p = 0 := by
  rw [List.countP_eq_zero]
  intro a ha
  rw [h a ha]; simp
theorem med_counts (l : List Int) (j : Nat) (hj : j < l.length) : l.countP (fun x => decide (x < (srt l)[j]'(by rw [srt_len]; exact hj))) ≤ j ∧ l.countP (fun x => decide (x > (srt l)[j]'(by rw [srt_len]; exact hj))) ≤ l.length - (j + 1) := by
  have hs := srt_sorted l
  have hl := srt_len l
  have hj2 : j < (srt l).length := by rw [hl]; exact hj
  rw [List.pairwise_iff_getElem] at hs
  generalize hm : (srt l)[j] = m
  constructor
  · rw [← (srt_perm l).countP_eq, ← List.take_append_drop j (srt l), List.countP_append]
    have h0 : ((srt l).drop j).countP (fun x => decide (x < m)) = 0 := by
      refine countP_zero _ _ (fun x hx => ?_)
      obtain ⟨i, hi, rfl⟩ := List.mem_iff_getElem.1 hx
      rw [List.getElem_drop, decide_eq_false_iff_not]
      rw [List.length_drop] at hi
      by_cases e : i = 0
      · subst e; simp [← hm]
      · have := hs j (j + i) hj2 (by omega) (by omega); omega
    rw [h0]
    have := List.countP_le_length (p := fun x => decide (x < m)) (l := (srt l).take j)
    rw [List.length_take] at this
    omega
  · rw [← (srt_perm l).countP_eq, ← List.take_append_drop (j + 1) (srt l), List.countP_append]
    have h0 : ((srt l).take (j + 1)).countP (fun x => decide (x > m)) = 0 := by
      refine countP_zero _ _ (fun x hx => ?_)
      obtain ⟨i, hi, rfl⟩ := List.mem_iff_getElem.1 hx
      rw [List.length_take] at hi
      rw [List.getElem_take, decide_eq_false_iff_not]
      by_cases e : i = j
      · subst e; simp [← hm]
      · have := hs i j (by omega) hj2 (by omega); omega
    rw [h0]
    have := List.countP_le_length (p := fun x => decide (x > m)) (l := (srt l).drop (j + 1))
    rw [List.length_drop, hl] at this
    omega
theorem median_val (l : List Int) (hl : l.length ≤ 64) : ∃ m, Ev (fun k => spec_MedianOf.f k l) m ∧ impl_MedianOf.f l = some m ∧ (l.countP (fun x => decide (x < m)) : Int) ≤ (l.length : Int) / 2 ∧ (l.countP (fun x => decide (x > m)) : Int) ≤ (l.length : Int) / 2 := by
  unfold spec_MedianOf.f impl_MedianOf.f
  by_cases h0 : (l.length : Int) = 0
  · have : l = [] := List.eq_nil_of_length_eq_zero (by omega)
    subst this
    exact ⟨0, ev_ifp h0 (ev_some _), by rw [if_pos h0], by simp, by simp⟩
  have h1 : ¬ (l.length : Int) > 64 := by omega
  have hx := srt_len l
  have hw : wrap64 (Int.tdiv (wrap64 ((l.length : Int) - 1)) 2) = ((l.length : Int) - 1) / 2 := by
    rw [w64 (n := (l.length : Int) - 1) (by omega) (by omega), tdiv_nn (by omega), w64 (by omega) (by omega)]
  rw [hw]
  have hj : (l.length - 1) / 2 < l.length := by omega
  obtain ⟨c1, c2⟩ := med_counts l ((l.length - 1) / 2) hj
  have e : rd (srt l) (((l.length : Int) - 1) / 2) = (srt l)[(l.length - 1) / 2]'(by omega) := by
    rw [show ((l.length : Int) - 1) / 2 = (((l.length - 1) / 2 : Nat) : Int) by omega]
    exact rd_nat (by omega)
  refine ⟨rd (srt l) (((l.length : Int) - 1) / 2), ev_ifn h0 (ev_ifn h1 (Ev.bind (specSort_ev l (by omega)) (ev_ifp (by omega) (ev_ifp (by omega) (ev_some _))))), by rw [if_neg h0, if_neg h1, implSort (by omega), Option.bind_some, if_pos (by omega), if_pos (by omega)], ?_, ?_⟩
  · rw [e]; omega
  · rw [e]; omega
theorem btoi_eq (b : Bool) : laws_btoi.f b = some (if b = true then 1 else 0) := by unfold laws_btoi.f; cases b <;> rfl
theorem count_take (p : Int → Bool) (l : List Int) (i : Nat) (hi : i < l.length) : ((l.take (i + 1)).countP p : Int) = ((l.take i).countP p : Int) + (if p l[i] = true then 1 else 0) := by
  rw [List.take_succ_eq_append_getElem hi, List.countP_append, List.countP_singleton]
  split <;> simp


end Go.Proofs.Ytlikcmonejefoac.Pure.FnMedians
namespace Go.Proofs.Ytlikcmonejefoac.Pure
open Go.RowKit Go.Proofs.Ytlikcmonejefoac.PFnMedians Go.Proofs.YtlikcmonejefoacW.PrintWords Go.Proofs.YtlikcmonejefoacW.PrintLast Go.Proofs.YtlikcmonejefoacW.PrintMore Go.Proofs.Ytlikcmonejefoac.B Go.Proofs.Ytlikcmonejefoac.Pure.FnMedians
theorem FnMedians : laws_FnMedians.Pure := by
  intro b hb1 hb2 hb3
  refine Ev.rounds (g := fun k => laws_FnMedians.f k b) ?_
  unfold laws_FnMedians.f
  by_cases hbig : (b.length : Int) > 1048576
  · refine ev_pure (a := true) (by unfold laws_big.f; rw [decide_eq_true hbig]) (ev_ifp rfl (ev_some _))
  refine ev_pure (a := false) (by unfold laws_big.f; rw [decide_eq_false hbig]) (ev_ifn (by simp) ?_)
  have hb : b.length ≤ 1048576 := by omega
  obtain ⟨o, eo⟩ := new_ok b hb
  obtain ⟨l, i1, o1, e1, hl, k1⟩ := values_ok b hb 0 o 10 ⟨by omega, by omega⟩ (by omega)
  have eD : Ev (fun k => spec_DrawMedianOf.f k b) l := by
    unfold spec_DrawMedianOf.f
    exact Ev.bind eo (Ev.bind e1 (ev_some _))
  obtain ⟨m, em, im, c1, c2⟩ := median_val l (by omega)
  refine Ev.bind eD (ev_pure im (Ev.bind em (ev_ifp rfl ?_)))
  have key := down_ev l.length (fun k i => laws_FnMedians.l0 k b l m ((l.take i).countP (fun x => decide (x < m)) : Int) ((l.take i).countP (fun x => decide (x > m)) : Int) (i : Int)) true ?_ ?_
  · simpa using key
  · intro i hi hr
    refine Ev.step (fun k => ?_) hr
    have q1 := count_take (fun x => decide (x < m)) l i hi
    have q2 := count_take (fun x => decide (x > m)) l i hi
    have z1 : (l.take i).countP (fun x => decide (x < m)) ≤ i := Nat.le_trans List.countP_le_length (by rw [List.length_take]; omega)
    have z2 : (l.take i).countP (fun x => decide (x > m)) ≤ i := Nat.le_trans List.countP_le_length (by rw [List.length_take]; omega)
    simp only [laws_FnMedians.l0, btoi_eq, Option.bind_some]
    rw [if_pos (by omega), if_pos (by omega), rd_nat hi, q1, q2, wS hi (by omega)]
    rw [w64 (n := ((l.take i).countP (fun x => decide (x < m)) : Int) + _) (by split <;> omega) (by split <;> omega), w64 (n := ((l.take i).countP (fun x => decide (x > m)) : Int) + _) (by split <;> omega) (by split <;> omega)]
  · refine Ev.step (fun k => by simp only [laws_FnMedians.l0, List.take_length]; rfl) (ev_ifn (by omega) ?_)
    -- the draw of a column, of settings and of a piece
    obtain ⟨V, R, P, i2, o2, e2, hV, hR, hP, k2⟩ := anyD b hb 0 o ⟨by omega, by omega⟩
    obtain ⟨p, t, s, i3, o3, e3, k3⟩ := settingsD b hb i2 o2 k2
    obtain ⟨x4, i4, o4, e4, _, k4⟩ := below_ok b i3 o3 5 k3 hb
    obtain ⟨x5, i5, o5, e5, _, k5⟩ := below_ok b i4 o4 2 k4 hb
    obtain ⟨x6, i6, o6, e6, _, k6⟩ := below_ok b i5 o5 9 k5 hb
    have eC : Ev (fun k => spec_DrawChoosePivot.f k b) (V, R, P, p, t, s, wrap64 (x4 - x5), wrap64 ((wrap64 (x4 - x5)) + x6)) := by
      unfold spec_DrawChoosePivot.f
      exact Ev.bind eo (Ev.bind e2 (ev_pure e3 (ev_pure e4 (ev_pure e5 (ev_pure e6 (ev_some _))))))
    obtain ⟨⟨y0, y1, y2, y3⟩, ys, yi⟩ := choose_same V R P p t s (wrap64 (x4 - x5)) (wrap64 ((wrap64 (x4 - x5)) + x6)) (by omega) (by omega) (by omega)
    obtain ⟨n1, i7, o7, e7, _, k7⟩ := pickI_ok b 0 o [-1, 0, 1, 7, 64, 1000, 9223372036854775807] ⟨by omega, by omega⟩ hb (by decide) (by decide)
    obtain ⟨n2, i8, o8, e8, _, k8⟩ := pickI_ok b i7 o7 [-1, 0, 1, 3, 64] k7 hb (by decide) (by decide)
    have eL : Ev (fun k => spec_DrawLevels.f k b) (rd [-1, 0, 1, 7, 64, 1000, 9223372036854775807] n1, rd [-1, 0, 1, 3, 64] n2) := by
      unfold spec_DrawLevels.f
      exact Ev.bind eo (ev_pure e7 (ev_pure e8 (ev_some _)))
    obtain ⟨n3, i9, o9, e9, _, k9⟩ := pickI_ok b 0 o [0, 1, 10006, 10007, -1, 9223372036854775807, 55] ⟨by omega, by omega⟩ hb (by decide) (by decide)
    have eS : Ev (fun k => spec_DrawNextSeed.f k b) (rd [0, 1, 10006, 10007, -1, 9223372036854775807, 55] n3) := by
      unfold spec_DrawNextSeed.f
      exact Ev.bind eo (ev_pure e9 (ev_some _))
    obtain ⟨z, zs, zi, z1, z2⟩ := seed_same (rd [0, 1, 10006, 10007, -1, 9223372036854775807, 55] n3)
    obtain ⟨lv, ls, li⟩ := levels_ev (rd [-1, 0, 1, 7, 64, 1000, 9223372036854775807] n1) (rd [-1, 0, 1, 3, 64] n2)
    have hw : wrap64 ((l.length : Int) / 2) = (l.length : Int) / 2 := w64 (by omega) (by omega)
    refine Ev.bind eC (Ev.bind yi (Ev.bind ys (Ev.bind eL (Ev.bind eS (ev_pure zi ?_)))))
    rw [hw]
    refine ev_ifp c1 (ev_ifp c2 (ev_ifp rfl (ev_ifp (by simp) ?_)))
    refine Ev.bind li (Ev.bind ls (ev_ifp rfl (ev_pure zs (ev_ifp rfl (ev_ifp z1 (ev_ifp z2 ?_))))))
    refine ev_pure (implSort (by omega)) (Ev.bind (specSort_ev l (by omega)) (Ev.bind (sameInts_ev _ _ (by rw [srt_len]; omega)) ?_))
    exact ev_eq (ev_some _) (by simp)

end Go.Proofs.Ytlikcmonejefoac.Pure
