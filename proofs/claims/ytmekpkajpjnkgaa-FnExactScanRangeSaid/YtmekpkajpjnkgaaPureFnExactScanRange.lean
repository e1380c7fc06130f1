/- ScanRange of the program returns what the reference returns, for every list and range; it leaves the list as it was and shares no memory with it. No condition. -/
import Derived.Test.YtmekpkajpjnkgaaPFnExactScanRangex0
import Derived.Test.YtmekpkajpjnkgaaPFnExactScanRangex1
import Derived.Test.YtmekpkajpjnkgaaPFnExactScanRangex2
import Derived.Test.YtmekpkajpjnkgaaPFnExactScanRangex3
import Derived.Test.YtmekpkajpjnkgaaB
set_option linter.unusedVariables false
set_option linter.unusedSimpArgs false
namespace Go.Proofs.Ytmekpkajpjnkgaa.Pure.FnExactScanRange
open Go.RowKit Go.Proofs.Ytmekpkajpjnkgaa.PFnExactScanRange Go.Proofs.YtmekpkajpjnkgaaW.PrintWords Go.Proofs.YtmekpkajpjnkgaaW.PrintLast Go.Proofs.YtmekpkajpjnkgaaW.PrintMore Go.Proofs.Ytmekpkajpjnkgaa.B

theorem toIntS_ev (l : List Int) (hl : l.length ≤ 1048576) : Ev (fun k => laws_toIntS.f k l) l := by
  unfold laws_toIntS.f
  refine ev_ifp (by omega) (ev_ifp (by omega) ?_)
  rw [show ((l.length : Int)).toNat = l.length by omega]
  have h := down_ev l.length (fun k i => laws_toIntS.l0 k l (l.take i ++ (List.replicate l.length (0 : Int)).drop i) (i : Int)) l ?_ ?_
  · simpa using h
  · intro i hi ih
    refine Ev.step (fun k => ?_) ih
    simp only [laws_toIntS.l0]
    rw [if_pos (by omega), if_pos (by omega), if_pos (by rw [step_len _ _ (by simp) _ (by omega)]; omega), rd_nat hi, wS hi (by omega), Int.toNat_natCast, set_step _ _ (by simp) _ hi]
  · refine ev_const (fun k => ?_)
    simp only [laws_toIntS.l0]
    rw [if_neg (by omega)]
    simp

theorem eqIntS_ev (l m : List Int) (hl : l.length ≤ 4611686018427387904) : Ev (fun k => laws_eqIntS.f k l m) (decide (l = m)) := by
  unfold laws_eqIntS.f
  by_cases hlm : l.length = m.length
  · refine ev_ifp (by omega) ?_
    refine loop_ev l.length (fun i => ∀ j (h : j < l.length), j < i → l[j] = m[j]'(by omega)) (fun k i => laws_eqIntS.l0 k l m (i : Int)) (decide (l = m)) (fun j _ h => absurd h (Nat.not_lt_zero _)) ?_ ?_
    · intro i hi hc ih
      have hi2 : i < m.length := by omega
      by_cases e : l[i] = m[i]
      · refine Ev.step (fun k => ?_) (ih (fun j h hj => ?_))
        · simp only [laws_eqIntS.l0]
          simp only [if_pos (show (i : Int) < (l.length : Int) by omega), if_pos (show (0 : Int) ≤ (i : Int) by omega), if_pos (show (i : Int) < (m.length : Int) by omega), rd_nat hi, rd_nat hi2, if_pos e, wS hi (by omega)]
        · by_cases hji : j = i
          · subst hji; exact e
          · exact hc j h (by omega)
      · refine ev_const (fun k => ?_)
        simp only [laws_eqIntS.l0]
        simp only [if_pos (show (i : Int) < (l.length : Int) by omega), if_pos (show (0 : Int) ≤ (i : Int) by omega), if_pos (show (i : Int) < (m.length : Int) by omega), rd_nat hi, rd_nat hi2, if_neg e]
        have : l ≠ m := fun hh => e (by subst hh; rfl)
        simp [this]
    · intro hc
      refine ev_const (fun k => ?_)
      simp only [laws_eqIntS.l0]
      rw [if_neg (by omega)]
      have : l = m := List.ext_getElem hlm (fun j h1 h2 => hc j h1 h1)
      simp [this]
  · refine ev_ifn (by omega) ?_
    have : l ≠ m := fun hh => hlm (by rw [hh])
    exact ev_eq (ev_some _) (by simp [this])

theorem markIntS_ev (l : List Int) (a : Int) (h0 : 0 ≤ a) (h1 : a + l.length ≤ 4611686018427387904) : Ev (fun k => laws_markIntS.f k l a) (a + l.length, mk a l.length) := by
  unfold laws_markIntS.f
  have hml := mk_len a l.length
  have h := down_ev l.length (fun k i => laws_markIntS.l0 k ((mk a l.length).take i ++ l.drop i) (a + (i : Int)) (i : Int)) (a + l.length, mk a l.length) ?_ ?_
  · simpa using h
  · intro i hi ih
    refine Ev.step (fun k => ?_) ih
    simp only [laws_markIntS.l0]
    rw [if_pos (by rw [step_len _ _ (by omega) _ (by omega)]; omega), if_pos (by omega), Int.toNat_natCast, wS hi (by omega), w64 (n := a + (i : Int) + 1) (by omega) (by omega)]
    have e := set_step (mk a l.length) l (by omega) i (by omega)
    rw [mk_at] at e
    rw [e, Int.natCast_add, ← Int.add_assoc]
    rfl
  · refine ev_const (fun k => ?_)
    simp only [laws_markIntS.l0]
    rw [if_neg (by rw [step_len _ _ (by omega) _ (by omega)]; omega)]
    rw [List.take_of_length_le (by omega), List.drop_eq_nil_of_le (by omega), List.append_nil]

theorem heldIntS_ev (n : Nat) (a : Int) (h0 : 0 ≤ a) (h1 : a + n ≤ 4611686018427387904) : Ev (fun k => laws_heldIntS.f k (mk a n) a) (a + n) := by
  unfold laws_heldIntS.f
  have hml := mk_len a n
  have h := down_ev n (fun k i => laws_heldIntS.l0 k (mk a n) (a + (i : Int)) (i : Int)) (a + n) ?_ ?_
  · simpa using h
  · intro i hi ih
    refine Ev.step (fun k => ?_) ih
    simp only [laws_heldIntS.l0]
    rw [if_pos (by omega), if_pos (by omega), rd_nat (by omega), mk_at, if_pos rfl, wS hi (by omega), w64 (n := a + (i : Int) + 1) (by omega) (by omega), Int.natCast_add, ← Int.add_assoc]
    rfl
  · refine ev_const (fun k => ?_)
    simp only [laws_heldIntS.l0]
    rw [if_neg (by omega)]

def isR (a b : Int) : Bool := decide (-1000 ≤ a ∧ a ≤ b ∧ b ≤ 1000)
theorem specIsRange (a b : Int) : spec_IsRange.f a b = some (isR a b) := by
  unfold spec_IsRange.f spec_l1In.f isR
  by_cases h1 : a ≥ -1000 <;> by_cases h2 : a ≤ 1000 <;> by_cases h3 : b ≥ a <;> by_cases h4 : b ≤ 1000 <;> simp [h1, h2, h3, h4] <;> omega
theorem implIsRange (a b : Int) : impl_IsRange.f a b = some (isR a b) := by
  unfold impl_IsRange.f isR
  by_cases h1 : -1000 ≤ a <;> by_cases h3 : a ≤ b <;> by_cases h4 : b ≤ 1000 <;> simp [h1, h3, h4]

def inR (a b v : Int) : Bool := isR a b && decide (a ≤ v ∧ v < b)
theorem specInRange (a b v : Int) : spec_InRange.f a b v = some (inR a b v) := by
  unfold spec_InRange.f inR
  rw [specIsRange, Option.bind_some]
  cases h : isR a b with
  | false => rfl
  | true =>
    have hb : -1000 ≤ a ∧ a ≤ b ∧ b ≤ 1000 := by unfold isR at h; simpa using h
    rw [if_pos rfl, w64 (n := b - 1) (by omega) (by omega)]
    unfold spec_l1In.f
    by_cases h1 : v ≥ a
    · rw [if_pos h1, Option.bind_some, Bool.true_and]
      congr 1
      have : a ≤ v := h1
      by_cases h2 : v < b
      · simp [this, h2]; omega
      · simp [h2]; omega
    · rw [if_neg h1, Option.bind_some, Bool.true_and]
      have : ¬ (a ≤ v ∧ v < b) := fun h => h1 h.1
      simp [this]
theorem implInRange (a b v : Int) : impl_InRange.f a b v = some (inR a b v) := by
  unfold impl_InRange.f inR
  rw [implIsRange, Option.bind_some]
  cases h : isR a b with
  | false => rfl
  | true =>
    rw [if_pos rfl, Bool.true_and]
    by_cases h1 : a ≤ v
    · rw [if_pos h1]; simp [h1]
    · rw [if_neg h1]; simp [h1]

theorem scan_same (l : List Int) (a b : Int) (hl : l.length ≤ 1048576) : ∃ x, Ev (fun k => spec_ScanRange.f k l a b) x ∧ Ev (fun k => impl_ScanRange.f k l a b) x ∧ x.length ≤ 1048576 := by
  have h := pair_ev (σ := List Int) (β := List Int) l.length (fun i s => s.length ≤ i) (fun k s i => (spec_ScanRange.l0 k l s (i : Int) a b).bind fun x => if x.length ≤ 1048576 then some x else none) (fun k s i => (impl_ScanRange.l0 k s l (l.length : Int) (i : Int) a b).bind fun x => if x.length ≤ 1048576 then some x else none) ?_ ?_ [] (by simp)
  · obtain ⟨r, ⟨K, h1⟩, ⟨K2, h2⟩⟩ := h
    have hr : r.length ≤ 1048576 := by
      have := h1 K (Nat.le_refl _)
      obtain ⟨x, _, hx⟩ := Option.bind_eq_some_iff.1 this
      by_cases c : x.length ≤ 1048576
      · rw [if_pos c] at hx; obtain rfl := Option.some.inj hx; exact c
      · rw [if_neg c] at hx; cases hx
    refine ⟨r, ⟨K, fun k hk => ?_⟩, ⟨K2, fun k hk => ?_⟩, hr⟩
    · obtain ⟨x, hx0, hx⟩ := Option.bind_eq_some_iff.1 (h1 k hk)
      by_cases c : x.length ≤ 1048576
      · rw [if_pos c] at hx; obtain rfl := Option.some.inj hx; exact hx0
      · rw [if_neg c] at hx; cases hx
    · obtain ⟨x, hx0, hx⟩ := Option.bind_eq_some_iff.1 (h2 k hk)
      by_cases c : x.length ≤ 1048576
      · rw [if_pos c] at hx; obtain rfl := Option.some.inj hx; exact hx0
      · rw [if_neg c] at hx; cases hx
  · intro i s hi hs
    cases c : inR a b l[i] with
    | true =>
      refine .inr ⟨s ++ [(i : Int)], by simp; omega, fun k => ?_, fun k => ?_⟩
      · simp only [spec_ScanRange.l0]
        rw [if_pos (by omega), if_pos (by omega), rd_nat hi, specInRange, c, Option.bind_some, if_pos rfl, if_pos (by omega), wS hi (by omega)]
      · simp only [impl_ScanRange.l0]
        rw [if_pos (by omega), if_pos (by omega), if_pos (by omega), rd_nat hi, implInRange, c, Option.bind_some, if_pos rfl, if_pos (by omega), wS hi (by omega)]
    | false =>
      refine .inr ⟨s, by omega, fun k => ?_, fun k => ?_⟩
      · simp only [spec_ScanRange.l0]
        rw [if_pos (by omega), if_pos (by omega), rd_nat hi, specInRange, c, Option.bind_some, if_neg (by simp), wS hi (by omega)]
      · simp only [impl_ScanRange.l0]
        rw [if_pos (by omega), if_pos (by omega), if_pos (by omega), rd_nat hi, implInRange, c, Option.bind_some, if_neg (by simp), wS hi (by omega)]
  · intro s hs
    refine ⟨s, ev_const (fun k => ?_), ev_const (fun k => ?_)⟩
    · simp only [spec_ScanRange.l0]; rw [if_neg (by omega), Option.bind_some, if_pos (by omega)]
    · simp only [impl_ScanRange.l0]; rw [if_neg (by omega), Option.bind_some, if_pos (by omega)]

end Go.Proofs.Ytmekpkajpjnkgaa.Pure.FnExactScanRange
namespace Go.Proofs.Ytmekpkajpjnkgaa.Pure
open Go.RowKit Go.Proofs.Ytmekpkajpjnkgaa.PFnExactScanRange Go.Proofs.YtmekpkajpjnkgaaW.PrintWords Go.Proofs.YtmekpkajpjnkgaaW.PrintLast Go.Proofs.YtmekpkajpjnkgaaW.PrintMore Go.Proofs.Ytmekpkajpjnkgaa.B Go.Proofs.Ytmekpkajpjnkgaa.Pure.FnExactScanRange
theorem FnExactScanRange : ∀ (l0 : List Int) (a1_0 : Int) (a1_1 : Int), (l0.length ≤ maxLen ∧ ∀ z ∈ l0, (Lit.int .i64 z).wf = true) → (Lit.int .i64 a1_0).wf = true → (Lit.int .i64 a1_1).wf = true → ∃ k, laws_FnExactScanRange.f k l0 a1_0 a1_1 = some true := by
  intro l a b ⟨_, _⟩ _ _
  by_cases hn : (l.length : Int) > 1048576
  · exact ⟨0, by unfold laws_FnExactScanRange.f; rw [if_pos hn]⟩
  · refine Ev.rounds (g := fun k => laws_FnExactScanRange.f k l a b) ?_
    unfold laws_FnExactScanRange.f
    have ht : laws_toRange.f a b = some (a, b) := rfl
    obtain ⟨x, h1, h2, hx⟩ := scan_same l a b (by omega)
    refine ev_ifn hn ?_
    refine Ev.bind (toIntS_ev l (by omega)) ?_
    refine ev_pure ht ?_
    refine Ev.bind h1 ?_
    refine Ev.bind (toIntS_ev l (by omega)) ?_
    refine ev_pure ht ?_
    refine Ev.bind h2 ?_
    refine Ev.bind (eqIntS_ev x x (by omega)) ?_
    refine ev_ifp (by simp) ?_
    refine Ev.bind (toIntS_ev l (by omega)) ?_
    refine Ev.bind (eqIntS_ev l l (by omega)) ?_
    refine ev_ifp (by simp) ?_
    refine Ev.bind (markIntS_ev l 1 (by omega) (by omega)) ?_
    refine ev_ifn (by show ¬ (1 + (l.length : Int) < 0); omega) ?_
    refine Ev.bind (eqIntS_ev x x (by omega)) ?_
    apply Ev.step
    · intro k; simp only [laws_FnExactScanRange.j0]; rfl
    refine ev_ifn (by simp) ?_
    refine Ev.bind (markIntS_ev x 1 (by omega) (by omega)) ?_
    refine Ev.bind (heldIntS_ev x.length 1 (by omega) (by omega)) ?_
    refine ev_ifn (by omega) (ev_ifp rfl ?_)
    refine Ev.bind (toIntS_ev l (by omega)) ?_
    refine ev_pure ht ?_
    refine Ev.bind h2 ?_
    refine Ev.bind (eqIntS_ev x x (by omega)) ?_
    refine ev_ifp (by simp) ?_
    refine Ev.bind (heldIntS_ev x.length 1 (by omega) (by omega)) ?_
    exact ev_ifn (by omega) (ev_ifp rfl (ev_some _))

end Go.Proofs.Ytmekpkajpjnkgaa.Pure
