/- EncodeFixed of the program returns what the reference returns, for every number and width. No condition. -/
import Derived.Test.YtmekpkajpjnkgaaPFnExactEncodeFixedx0
import Derived.Test.YtmekpkajpjnkgaaPFnExactEncodeFixedx1
import Derived.Test.YtmekpkajpjnkgaaB
set_option linter.unusedVariables false
set_option linter.unusedSimpArgs false
namespace Go.Proofs.Ytmekpkajpjnkgaa.Pure.FnExactEncodeFixed
open Go.RowKit Go.Proofs.Ytmekpkajpjnkgaa.PFnExactEncodeFixed Go.Proofs.YtmekpkajpjnkgaaW.PrintWords Go.Proofs.YtmekpkajpjnkgaaW.PrintLast Go.Proofs.YtmekpkajpjnkgaaW.PrintMore Go.Proofs.Ytmekpkajpjnkgaa.B

theorem str_cons (a : Int) (l : List Int) : strOfNums [a] ++ strOfNums l = strOfNums (a :: l) := by
  apply ByteArray.ext
  rw [ByteArray.data_append]
  simp [strOfNums]
theorem fixed_fit (w : Int) : ∀ (d : Nat) (n i : Int) (out : List Int), 0 ≤ n → n < 9223372036854775808 → n < (256 ^ d : Nat) → 0 ≤ i → i + d = w → w ≤ 7 → (out.length : Int) = i →
    ∃ s, Ev (fun k => spec_EncodeFixed.l0 k n w (strOfNums out) i) (strOfNums s) ∧ Ev (fun k => impl_EncodeFixed.l0 k n (List.replicate d 0 ++ out) ((d : Int) - 1)) (strOfNums s) := by
  intro d
  induction d with
  | zero =>
    intro n i out h0 hn h1 hi hw h7 ho
    refine ⟨out, ev_const (fun k => ?_), ev_const (fun k => ?_)⟩
    · simp only [spec_EncodeFixed.l0]
      rw [if_neg (by omega), if_neg (by omega)]
    · simp only [impl_EncodeFixed.l0]
      rw [if_neg (by omega), List.replicate_zero, List.nil_append]
  | succ d ih =>
    intro n i out h0 hn h1 hi hw h7 ho
    have hp : (256 ^ (d + 1) : Nat) = 256 ^ d * 256 := Nat.pow_succ ..
    obtain ⟨s, a, b⟩ := ih (n / 256) (i + 1) ((n % 256) :: out) (by omega) (by omega) (by omega) (by omega) (by omega) h7 (by simp; omega)
    refine ⟨s, Ev.step (fun k => ?_) a, Ev.step (fun k => ?_) b⟩
    · simp only [spec_EncodeFixed.l0]
      rw [if_pos (by omega), Option.bind_some, strOfNums_size, strOfNums_size, if_pos (by simp; omega), tdiv_nn h0, tmod_nn h0, w64 (n := n / 256) (by omega) (by omega), w64 (n := i + 1) (by omega) (by omega), str_cons, show n % 256 % 256 = n % 256 by omega]
    · simp only [impl_EncodeFixed.l0]
      rw [if_pos (by omega), if_pos (by omega), if_pos (by simp; omega), w64 (n := ((d + 1 : Nat) : Int) - 1 - 1) (by omega) (by omega), show (((d + 1 : Nat) : Int) - 1).toNat = d by omega, show ((d + 1 : Nat) : Int) - 1 - 1 = (d : Int) - 1 by omega]
      congr 1
      rw [List.replicate_succ', List.append_assoc, List.set_append_right _ _ (by simp)]
      simp
theorem fixed_over (w : Int) : ∀ (d : Nat) (n i : Int) (out : List Int), 0 ≤ n → n < 9223372036854775808 → ((256 ^ d : Nat) : Int) ≤ n → 0 ≤ i → i + d = w → w ≤ 7 → (out.length : Int) = i →
    Ev (fun k => spec_EncodeFixed.l0 k n w (strOfNums out) i) ⟨#[]⟩ := by
  intro d
  induction d with
  | zero =>
    intro n i out h0 hn h1 hi hw h7 ho
    refine ev_const (fun k => ?_)
    simp only [spec_EncodeFixed.l0]
    rw [if_neg (by omega), if_pos (by omega)]
  | succ d ih =>
    intro n i out h0 hn h1 hi hw h7 ho
    have hp : (256 ^ (d + 1) : Nat) = 256 ^ d * 256 := Nat.pow_succ ..
    refine Ev.step (fun k => ?_) (ih (n / 256) (i + 1) ((n % 256) :: out) (by omega) (by omega) (by omega) (by omega) (by omega) h7 (by simp; omega))
    simp only [spec_EncodeFixed.l0]
    rw [if_pos (by omega), Option.bind_some, strOfNums_size, strOfNums_size, if_pos (by simp; omega), tdiv_nn h0, tmod_nn h0, w64 (n := n / 256) (by omega) (by omega), w64 (n := i + 1) (by omega) (by omega), str_cons, show n % 256 % 256 = n % 256 by omega]
theorem fixedE_same (n w : Int) (hn0 : -9223372036854775808 ≤ n) (hn : n < 9223372036854775808) : ∃ s, Ev (fun k => spec_EncodeFixed.f k n w) s ∧ Ev (fun k => impl_EncodeFixed.f k n w) s := by
  unfold spec_EncodeFixed.f impl_EncodeFixed.f
  have hf1 : Ev (fun k => spec_EncodeFixed.j0 k n w true) ⟨#[]⟩ := ev_const (fun k => by simp [spec_EncodeFixed.j0])
  have hf2 : Ev (fun k => impl_EncodeFixed.j0 k n w true) ⟨#[]⟩ := ev_const (fun k => by simp [impl_EncodeFixed.j0])
  by_cases h1 : w < 1
  · refine ⟨⟨#[]⟩, ev_pure (a := false) (by unfold spec_l1In.f; rw [if_neg (by omega)]) (ev_ifn (by simp) hf1), ev_ifp h1 hf2⟩
  by_cases h7 : w > 7
  · refine ⟨⟨#[]⟩, ev_pure (a := false) (by unfold spec_l1In.f; rw [if_pos (by omega), decide_eq_false (by omega)]) (ev_ifn (by simp) hf1), ev_ifn h1 (ev_ifp h7 hf2)⟩
  have hin : spec_l1In.f w 1 7 = some true := by unfold spec_l1In.f; rw [if_pos (by omega), decide_eq_true (by omega)]
  by_cases h0 : n < 0
  · refine ⟨⟨#[]⟩, ev_pure hin (ev_ifp rfl ?_), ev_ifn h1 (ev_ifn h7 (ev_ifp h0 hf2))⟩
    rw [decide_eq_true h0]; exact hf1
  have hw8 : wrap64 (8 * w) = 8 * w := w64 (by omega) (by omega)
  have hsh : shl .i64 1 (8 * w) = ((256 ^ w.toNat : Nat) : Int) := by
    have : w = 1 ∨ w = 2 ∨ w = 3 ∨ w = 4 ∨ w = 5 ∨ w = 6 ∨ w = 7 := by omega
    rcases this with rfl | rfl | rfl | rfl | rfl | rfl | rfl <;> decide
  have hj0 : Ev (fun k => spec_EncodeFixed.l0 k n w (strOfNums []) 0) = Ev (fun k => spec_EncodeFixed.l0 k n w (⟨#[]⟩ : ByteArray) 0) := rfl
  by_cases c : n ≥ ((256 ^ w.toNat : Nat) : Int)
  · have a := fixed_over w w.toNat n 0 [] (by omega) hn c (by omega) (by omega) (by omega) (by simp)
    refine ⟨⟨#[]⟩, ev_pure hin (ev_ifp rfl ?_), ev_ifn h1 (ev_ifn h7 (ev_ifn h0 (ev_ifp (by omega) ?_)))⟩
    · rw [decide_eq_false h0]
      refine Ev.step (fun k => ?_) a
      simp only [spec_EncodeFixed.j0]
      rw [if_neg (by simp)]
      rfl
    · rw [hw8, hsh, decide_eq_true c]
      exact hf2
  · obtain ⟨s, a, b⟩ := fixed_fit w w.toNat n 0 [] (by omega) hn (by omega) (by omega) (by omega) (by omega) (by simp)
    refine ⟨strOfNums s, ev_pure hin (ev_ifp rfl ?_), ev_ifn h1 (ev_ifn h7 (ev_ifn h0 (ev_ifp (by omega) ?_)))⟩
    · rw [decide_eq_false h0]
      refine Ev.step (fun k => ?_) a
      simp only [spec_EncodeFixed.j0]
      rw [if_neg (by simp)]
      rfl
    · rw [hw8, hsh, decide_eq_false c]
      refine Ev.step (fun k => ?_) b
      simp only [impl_EncodeFixed.j0]
      rw [if_neg (by simp), if_pos (by omega), if_pos (by omega), w64 (n := w - 1) (by omega) (by omega), List.append_nil, show ((w.toNat : Nat) : Int) - 1 = w - 1 by omega]


end Go.Proofs.Ytmekpkajpjnkgaa.Pure.FnExactEncodeFixed
namespace Go.Proofs.Ytmekpkajpjnkgaa.Pure
open Go.RowKit Go.Proofs.Ytmekpkajpjnkgaa.PFnExactEncodeFixed Go.Proofs.YtmekpkajpjnkgaaW.PrintWords Go.Proofs.YtmekpkajpjnkgaaW.PrintLast Go.Proofs.YtmekpkajpjnkgaaW.PrintMore Go.Proofs.Ytmekpkajpjnkgaa.B Go.Proofs.Ytmekpkajpjnkgaa.Pure.FnExactEncodeFixed
theorem FnExactEncodeFixed : laws_FnExactEncodeFixed.Pure := by
  intro n w hn _
  refine Ev.rounds (g := fun k => laws_FnExactEncodeFixed.f k n w) ?_
  unfold laws_FnExactEncodeFixed.f
  obtain ⟨s, a, b⟩ := fixedE_same n w (wf_bounds hn).1 (wf_bounds hn).2
  exact Ev.bind a (Ev.bind b (ev_ifp rfl (ev_some _)))

end Go.Proofs.Ytmekpkajpjnkgaa.Pure
