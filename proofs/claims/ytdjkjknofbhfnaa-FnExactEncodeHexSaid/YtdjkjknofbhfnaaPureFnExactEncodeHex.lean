/- EncodeHex of the program returns what the reference returns, for every string. No condition. -/
import Derived.Test.YtdjkjknofbhfnaaPFnExactEncodeHexx1
import Derived.Test.YtdjkjknofbhfnaaB
set_option linter.unusedVariables false
set_option linter.unusedSimpArgs false
namespace Go.Proofs.Ytdjkjknofbhfnaa.Pure
open Go.RowKit Go.Proofs.Ytdjkjknofbhfnaa.PFnExactEncodeHex Go.Proofs.YtdjkjknofbhfnaaW.PrintWords Go.Proofs.YtdjkjknofbhfnaaW.PrintLast Go.Proofs.YtdjkjknofbhfnaaW.PrintMore Go.Proofs.Ytdjkjknofbhfnaa.B

theorem digit_at (n : Int) (h0 : 0 ≤ n) (h1 : n < 16) : spec_l1Digit.f n = some (bt (⟨#[48, 49, 50, 51, 52, 53, 54, 55, 56, 57, 97, 98, 99, 100, 101, 102]⟩ : ByteArray) n) := by
  unfold spec_l1Digit.f
  rw [if_pos h0, if_pos h1]
theorem hex_same (s : ByteArray) (hn : s.size ≤ 1048576) (d : Nat) : ∀ (k : Nat) (i : Int) (x : List Int), 0 ≤ i → i ≤ s.size → (s.size : Int) - i = d → d < k → (x.length : Int) = 2 * i →
    ∃ r, spec_EncodeHex.l0 k s x i = some r ∧ impl_EncodeHex.l0 k s x (s.size : Int) i = some r := by
  induction d with
  | zero =>
    intro k i x h0 h1 hd hk hx
    obtain ⟨k, rfl⟩ : ∃ m, k = m + 1 := ⟨k - 1, by omega⟩
    simp only [spec_EncodeHex.l0, impl_EncodeHex.l0]
    rw [if_neg (by omega), if_neg (by omega)]
    exact ⟨_, rfl, rfl⟩
  | succ d ih =>
    intro k i x h0 h1 hd hk hx
    obtain ⟨k, rfl⟩ : ∃ m, k = m + 1 := ⟨k - 1, by omega⟩
    have hlt : i < (s.size : Int) := by omega
    have hb := bt_range s i
    simp only [spec_EncodeHex.l0, impl_EncodeHex.l0]
    rw [if_pos hlt, if_pos h0, if_pos hlt, if_pos h0, if_pos hlt, w64 (n := bt s i) (by omega) (by omega), tdiv_nn (by omega), tmod_nn (by omega), w64 (n := bt s i / 16) (by omega) (by omega),
      digit_at _ (by omega) (by omega), digit_at _ (by omega) (by omega), u8_and15 _ (by omega) (by omega), w64 (n := i + 1) (by omega) (by omega)]
    simp only [Option.bind_some]
    rw [if_pos (show 0 ≤ bt s i / 16 by omega), if_pos (show bt s i / 16 < 16 by omega), if_pos (show 0 ≤ bt s i % 16 by omega), if_pos (show bt s i % 16 < 16 by omega)]
    rw [if_pos (by simp only [List.length_cons, List.length_nil]; omega), if_pos (by simp only [List.length_cons, List.length_nil]; omega)]
    have hl : ∀ a b : Int, (((x ++ [a, b]).length : Nat) : Int) = 2 * (i + 1) := by intro a b; simp; omega
    exact ih k (i + 1) _ (by omega) (by omega) (by omega) (by omega) (hl _ _)

theorem FnExactEncodeHex : laws_FnExactEncodeHex.Pure := by
  intro s hs
  by_cases hb : (s.size : Int) > 1048576
  · exact ⟨0, by unfold laws_FnExactEncodeHex.f; rw [if_pos hb]⟩
  · obtain ⟨r, h1, h2⟩ := hex_same s (by omega) s.size (s.size + 1) 0 [] (by omega) (by omega) (by omega) (by omega) (by simp)
    refine ⟨s.size + 1, ?_⟩
    unfold laws_FnExactEncodeHex.f spec_EncodeHex.f impl_EncodeHex.f
    rw [if_neg hb, h1, h2]
    simp

end Go.Proofs.Ytdjkjknofbhfnaa.Pure
