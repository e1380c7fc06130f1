/- DecodeFixed of the program returns what the reference returns, for every string and width. No condition. -/
import Derived.Test.YtdjkjknofbhfnaaPFnExactDecodeFixedx1
import Derived.Test.YtdjkjknofbhfnaaB
set_option linter.unusedVariables false
set_option linter.unusedSimpArgs false
namespace Go.Proofs.Ytdjkjknofbhfnaa.Pure
open Go.RowKit Go.Proofs.Ytdjkjknofbhfnaa.PFnExactDecodeFixed Go.Proofs.YtdjkjknofbhfnaaW.PrintWords Go.Proofs.YtdjkjknofbhfnaaW.PrintLast Go.Proofs.YtdjkjknofbhfnaaW.PrintMore Go.Proofs.Ytdjkjknofbhfnaa.B

theorem fixed_same (s : ByteArray) (w : Int) (hw : w ≤ 7) (hs : w ≤ s.size) (d : Nat) : ∀ (k : Nat) (i x : Int), 0 ≤ i → i ≤ w → w - i = d → d < k → 0 ≤ x → x < ((256 ^ i.toNat : Nat) : Int) →
    ∃ r, spec_DecodeFixed.l0 k s w x i = some r ∧ impl_DecodeFixed.l0 k s x w i = some r := by
  induction d with
  | zero =>
    intro k i x h0 h1 hd hk hx0 hx
    obtain ⟨k, rfl⟩ : ∃ m, k = m + 1 := ⟨k - 1, by omega⟩
    simp only [spec_DecodeFixed.l0, impl_DecodeFixed.l0]
    rw [if_neg (by omega), if_neg (by omega)]
    exact ⟨_, rfl, rfl⟩
  | succ d ih =>
    intro k i x h0 h1 hd hk hx0 hx
    obtain ⟨k, rfl⟩ : ∃ m, k = m + 1 := ⟨k - 1, by omega⟩
    have hlt : i < w := by omega
    have hb := bt_range s i
    have hp : 256 ^ i.toNat ≤ 256 ^ 6 := Nat.pow_le_pow_right (by omega) (by omega)
    have hq : 256 ^ (i + 1).toNat = 256 ^ i.toNat * 256 := by rw [show (i + 1).toNat = i.toNat + 1 by omega, Nat.pow_succ]
    have h6 : (256 : Nat) ^ 6 = 281474976710656 := by decide
    generalize 256 ^ i.toNat = p at hp hq hx
    simp only [spec_DecodeFixed.l0, impl_DecodeFixed.l0]
    rw [if_pos hlt, if_pos h0, if_pos (by omega), if_pos hlt, if_pos h0, if_pos (by omega), w64 (n := x * 256) (by omega) (by omega), w64 (n := bt s i) (by omega) (by omega),
      or_low (x * 256) (bt s i) (by omega) (by omega) (by omega) (by omega) (by omega), w64 (n := x * 256 + bt s i) (by omega) (by omega), w64 (n := i + 1) (by omega) (by omega)]
    exact ih k (i + 1) _ (by omega) (by omega) (by omega) (by omega) (by omega) (by rw [hq]; omega)

theorem FnExactDecodeFixed : laws_FnExactDecodeFixed.Pure := by
  intro s w hs hw
  refine ⟨9, ?_⟩
  unfold laws_FnExactDecodeFixed.f
  by_cases hb : (s.size : Int) > 1048576
  · rw [if_pos hb]
  · rw [if_neg hb]
    have hsame : ∃ r, spec_DecodeFixed.f 9 s w = some r ∧ impl_DecodeFixed.f 9 s w = some r := by
      unfold spec_DecodeFixed.f impl_DecodeFixed.f spec_l1In.f
      by_cases h1 : w < 1
      · rw [if_pos h1, if_neg (by omega)]
        exact ⟨(0, false), by simp [spec_DecodeFixed.j0], by simp [impl_DecodeFixed.j0]⟩
      · by_cases h7 : w > 7
        · rw [if_neg h1, if_pos h7, if_pos (by omega)]
          simp only [Option.bind_some, decide_eq_true_eq]
          rw [if_neg (by omega)]
          exact ⟨(0, false), by simp [spec_DecodeFixed.j0], by simp [impl_DecodeFixed.j0]⟩
        · rw [if_neg h1, if_neg h7, if_pos (by omega)]
          simp only [Option.bind_some, decide_eq_true_eq]
          rw [if_pos (by omega)]
          by_cases hl : (s.size : Int) < w
          · exact ⟨(0, false), by simp [spec_DecodeFixed.j0, hl], by simp [impl_DecodeFixed.j0, hl]⟩
          · obtain ⟨r, g1, g2⟩ := fixed_same s w (by omega) (by omega) w.toNat 8 0 0 (by omega) (by omega) (by omega) (by omega) (by omega) (by simp)
            exact ⟨r, by simp [spec_DecodeFixed.j0, hl, g1], by simp [impl_DecodeFixed.j0, hl, g2]⟩
    obtain ⟨⟨a, b⟩, g1, g2⟩ := hsame
    rw [g1, g2]
    simp

end Go.Proofs.Ytdjkjknofbhfnaa.Pure
