/- IsName of the program returns what the reference returns, for every string. No condition. -/
import Derived.Test.YtdjkjknofbhfnaaPFnExactIsNamex1
import Derived.Test.YtdjkjknofbhfnaaB
set_option linter.unusedVariables false
set_option linter.unusedSimpArgs false
namespace Go.Proofs.Ytdjkjknofbhfnaa.Pure
open Go.RowKit Go.Proofs.Ytdjkjknofbhfnaa.PFnExactIsName Go.Proofs.YtdjkjknofbhfnaaW.PrintWords Go.Proofs.YtdjkjknofbhfnaaW.PrintLast Go.Proofs.YtdjkjknofbhfnaaW.PrintMore Go.Proofs.Ytdjkjknofbhfnaa.B

theorem name_same (s : ByteArray) (hn : s.size ≤ 140737488351232) (d : Nat) : ∀ (k : Nat) (i : Int), 0 ≤ i → i ≤ s.size → (s.size : Int) - i = d → d < k →
    ∃ r, spec_IsName.l0 k s i = some r ∧ impl_IsName.l0 k s (s.size : Int) i = some r := by
  induction d with
  | zero =>
    intro k i h0 h1 hd hk
    obtain ⟨k, rfl⟩ : ∃ m, k = m + 1 := ⟨k - 1, by omega⟩
    simp only [spec_IsName.l0, impl_IsName.l0]
    rw [if_neg (by omega), if_neg (by omega)]
    unfold spec_l1In.f
    by_cases c : (s.size : Int) ≥ 1
    · rw [if_pos c]; exact ⟨_, rfl, rfl⟩
    · rw [if_neg c]; exact ⟨_, rfl, rfl⟩
  | succ d ih =>
    intro k i h0 h1 hd hk
    obtain ⟨k, rfl⟩ : ∃ m, k = m + 1 := ⟨k - 1, by omega⟩
    have hlt : i < (s.size : Int) := by omega
    simp only [spec_IsName.l0, impl_IsName.l0]
    rw [if_pos hlt, if_pos h0, if_pos hlt, if_pos h0, if_pos hlt]
    by_cases c : bt s i < 97
    · rw [if_pos c, if_pos c]; exact ⟨_, rfl, rfl⟩
    · rw [if_neg c, if_neg c]
      by_cases c2 : bt s i > 122
      · rw [if_pos c2, if_pos c2]; exact ⟨_, rfl, rfl⟩
      · rw [if_neg c2, if_neg c2, w64 (n := i + 1) (by omega) (by omega)]
        exact ih k (i + 1) (by omega) (by omega) (by omega) (by omega)

theorem FnExactIsName : laws_FnExactIsName.Pure := by
  intro s hs
  obtain ⟨r, h1, h2⟩ := name_same s hs s.size (s.size + 1) 0 (by omega) (by omega) (by omega) (by omega)
  refine ⟨s.size + 1, ?_⟩
  unfold laws_FnExactIsName.f spec_IsName.f impl_IsName.f
  rw [h1, h2]
  simp

end Go.Proofs.Ytdjkjknofbhfnaa.Pure
