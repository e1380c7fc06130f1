/- EncodeVarint of the program returns what the reference returns, for every number. No condition. -/
import Derived.Test.YtmekpkajpjnkgaaPFnExactEncodeVarintx0
import Derived.Test.YtmekpkajpjnkgaaPFnExactEncodeVarintx1
import Derived.Test.YtmekpkajpjnkgaaB
import Derived.Laws.BitsAllLaws
import Derived.Lib.Strings
set_option linter.unusedVariables false
set_option linter.unusedSimpArgs false
namespace Go.Proofs.Ytmekpkajpjnkgaa.Pure.FnExactEncodeVarint
open Go.RowKit Go.Proofs.Ytmekpkajpjnkgaa.PFnExactEncodeVarint Go.Proofs.YtmekpkajpjnkgaaW.PrintWords Go.Proofs.YtmekpkajpjnkgaaW.PrintLast Go.Proofs.YtmekpkajpjnkgaaW.PrintMore Go.Proofs.Ytmekpkajpjnkgaa.B

set_option maxRecDepth 100000 in
theorem or128 (y : Int) (h0 : 0 ≤ y) (h1 : y < 256) : Go.bits .or .u8 y 128 = 128 + y % 128 := by
  have h := u8_or y 128 h0 h1 (by decide) (by decide)
  rw [h]
  have key : ∀ a : Fin 256, (a.val ||| 128) = 128 + a.val % 128 := by decide
  have := key ⟨y.toNat, by omega⟩
  simp only at this
  have e : (128 : Int).toNat = 128 := rfl
  rw [e, this]
  omega
/-- The bytes of a varint. -/
def vb : Nat → Int → List Int
  | 0, n => [n % 256]
  | d + 1, n => if n ≥ 128 then (128 + n % 128) :: vb d (n / 128) else [n % 256]
def encV (n : Int) : ByteArray := if 0 ≤ n ∧ n ≤ 562949953421311 then strOfNums (vb 8 n) else ⟨#[]⟩
theorem specV_l0 : ∀ (d : Nat) (n : Int) (out : List Int), 0 ≤ n → n < (128 ^ (d + 1) : Nat) → n ≤ 562949953421311 → out.length + d ≤ 1000 → Ev (fun k => spec_EncodeVarint.l0 k n out) (strOfNums (out ++ vb d n)) := by
  intro d
  induction d with
  | zero =>
    intro n out h0 h1 hm ho
    refine ev_const (fun k => ?_)
    simp only [spec_EncodeVarint.l0, vb]
    rw [if_neg (by omega), if_pos (by omega)]
  | succ d ih =>
    intro n out h0 h1 hm ho
    simp only [vb]
    by_cases c : n ≥ 128
    · rw [if_pos c]
      have hp : (128 ^ (d + 1 + 1) : Nat) = 128 ^ (d + 1) * 128 := Nat.pow_succ ..
      have h := ih (n / 128) (out ++ [128 + n % 128]) (by omega) (by omega) (by omega) (by simp; omega)
      rw [List.append_assoc, List.singleton_append] at h
      refine Ev.step (fun k => ?_) h
      simp only [spec_EncodeVarint.l0]
      rw [if_pos c, if_pos (by omega), tdiv_nn h0, tmod_nn h0, w64 (n := n / 128) (by omega) (by omega), w64 (n := 128 + n % 128) (by omega) (by omega), show (128 + n % 128) % 256 = 128 + n % 128 by omega]
    · rw [if_neg c]
      refine ev_const (fun k => ?_)
      simp only [spec_EncodeVarint.l0]
      rw [if_neg c, if_pos (by omega)]
theorem encV_in {n : Int} (h : 0 ≤ n ∧ n ≤ 562949953421311) : encV n = strOfNums (vb 8 n) := by unfold encV; rw [if_pos h]
theorem encV_out {n : Int} (h : ¬ (0 ≤ n ∧ n ≤ 562949953421311)) : encV n = ⟨#[]⟩ := by unfold encV; rw [if_neg h]
theorem specV_ev (n : Int) : Ev (fun k => spec_EncodeVarint.f k n) (encV n) := by
  unfold spec_EncodeVarint.f spec_l1In.f
  by_cases h0 : 0 ≤ n
  · by_cases h1 : n ≤ 562949953421311
    · rw [encV_in ⟨h0, h1⟩]
      refine ev_pure (a := true) (by rw [if_pos h0, decide_eq_true h1]) (ev_ifp rfl ?_)
      exact specV_l0 8 n [] h0 (by omega) h1 (by simp)
    · rw [encV_out (by omega)]
      exact ev_pure (a := false) (by rw [if_pos h0, decide_eq_false h1]) (ev_ifn (by simp) (ev_some _))
  · rw [encV_out (by omega)]
    exact ev_pure (a := false) (by rw [if_neg (by omega)]) (ev_ifn (by simp) (ev_some _))
theorem implV_l0 : ∀ (d : Nat) (n : Int) (out : List Int), 0 ≤ n → n < (128 ^ (d + 1) : Nat) → n ≤ 562949953421311 → out.length + d ≤ 1000 → Ev (fun k => impl_EncodeVarint.l0 k n out) (strOfNums (out ++ vb d n)) := by
  intro d
  induction d with
  | zero =>
    intro n out h0 h1 hm ho
    refine ev_const (fun k => ?_)
    simp only [impl_EncodeVarint.l0, vb]
    rw [if_neg (by omega), if_pos (by omega)]
  | succ d ih =>
    intro n out h0 h1 hm ho
    simp only [vb]
    by_cases c : n ≥ 128
    · rw [if_pos c]
      have hp : (128 ^ (d + 1 + 1) : Nat) = 128 ^ (d + 1) * 128 := Nat.pow_succ ..
      have h := ih (n / 128) (out ++ [128 + n % 128]) (by omega) (by omega) (by omega) (by simp; omega)
      rw [List.append_assoc, List.singleton_append] at h
      refine Ev.step (fun k => ?_) h
      simp only [impl_EncodeVarint.l0]
      rw [if_pos c, if_pos (by omega), or128 _ (by omega) (by omega), show n % 256 % 128 = n % 128 by omega]
    · rw [if_neg c]
      refine ev_const (fun k => ?_)
      simp only [impl_EncodeVarint.l0]
      rw [if_neg c, if_pos (by omega)]
theorem implV_ev (n : Int) : Ev (fun k => impl_EncodeVarint.f k n) (encV n) := by
  unfold impl_EncodeVarint.f
  have hf : Ev (fun k => impl_EncodeVarint.j0 k n true) ⟨#[]⟩ := ev_const (fun k => by simp [impl_EncodeVarint.j0])
  by_cases h0 : n < 0
  · rw [encV_out (by omega)]
    exact ev_ifp h0 hf
  · refine ev_ifn h0 ?_
    by_cases h1 : n > 562949953421311
    · rw [encV_out (by omega), decide_eq_true h1]; exact hf
    · rw [encV_in (by omega), decide_eq_false h1]
      refine Ev.step (fun k => ?_) (implV_l0 8 n [] (by omega) (by omega) (by omega) (by simp))
      simp only [impl_EncodeVarint.j0]
      rw [if_neg (by simp)]


end Go.Proofs.Ytmekpkajpjnkgaa.Pure.FnExactEncodeVarint
namespace Go.Proofs.Ytmekpkajpjnkgaa.Pure
open Go.RowKit Go.Proofs.Ytmekpkajpjnkgaa.PFnExactEncodeVarint Go.Proofs.YtmekpkajpjnkgaaW.PrintWords Go.Proofs.YtmekpkajpjnkgaaW.PrintLast Go.Proofs.YtmekpkajpjnkgaaW.PrintMore Go.Proofs.Ytmekpkajpjnkgaa.B Go.Proofs.Ytmekpkajpjnkgaa.Pure.FnExactEncodeVarint
theorem FnExactEncodeVarint : laws_FnExactEncodeVarint.Pure := by
  intro n _
  refine Ev.rounds (g := fun k => laws_FnExactEncodeVarint.f k n) ?_
  unfold laws_FnExactEncodeVarint.f
  exact Ev.bind (specV_ev n) (Ev.bind (implV_ev n) (ev_ifp rfl (ev_some _)))

end Go.Proofs.Ytmekpkajpjnkgaa.Pure
