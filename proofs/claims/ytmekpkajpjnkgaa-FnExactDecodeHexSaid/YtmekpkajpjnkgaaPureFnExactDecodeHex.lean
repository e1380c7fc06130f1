/- DecodeHex of the program returns what the reference returns, for every string. No condition. -/
import Derived.Test.YtmekpkajpjnkgaaPFnExactDecodeHexx0
import Derived.Test.YtmekpkajpjnkgaaPFnExactDecodeHexx1
import Derived.Test.YtmekpkajpjnkgaaPFnExactDecodeHexx2
import Derived.Test.YtmekpkajpjnkgaaB
set_option linter.unusedVariables false
set_option linter.unusedSimpArgs false
namespace Go.Proofs.Ytmekpkajpjnkgaa.Pure.FnExactDecodeHex
open Go.RowKit Go.Proofs.Ytmekpkajpjnkgaa.PFnExactDecodeHex Go.Proofs.YtmekpkajpjnkgaaW.PrintWords Go.Proofs.YtmekpkajpjnkgaaW.PrintLast Go.Proofs.YtmekpkajpjnkgaaW.PrintMore Go.Proofs.Ytmekpkajpjnkgaa.B

def hexd : ByteArray := ⟨#[48, 49, 50, 51, 52, 53, 54, 55, 56, 57, 97, 98, 99, 100, 101, 102]⟩
def hx (c : Int) : Int := Go.Lib.indexByte hexd.data.toList c.toNat.toUInt8
theorem ev_mono {α : Type} {g : Nat → Option α} (hm : ∀ k, LeO (g k) (g (k + 1))) {n : Nat} {r : α} (h : g n = some r) : Ev g r := by
  refine ⟨n, fun k hk => ?_⟩
  obtain ⟨d, rfl⟩ : ∃ d, k = n + d := ⟨k - n, by omega⟩
  clear hk
  induction d with
  | zero => exact h
  | succ d ih => exact hm _ _ ih
theorem hx_fin : ∀ c : Fin 256, spec_l1FromHex.f 20 ((c.val : Nat) : Int) = some (hx ((c.val : Nat) : Int)) ∧ -1 ≤ hx ((c.val : Nat) : Int) ∧ hx ((c.val : Nat) : Int) < 16 := by decide +kernel
theorem hx_at (s : ByteArray) (i : Int) : spec_l1FromHex.f 20 (bt s i) = some (hx (bt s i)) ∧ -1 ≤ hx (bt s i) ∧ hx (bt s i) < 16 := by
  have h := bt_range s i
  have := hx_fin ⟨(bt s i).toNat, by omega⟩
  simp only at this
  rw [show (((bt s i).toNat : Nat) : Int) = bt s i by omega] at this
  exact this
theorem fromHex_ev (s : ByteArray) (i : Int) : Ev (fun k => spec_l1FromHex.f k (bt s i)) (hx (bt s i)) := ev_mono (fun k => spec_l1FromHex.mono _ k) (hx_at s i).1
theorem hx_or : ∀ a b : Fin 16, Go.bits .or .i64 (wrap64 (((a.val : Nat) : Int) * 16)) ((b.val : Nat) : Int) = 16 * ((a.val : Nat) : Int) + ((b.val : Nat) : Int) := by decide +kernel
theorem hx_join {a b : Int} (a0 : 0 ≤ a) (a1 : a < 16) (b0 : 0 ≤ b) (b1 : b < 16) : Go.bits .or .i64 (wrap64 (a * 16)) b = 16 * a + b := by
  have := hx_or ⟨a.toNat, by omega⟩ ⟨b.toNat, by omega⟩
  simp only at this
  rw [show ((a.toNat : Nat) : Int) = a by omega, show ((b.toNat : Nat) : Int) = b by omega] at this
  exact this
/-- What the digits from place 2 j on give, d pairs of them. -/
def dh (s : ByteArray) : Nat → Nat → List Int → ByteArray × Bool
  | 0, _, out => (strOfNums out, true)
  | d + 1, j, out => if hx (bt s (2 * (j : Int))) < 0 then (⟨#[]⟩, false) else if hx (bt s (2 * (j : Int) + 1)) < 0 then (⟨#[]⟩, false) else dh s d (j + 1) (out ++ [(16 * hx (bt s (2 * (j : Int))) + hx (bt s (2 * (j : Int) + 1))) % 256])
theorem specDh_l0 (s : ByteArray) (hs : s.size ≤ 1048576) : ∀ (d j : Nat) (out : List Int), 2 * (j + d) = s.size → out.length + d ≤ 1048576 → Ev (fun k => spec_DecodeHex.l0 k s out (2 * (j : Int))) (dh s d j out) := by
  intro d
  induction d with
  | zero =>
    intro j out hj ho
    exact ev_const (fun k => by simp only [spec_DecodeHex.l0]; rw [if_neg (by omega)]; rfl)
  | succ d ih =>
    intro j out hj ho
    have h1 := (hx_at s (2 * (j : Int))).2
    have h2 := (hx_at s (2 * (j : Int) + 1)).2
    have hw : wrap64 (2 * (j : Int) + 1) = 2 * (j : Int) + 1 := w64 (by omega) (by omega)
    apply Ev.step
    · intro k; simp only [spec_DecodeHex.l0]; rfl
    rw [hw]
    refine ev_ifp (by omega) (ev_ifp (by omega) (Ev.bind (fromHex_ev s _) (ev_ifp (by omega) (ev_ifp (by omega) (Ev.bind (fromHex_ev s _) ?_)))))
    simp only [dh]
    by_cases c1 : hx (bt s (2 * (j : Int))) < 0
    · rw [if_pos c1]; exact ev_ifp c1 (ev_some _)
    rw [if_neg c1]
    refine ev_ifn c1 ?_
    by_cases c2 : hx (bt s (2 * (j : Int) + 1)) < 0
    · rw [if_pos c2]; exact ev_ifp c2 (ev_some _)
    rw [if_neg c2]
    refine ev_ifn c2 (ev_ifp (by omega) ?_)
    have h := ih (j + 1) (out ++ [(16 * hx (bt s (2 * (j : Int))) + hx (bt s (2 * (j : Int) + 1))) % 256]) (by omega) (by simp; omega)
    rw [w64 (n := 16 * hx (bt s (2 * (j : Int)))) (by omega) (by omega), w64 (n := 16 * hx (bt s (2 * (j : Int))) + hx (bt s (2 * (j : Int) + 1))) (by omega) (by omega), w64 (n := 2 * (j : Int) + 2) (by omega) (by omega),
      show 2 * (j : Int) + 2 = 2 * ((j + 1 : Nat) : Int) by omega]
    exact h
theorem implDh_l0 (s : ByteArray) (hs : s.size ≤ 1048576) : ∀ (d j : Nat) (out : List Int), 2 * (j + d) = s.size → out.length + d ≤ 1048576 → Ev (fun k => impl_DecodeHex.l0 k s out (2 * (j : Int))) (dh s d j out) := by
  intro d
  induction d with
  | zero =>
    intro j out hj ho
    exact ev_const (fun k => by simp only [impl_DecodeHex.l0]; rw [if_neg (by omega)]; rfl)
  | succ d ih =>
    intro j out hj ho
    have h1 := (hx_at s (2 * (j : Int))).2
    have h2 := (hx_at s (2 * (j : Int) + 1)).2
    have hw : wrap64 (2 * (j : Int) + 1) = 2 * (j : Int) + 1 := w64 (by omega) (by omega)
    apply Ev.step
    · intro k; simp only [impl_DecodeHex.l0]; rfl
    rw [hw]
    refine ev_ifp (by omega) (ev_ifp (by omega) (ev_pure (a := hx (bt s (2 * (j : Int)))) rfl (ev_ifp (by omega) (ev_ifp (by omega) (ev_pure (a := hx (bt s (2 * (j : Int) + 1))) rfl ?_)))))
    simp only [dh]
    by_cases c1 : hx (bt s (2 * (j : Int))) < 0
    · rw [if_pos c1]; exact ev_ifp c1 (ev_some _)
    rw [if_neg c1]
    refine ev_ifn c1 ?_
    by_cases c2 : hx (bt s (2 * (j : Int) + 1)) < 0
    · rw [if_pos c2]; exact ev_ifp c2 (ev_some _)
    rw [if_neg c2]
    refine ev_ifn c2 (ev_ifp (by omega) ?_)
    have h := ih (j + 1) (out ++ [(16 * hx (bt s (2 * (j : Int))) + hx (bt s (2 * (j : Int) + 1))) % 256]) (by omega) (by simp; omega)
    rw [hx_join (by omega) (by omega) (by omega) (by omega), w64 (n := 2 * (j : Int) + 2) (by omega) (by omega), show 2 * (j : Int) + 2 = 2 * ((j + 1 : Nat) : Int) by omega]
    exact h
theorem decHex_same (s : ByteArray) (hs : s.size ≤ 1048576) : ∃ r, Ev (fun k => spec_DecodeHex.f k s) r ∧ Ev (fun k => impl_DecodeHex.f k s) r := by
  unfold spec_DecodeHex.f impl_DecodeHex.f
  by_cases c : (s.size : Int) % 2 = 1
  · exact ⟨_, ev_ifp c (ev_some _), ev_ifn (by omega) (ev_some _)⟩
  · exact ⟨dh s (s.size / 2) 0 [], ev_ifn c (specDh_l0 s hs (s.size / 2) 0 [] (by omega) (by simp; omega)), ev_ifp (by omega) (implDh_l0 s hs (s.size / 2) 0 [] (by omega) (by simp; omega))⟩


end Go.Proofs.Ytmekpkajpjnkgaa.Pure.FnExactDecodeHex
namespace Go.Proofs.Ytmekpkajpjnkgaa.Pure
open Go.RowKit Go.Proofs.Ytmekpkajpjnkgaa.PFnExactDecodeHex Go.Proofs.YtmekpkajpjnkgaaW.PrintWords Go.Proofs.YtmekpkajpjnkgaaW.PrintLast Go.Proofs.YtmekpkajpjnkgaaW.PrintMore Go.Proofs.Ytmekpkajpjnkgaa.B Go.Proofs.Ytmekpkajpjnkgaa.Pure.FnExactDecodeHex
theorem FnExactDecodeHex : laws_FnExactDecodeHex.Pure := by
  intro s _
  by_cases hn : (s.size : Int) > 1048576
  · exact ⟨0, by unfold laws_FnExactDecodeHex.f; rw [if_pos hn]⟩
  · refine Ev.rounds (g := fun k => laws_FnExactDecodeHex.f k s) ?_
    unfold laws_FnExactDecodeHex.f
    obtain ⟨r, a, b⟩ := decHex_same s (by omega)
    exact ev_ifn hn (Ev.bind a (Ev.bind b (ev_ifp rfl (ev_ifn (by simp) (ev_some _)))))

end Go.Proofs.Ytmekpkajpjnkgaa.Pure
