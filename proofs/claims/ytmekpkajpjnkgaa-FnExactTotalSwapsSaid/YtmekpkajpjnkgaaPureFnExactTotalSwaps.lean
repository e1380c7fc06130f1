/- TotalSwaps of the program returns what the reference returns, for every ledger, and leaves it as it was. No condition. -/
import Derived.Test.YtmekpkajpjnkgaaPFnExactTotalSwapsx0
import Derived.Test.YtmekpkajpjnkgaaPFnExactTotalSwapsx1
import Derived.Test.YtmekpkajpjnkgaaPFnExactTotalSwapsx2
import Derived.Test.YtmekpkajpjnkgaaB
set_option linter.unusedVariables false
set_option linter.unusedSimpArgs false
namespace Go.Proofs.Ytmekpkajpjnkgaa.Pure.FnExactTotalSwaps
open Go.RowKit Go.Proofs.Ytmekpkajpjnkgaa.PFnExactTotalSwaps Go.Proofs.YtmekpkajpjnkgaaW.PrintWords Go.Proofs.YtmekpkajpjnkgaaW.PrintLast Go.Proofs.YtmekpkajpjnkgaaW.PrintMore Go.Proofs.Ytmekpkajpjnkgaa.B

def cvCharge (x : S114) : S112 := ⟨x.f0, x.f1, x.f2, x.f3, x.f4⟩

theorem toChargeS_ev (l : List S114) (hl : l.length ≤ 1048576) : Ev (fun k => laws_toChargeS.f k l) (l.map cvCharge) := by
  unfold laws_toChargeS.f
  refine ev_ifp (by omega) (ev_ifp (by omega) ?_)
  rw [show ((l.length : Int)).toNat = l.length by omega]
  have h := down_ev l.length (fun k i => laws_toChargeS.l0 k l ((l.map cvCharge).take i ++ (List.replicate l.length z112).drop i) (i : Int)) (l.map cvCharge) ?_ ?_
  · simpa using h
  · intro i hi ih
    refine Ev.step (fun k => ?_) ih
    simp only [laws_toChargeS.l0]
    have hr : rd_T114 l (i : Int) = l[i] := by unfold rd_T114; simp [List.getD_eq_getElem?_getD, List.getElem?_eq_getElem hi]
    rw [if_pos (by omega), if_pos (by omega), hr]
    unfold laws_toCharge.f
    simp only [Option.bind_some]
    rw [if_pos (by rw [step_len _ _ (by simp) _ (by simp; omega)]; simp; omega), wS hi (by omega), Int.toNat_natCast]
    have e := set_step (l.map cvCharge) (List.replicate l.length z112) (by simp) i (by simpa using hi)
    simp only [List.getElem_map] at e
    rw [← e]
    rfl
  · refine ev_const (fun k => ?_)
    simp only [laws_toChargeS.l0]
    rw [if_neg (by omega)]
    rw [List.take_of_length_le (by simp), List.drop_eq_nil_of_le (by simp), List.append_nil]

theorem rdCharge {l : List S112} {i : Nat} (h : i < l.length) : rd_T112 l (i : Int) = l[i] := by
  unfold rd_T112; simp [List.getD_eq_getElem?_getD, List.getElem?_eq_getElem h]

theorem eqChargeS_ev (l : List S112) (hl : l.length ≤ 4611686018427387904) : Ev (fun k => laws_eqChargeS.f k l l) true := by
  unfold laws_eqChargeS.f
  refine ev_ifp rfl ?_
  refine down_ev l.length (fun k i => laws_eqChargeS.l0 k l l (i : Int)) true ?_ ?_
  · intro i hi ih
    refine Ev.step (fun k => ?_) ih
    simp only [laws_eqChargeS.l0]
    rw [if_pos (by omega), if_pos (by omega), if_pos (by omega), rdCharge hi]
    unfold laws_eqCharge.f
    rw [if_pos rfl, if_pos rfl, if_pos rfl, if_pos rfl, if_pos rfl, Option.bind_some, if_pos rfl, wS hi (by omega)]
  · refine ev_const (fun k => ?_)
    simp only [laws_eqChargeS.l0]
    rw [if_neg (by omega)]

theorem szChargeS_at (l : List S114) (a : Int) (ha : 0 ≤ a ∧ a ≤ 1048576) (hl : l.length ≤ maxLen) : laws_szChargeS.f l a = some (if (l.length : Int) ≤ a then a - l.length else -1) := by
  unfold maxLen at hl
  unfold laws_szChargeS.f
  rw [w64 (n := a - (l.length : Int)) (by omega) (by omega)]
  by_cases h : (l.length : Int) ≤ a
  · rw [if_neg (by omega), if_pos h]
  · rw [if_pos (by omega), if_neg h]

theorem total_same (l : List S112) (hl : l.length ≤ 4611686018427387904) : ∃ r, Ev (fun k => spec_TotalSwaps.f k l) r ∧ Ev (fun k => impl_TotalSwaps.f k l) r := by
  have h := pair_ev (σ := Int) l.length (fun _ _ => True) (fun k s i => spec_l7Total.l0 k l s (i : Int)) (fun k s i => impl_TotalSwaps.l0 k s l (l.length : Int) (i : Int)) ?_ ?_ 0 trivial
  · obtain ⟨r, a, b⟩ := h
    refine ⟨r, ?_, b⟩
    unfold spec_TotalSwaps.f spec_l7Total.f
    exact Ev.bind a (ev_some _)
  · intro i s hi _
    refine .inr ⟨wrap64 (s + (l[i]).f4), trivial, fun k => ?_, fun k => ?_⟩
    · simp only [spec_l7Total.l0]
      rw [if_pos (by omega), if_pos (by omega), rdCharge hi, wS hi (by omega)]
    · simp only [impl_TotalSwaps.l0]
      rw [if_pos (by omega), if_pos (by omega), if_pos (by omega), rdCharge hi, wS hi (by omega)]
  · intro s _
    refine ⟨s, ev_const (fun k => ?_), ev_const (fun k => ?_)⟩
    · simp only [spec_l7Total.l0]; rw [if_neg (by omega)]
    · simp only [impl_TotalSwaps.l0]; rw [if_neg (by omega)]

end Go.Proofs.Ytmekpkajpjnkgaa.Pure.FnExactTotalSwaps
namespace Go.Proofs.Ytmekpkajpjnkgaa.Pure
open Go.RowKit Go.Proofs.Ytmekpkajpjnkgaa.PFnExactTotalSwaps Go.Proofs.YtmekpkajpjnkgaaW.PrintWords Go.Proofs.YtmekpkajpjnkgaaW.PrintLast Go.Proofs.YtmekpkajpjnkgaaW.PrintMore Go.Proofs.Ytmekpkajpjnkgaa.B Go.Proofs.Ytmekpkajpjnkgaa.Pure.FnExactTotalSwaps
theorem FnExactTotalSwaps : ∀ (l0 : List S114), (l0.length ≤ maxLen ∧ ∀ z ∈ l0, ((Lit.int .i64 z.f0).wf = true ∧ (Lit.int .i64 z.f1).wf = true ∧ (Lit.int .i64 z.f2).wf = true ∧ (Lit.int .i64 z.f3).wf = true ∧ (Lit.int .i64 z.f4).wf = true)) → ∃ k, laws_FnExactTotalSwaps.f k l0 = some true := by
  intro l ⟨hl, _⟩
  refine Ev.rounds (g := fun k => laws_FnExactTotalSwaps.f k l) ?_
  unfold laws_FnExactTotalSwaps.f
  refine ev_pure (szChargeS_at l 1048576 (by omega) hl) ?_
  by_cases hb : (l.length : Int) ≤ 1048576
  · rw [if_pos hb]
    refine ev_ifn (by omega) ?_
    have hlen : (l.map cvCharge).length ≤ 4611686018427387904 := by simp; omega
    obtain ⟨r, h1, h2⟩ := total_same (l.map cvCharge) hlen
    refine Ev.bind (toChargeS_ev l (by omega)) ?_
    refine Ev.bind h1 ?_
    refine Ev.bind (toChargeS_ev l (by omega)) ?_
    refine Ev.bind h2 ?_
    refine ev_ifp rfl ?_
    refine Ev.bind (toChargeS_ev l (by omega)) ?_
    refine Ev.bind (eqChargeS_ev _ hlen) ?_
    exact ev_ifp rfl (ev_some _)
  · rw [if_neg hb]
    exact ev_ifp (by omega) (ev_some _)

end Go.Proofs.Ytmekpkajpjnkgaa.Pure
