/- MedianOf of the program returns what the reference returns, for every list. No condition. -/
import Derived.Test.YtbolealjmfbhjaaPFnExactMedianOfx0
import Derived.Test.YtbolealjmfbhjaaPFnExactMedianOfx1
import Derived.Test.YtbolealjmfbhjaaPFnExactMedianOfx2
import Derived.Test.YtbolealjmfbhjaaB
set_option linter.unusedVariables false
set_option linter.unusedSimpArgs false
namespace Go.Proofs.Ytbolealjmfbhjaa.Pure.FnExactMedianOf
open Go.RowKit Go.Proofs.Ytbolealjmfbhjaa.PFnExactMedianOf Go.Proofs.YtbolealjmfbhjaaW.PrintWords Go.Proofs.YtbolealjmfbhjaaW.PrintLast Go.Proofs.YtbolealjmfbhjaaW.PrintMore Go.Proofs.Ytbolealjmfbhjaa.B

theorem toIntS_ev (l : List Int) (hl : l.length ≤ 1048576) : Ev (fun k => laws_toIntS.f k l) l := by
  unfold laws_toIntS.f
  refine ev_ifp (by omega) (ev_ifp (by omega) ?_)
  rw [show ((l.length : Int)).toNat = l.length by omega]
  have h := down_ev l.length (fun k i => laws_toIntS.l0 k l (l.take i ++ (List.replicate l.length (0 : Int)).drop i) (i : Int)) l ?_ ?_
  · simpa using h
  · intro i hi ih
    refine Ev.step (fun k => ?_) ih
    simp only [laws_toIntS.l0]
    rw [if_pos (by omega), if_pos (by omega), if_pos (by rw [step_len _ _ (by simp) _ (by omega)]; omega), rd_nat hi, wS hi (by omega), Int.toNat_natCast, set_step _ _ (by simp) _ hi]
  · refine ev_const (fun k => ?_)
    simp only [laws_toIntS.l0]
    rw [if_neg (by omega)]
    simp

theorem eqIntS_ev (l m : List Int) (hl : l.length ≤ 4611686018427387904) : Ev (fun k => laws_eqIntS.f k l m) (decide (l = m)) := by
  unfold laws_eqIntS.f
  by_cases hlm : l.length = m.length
  · refine ev_ifp (by omega) ?_
    refine loop_ev l.length (fun i => ∀ j (h : j < l.length), j < i → l[j] = m[j]'(by omega)) (fun k i => laws_eqIntS.l0 k l m (i : Int)) (decide (l = m)) (fun j _ h => absurd h (Nat.not_lt_zero _)) ?_ ?_
    · intro i hi hc ih
      have hi2 : i < m.length := by omega
      by_cases e : l[i] = m[i]
      · refine Ev.step (fun k => ?_) (ih (fun j h hj => ?_))
        · simp only [laws_eqIntS.l0]
          simp only [if_pos (show (i : Int) < (l.length : Int) by omega), if_pos (show (0 : Int) ≤ (i : Int) by omega), if_pos (show (i : Int) < (m.length : Int) by omega), rd_nat hi, rd_nat hi2, if_pos e, wS hi (by omega)]
        · by_cases hji : j = i
          · subst hji; exact e
          · exact hc j h (by omega)
      · refine ev_const (fun k => ?_)
        simp only [laws_eqIntS.l0]
        simp only [if_pos (show (i : Int) < (l.length : Int) by omega), if_pos (show (0 : Int) ≤ (i : Int) by omega), if_pos (show (i : Int) < (m.length : Int) by omega), rd_nat hi, rd_nat hi2, if_neg e]
        have : l ≠ m := fun hh => e (by subst hh; rfl)
        simp [this]
    · intro hc
      refine ev_const (fun k => ?_)
      simp only [laws_eqIntS.l0]
      rw [if_neg (by omega)]
      have : l = m := List.ext_getElem hlm (fun j h1 h2 => hc j h1 h1)
      simp [this]
  · refine ev_ifn (by omega) ?_
    have : l ≠ m := fun hh => hlm (by rw [hh])
    exact ev_eq (ev_some _) (by simp [this])

def srt (l : List Int) : List Int := l.mergeSort fun x y => decide (x ≤ y)
theorem srt_len (l : List Int) : (srt l).length = l.length := List.length_mergeSort _
theorem srt_unique {x l : List Int} (hp : x.Perm l) (hs : x.Pairwise (· ≤ ·)) : x = srt l := by
  refine List.Perm.eq_of_pairwise (le := (· ≤ ·)) (fun a b _ _ h1 h2 => Int.le_antisymm h1 h2) hs ?_ (hp.trans (List.mergeSort_perm l _).symm)
  have := List.pairwise_mergeSort (le := fun x y : Int => decide (x ≤ y)) (fun a b c h1 h2 => by simp at *; omega) (fun a b => by simp; omega) l
  exact this.imp (fun h => by simpa using h)
theorem implSort {l : List Int} (h : l.length ≤ 1048576) : impl_SortInts.f l = some (srt l) := by
  unfold impl_SortInts.f
  rw [if_pos (by omega)]
  rfl
def at_ (x : List Int) (p : Nat) : Int := rd x (p : Int)
theorem at_get {x : List Int} {p : Nat} (h : p < x.length) : at_ x p = x[p] := rd_nat h
theorem at_set {x : List Int} {i p : Nat} {v : Int} (hp : p < x.length) : at_ (x.set i v) p = if i = p then v else at_ x p := by
  rw [at_get (by simpa using hp), at_get hp, List.getElem_set]
/-- The places before i lie in order. -/
def upto (x : List Int) (i : Nat) : Prop := ∀ p q, p < q → q < i → q < x.length → at_ x p ≤ at_ x q
/-- The places before i + 1 lie in order but for place j, which is no more than what lies behind it. -/
def hole (x : List Int) (i j : Nat) : Prop := (∀ p q, p < q → q ≤ i → p ≠ j → q ≠ j → at_ x p ≤ at_ x q) ∧ ∀ q, j < q → q ≤ i → at_ x j ≤ at_ x q
theorem sortIn_l1 (l : List Int) (hl : l.length ≤ 1048576) (i : Nat) (hi : i < l.length) (hout : ∀ x : List Int, x.Perm l → upto x (i + 1) → Ev (fun k => spec_SortInts.l0 k x ((i + 1 : Nat) : Int)) (srt l)) :
    ∀ (j : Nat) (x : List Int), j ≤ i → x.Perm l → hole x i j → Ev (fun k => spec_SortInts.l1 k x (i : Int) (j : Int)) (srt l) := by
  intro j
  induction j with
  | zero =>
    intro x _ hp hh
    have hx := hp.length_eq
    refine Ev.step (fun k => ?_) (hout x hp (fun p q h1 h2 h3 => ?_))
    · simp only [spec_SortInts.l1]
      rw [if_neg (by omega), wS hi (by omega)]
    · by_cases e : p = 0
      · subst e; exact hh.2 q h1 (by omega)
      · exact hh.1 p q h1 (by omega) e (by omega)
  | succ j ih =>
    intro x hj hp hh
    have hx := hp.length_eq
    have hw : wrap64 (((j + 1 : Nat) : Int) - 1) = (j : Int) := by rw [w64 (by omega) (by omega)]; omega
    have e1 : rd x (j : Int) = at_ x j := rfl
    have e2 : rd x ((j + 1 : Nat) : Int) = at_ x (j + 1) := rfl
    by_cases c : at_ x j > at_ x (j + 1)
    · have hperm : ((x.set j (at_ x (j + 1))).set (j + 1) (at_ x j)).Perm l := by
        rw [at_get (show j + 1 < x.length by omega), at_get (show j < x.length by omega)]
        exact (List.set_set_perm (by omega) (by omega)).trans hp
      have hat : ∀ p, p < x.length → at_ ((x.set j (at_ x (j + 1))).set (j + 1) (at_ x j)) p = if j + 1 = p then at_ x j else if j = p then at_ x (j + 1) else at_ x p := by
        intro p h
        rw [at_set (by simpa using h), at_set h]
      refine Ev.step (fun k => ?_) (ih _ (by omega) hperm ⟨fun p q h1 h2 h3 h4 => ?_, fun q h1 h2 => ?_⟩)
      · simp only [spec_SortInts.l1]
        rw [hw, if_pos (by omega), if_pos (by omega), if_pos (by omega), if_pos (by omega), if_pos (by omega), e1, e2, if_pos c]
        unfold spec_l5Swap.f
        rw [if_pos (by omega), if_pos (by omega), if_pos (by omega), if_pos (by omega), Option.bind_some, Int.toNat_natCast, Int.toNat_natCast]
        rfl
      · rw [hat p (by omega), hat q (by omega)]
        by_cases eq : j + 1 = q
        · rw [if_pos eq, if_neg (by omega), if_neg (by omega)]
          exact hh.1 p j (by omega) (by omega) (by omega) (by omega)
        · rw [if_neg eq, if_neg (show ¬ j = q by omega)]
          by_cases ep : j + 1 = p
          · rw [if_pos ep]
            exact hh.1 j q (by omega) h2 (by omega) (by omega)
          · rw [if_neg ep, if_neg (by omega)]
            exact hh.1 p q h1 h2 (by omega) (by omega)
      · rw [hat j (by omega), hat q (by omega), if_neg (by omega), if_pos rfl]
        by_cases eq : j + 1 = q
        · rw [if_pos eq]; omega
        · rw [if_neg eq, if_neg (by omega)]
          exact hh.2 q (by omega) h2
    · refine Ev.step (fun k => ?_) (hout x hp (fun p q h1 h2 h3 => ?_))
      · simp only [spec_SortInts.l1]
        rw [hw, if_pos (by omega), if_pos (by omega), if_pos (by omega), if_pos (by omega), if_pos (by omega), e1, e2, if_neg c, wS hi (by omega)]
      · by_cases eq : q = j + 1
        · subst eq
          by_cases ep : p = j
          · subst ep; omega
          · have := hh.1 p j (by omega) (by omega) (by omega) (by omega)
            omega
        · by_cases ep : p = j + 1
          · subst ep; exact hh.2 q h1 (by omega)
          · exact hh.1 p q h1 (by omega) ep eq
theorem sort_l0 (l : List Int) (hl : l.length ≤ 1048576) : ∀ (d i : Nat) (x : List Int), l.length ≤ i + d → x.Perm l → upto x i → Ev (fun k => spec_SortInts.l0 k x (i : Int)) (srt l) := by
  intro d
  induction d with
  | zero =>
    intro i x hd hp hu
    have hx := hp.length_eq
    have : x = srt l := srt_unique hp (List.pairwise_iff_getElem.2 (fun a b ha hb hab => by
      have := hu a b hab (by omega) hb
      rw [at_get ha, at_get hb] at this
      exact this))
    rw [← this]
    exact ev_const (fun k => by simp only [spec_SortInts.l0]; rw [if_neg (by omega)])
  | succ d ih =>
    intro i x hd hp hu
    by_cases c : l.length ≤ i + d
    · exact ih i x c hp hu
    · have hx := hp.length_eq
      have hi : i < l.length := by omega
      refine Ev.step (fun k => ?_) (sortIn_l1 l hl i hi (fun y hy hyu => ih (i + 1) y (by omega) hy hyu) i x (Nat.le_refl _) hp ⟨fun p q h1 h2 h3 h4 => hu p q h1 (by omega) (by omega), fun q h1 h2 => by omega⟩)
      simp only [spec_SortInts.l0]
      rw [if_pos (by omega)]
theorem specSort_ev (l : List Int) (hl : l.length ≤ 1048576) : Ev (fun k => spec_SortInts.f k l) (srt l) := by
  unfold spec_SortInts.f
  refine ev_pure rfl (ev_ifp (by simp; omega) ?_)
  exact sort_l0 l hl l.length 1 l (by omega) (List.Perm.refl l) (fun p q h1 h2 _ => by omega)

theorem median_same (l : List Int) (hl : l.length ≤ 1048576) : ∃ r, Ev (fun k => spec_MedianOf.f k l) r ∧ impl_MedianOf.f l = some r := by
  unfold spec_MedianOf.f impl_MedianOf.f
  by_cases h0 : (l.length : Int) = 0
  · exact ⟨0, ev_ifp h0 (ev_some _), by rw [if_pos h0]⟩
  by_cases h1 : (l.length : Int) > 64
  · exact ⟨0, ev_ifn h0 (ev_ifp h1 (ev_some _)), by rw [if_neg h0, if_pos h1]⟩
  have hx := srt_len l
  have hw : wrap64 (Int.tdiv (wrap64 ((l.length : Int) - 1)) 2) = ((l.length : Int) - 1) / 2 := by
    rw [w64 (n := (l.length : Int) - 1) (by omega) (by omega), tdiv_nn (by omega), w64 (by omega) (by omega)]
  rw [hw]
  exact ⟨_, ev_ifn h0 (ev_ifn h1 (Ev.bind (specSort_ev l hl) (ev_ifp (by omega) (ev_ifp (by omega) (ev_some _))))), by rw [if_neg h0, if_neg h1, implSort hl, Option.bind_some, if_pos (by omega), if_pos (by omega)]⟩


end Go.Proofs.Ytbolealjmfbhjaa.Pure.FnExactMedianOf
namespace Go.Proofs.Ytbolealjmfbhjaa.Pure
open Go.RowKit Go.Proofs.Ytbolealjmfbhjaa.PFnExactMedianOf Go.Proofs.YtbolealjmfbhjaaW.PrintWords Go.Proofs.YtbolealjmfbhjaaW.PrintLast Go.Proofs.YtbolealjmfbhjaaW.PrintMore Go.Proofs.Ytbolealjmfbhjaa.B Go.Proofs.Ytbolealjmfbhjaa.Pure.FnExactMedianOf
theorem FnExactMedianOf : laws_FnExactMedianOf.Pure := by
  intro l _ _ _
  by_cases hn : (l.length : Int) > 1048576
  · exact ⟨0, by unfold laws_FnExactMedianOf.f; rw [if_pos hn]⟩
  · refine Ev.rounds (g := fun k => laws_FnExactMedianOf.f k l) ?_
    unfold laws_FnExactMedianOf.f
    obtain ⟨r, e1, e2⟩ := median_same l (by omega)
    refine ev_ifn hn ?_
    refine Ev.bind (toIntS_ev l (by omega)) ?_
    refine Ev.bind e1 ?_
    refine Ev.bind (toIntS_ev l (by omega)) ?_
    refine ev_pure e2 ?_
    refine ev_ifp rfl ?_
    refine Ev.bind (toIntS_ev l (by omega)) ?_
    refine Ev.bind (eqIntS_ev l l (by omega)) ?_
    exact ev_ifp (by simp) (ev_some _)

end Go.Proofs.Ytbolealjmfbhjaa.Pure
