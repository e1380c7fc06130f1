/- Partition of the program returns what the reference returns, for every list and all numbers; it leaves the list as it was and shares no memory with it. No condition. -/
import Derived.Test.YtmekpkajpjnkgaaPFnExactPartitionx0
import Derived.Test.YtmekpkajpjnkgaaPFnExactPartitionx1
import Derived.Test.YtmekpkajpjnkgaaPFnExactPartitionx2
import Derived.Test.YtmekpkajpjnkgaaPFnExactPartitionx3
import Derived.Test.YtmekpkajpjnkgaaB
set_option linter.unusedVariables false
set_option linter.unusedSimpArgs false
namespace Go.Proofs.Ytmekpkajpjnkgaa.Pure.FnExactPartition
open Go.RowKit Go.Proofs.Ytmekpkajpjnkgaa.PFnExactPartition Go.Proofs.YtmekpkajpjnkgaaW.PrintWords Go.Proofs.YtmekpkajpjnkgaaW.PrintLast Go.Proofs.YtmekpkajpjnkgaaW.PrintMore Go.Proofs.Ytmekpkajpjnkgaa.B

theorem toIntS_ev (l : List Int) (hl : l.length ≤ 1048576) : Ev (fun k => laws_toIntS.f k l) l := by
  unfold laws_toIntS.f
  refine ev_ifp (by omega) (ev_ifp (by omega) ?_)
  rw [show ((l.length : Int)).toNat = l.length by omega]
  have h := down_ev l.length (fun k i => laws_toIntS.l0 k l (l.take i ++ (List.replicate l.length (0 : Int)).drop i) (i : Int)) l ?_ ?_
  · simpa using h
  · intro i hi ih
    refine Ev.step (fun k => ?_) ih
    simp only [laws_toIntS.l0]
    rw [if_pos (by omega), if_pos (by omega), if_pos (by rw [step_len _ _ (by simp) _ (by omega)]; omega), rd_nat hi, wS hi (by omega), Int.toNat_natCast, set_step _ _ (by simp) _ hi]
  · refine ev_const (fun k => ?_)
    simp only [laws_toIntS.l0]
    rw [if_neg (by omega)]
    simp

theorem eqIntS_ev (l m : List Int) (hl : l.length ≤ 4611686018427387904) : Ev (fun k => laws_eqIntS.f k l m) (decide (l = m)) := by
  unfold laws_eqIntS.f
  by_cases hlm : l.length = m.length
  · refine ev_ifp (by omega) ?_
    refine loop_ev l.length (fun i => ∀ j (h : j < l.length), j < i → l[j] = m[j]'(by omega)) (fun k i => laws_eqIntS.l0 k l m (i : Int)) (decide (l = m)) (fun j _ h => absurd h (Nat.not_lt_zero _)) ?_ ?_
    · intro i hi hc ih
      have hi2 : i < m.length := by omega
      by_cases e : l[i] = m[i]
      · refine Ev.step (fun k => ?_) (ih (fun j h hj => ?_))
        · simp only [laws_eqIntS.l0]
          simp only [if_pos (show (i : Int) < (l.length : Int) by omega), if_pos (show (0 : Int) ≤ (i : Int) by omega), if_pos (show (i : Int) < (m.length : Int) by omega), rd_nat hi, rd_nat hi2, if_pos e, wS hi (by omega)]
        · by_cases hji : j = i
          · subst hji; exact e
          · exact hc j h (by omega)
      · refine ev_const (fun k => ?_)
        simp only [laws_eqIntS.l0]
        simp only [if_pos (show (i : Int) < (l.length : Int) by omega), if_pos (show (0 : Int) ≤ (i : Int) by omega), if_pos (show (i : Int) < (m.length : Int) by omega), rd_nat hi, rd_nat hi2, if_neg e]
        have : l ≠ m := fun hh => e (by subst hh; rfl)
        simp [this]
    · intro hc
      refine ev_const (fun k => ?_)
      simp only [laws_eqIntS.l0]
      rw [if_neg (by omega)]
      have : l = m := List.ext_getElem hlm (fun j h1 h2 => hc j h1 h1)
      simp [this]
  · refine ev_ifn (by omega) ?_
    have : l ≠ m := fun hh => hlm (by rw [hh])
    exact ev_eq (ev_some _) (by simp [this])

theorem markIntS_ev (l : List Int) (a : Int) (h0 : 0 ≤ a) (h1 : a + l.length ≤ 4611686018427387904) : Ev (fun k => laws_markIntS.f k l a) (a + l.length, mk a l.length) := by
  unfold laws_markIntS.f
  have hml := mk_len a l.length
  have h := down_ev l.length (fun k i => laws_markIntS.l0 k ((mk a l.length).take i ++ l.drop i) (a + (i : Int)) (i : Int)) (a + l.length, mk a l.length) ?_ ?_
  · simpa using h
  · intro i hi ih
    refine Ev.step (fun k => ?_) ih
    simp only [laws_markIntS.l0]
    rw [if_pos (by rw [step_len _ _ (by omega) _ (by omega)]; omega), if_pos (by omega), Int.toNat_natCast, wS hi (by omega), w64 (n := a + (i : Int) + 1) (by omega) (by omega)]
    have e := set_step (mk a l.length) l (by omega) i (by omega)
    rw [mk_at] at e
    rw [e, Int.natCast_add, ← Int.add_assoc]
    rfl
  · refine ev_const (fun k => ?_)
    simp only [laws_markIntS.l0]
    rw [if_neg (by rw [step_len _ _ (by omega) _ (by omega)]; omega)]
    rw [List.take_of_length_le (by omega), List.drop_eq_nil_of_le (by omega), List.append_nil]

theorem part_l0 (l : List Int) (hl : l.length ≤ 1048576) (p : Int) : ∀ (d : Nat) (i j : Int) (out : List S102) (x : List Int), 0 ≤ i → i ≤ l.length → j < l.length → j + 1 - i ≤ d → -1 ≤ j → (out.length : Int) ≤ i → x.length = l.length → (∀ t, i ≤ t → t ≤ j → rd x t = rd l t) →
    ∃ sw at_, Ev (fun k => spec_Partition.l0 k l p out i j) (sw, at_) ∧ Ev (fun k => impl_Partition.l0 k p x out i j) (sw, at_) ∧ sw.length ≤ 1048576 := by
  intro d
  induction d with
  | zero =>
    intro i j out x h0 hil hj hd hj1 ho hx hxl
    refine ⟨out, i, ev_const (fun k => ?_), ev_const (fun k => ?_), by omega⟩
    · simp only [spec_Partition.l0]; rw [if_neg (by omega)]
    · simp only [impl_Partition.l0]; rw [if_neg (by omega)]
  | succ d ih =>
    intro i j out x h0 hil hj hd hj1 ho hx hxl
    by_cases hij : i ≤ j
    · have e1 : wrap64 (i + 1) = i + 1 := w64 (by omega) (by omega)
      have e2 : wrap64 (j - 1) = j - 1 := w64 (by omega) (by omega)
      have hi : rd x i = rd l i := hxl i (by omega) hij
      have hjj : rd x j = rd l j := hxl j hij (by omega)
      by_cases c1 : rd l i < p
      · obtain ⟨sw, at_, a, b, hs⟩ := ih (i + 1) j out x (by omega) (by omega) hj (by omega) hj1 (by omega) hx (fun t h1 h2 => hxl t (by omega) h2)
        have hm : impl_move.f x i j p = some (i + 1, j, false) := by
          unfold impl_move.f
          rw [if_pos h0, if_pos (by omega), hi, if_pos c1, e1]
        refine ⟨sw, at_, Ev.step (fun k => ?_) a, Ev.step (fun k => ?_) b, hs⟩
        · simp only [spec_Partition.l0]; rw [if_pos hij, if_pos h0, if_pos (by omega), if_pos c1, e1]
        · simp only [impl_Partition.l0]; rw [if_pos hij, hm, Option.bind_some, if_neg (by simp)]
      · by_cases c2 : rd l j ≥ p
        · obtain ⟨sw, at_, a, b, hs⟩ := ih i (j - 1) out x (by omega) (by omega) (by omega) (by omega) (by omega) (by omega) hx (fun t h1 h2 => hxl t (by omega) (by omega))
          have hm : impl_move.f x i j p = some (i, j - 1, false) := by
            unfold impl_move.f
            rw [if_pos h0, if_pos (by omega), hi, if_neg c1, if_pos (by omega), if_pos (by omega), hjj, if_pos c2, e2]
          refine ⟨sw, at_, Ev.step (fun k => ?_) a, Ev.step (fun k => ?_) b, hs⟩
          · simp only [spec_Partition.l0]; rw [if_pos hij, if_pos h0, if_pos (by omega), if_neg c1, if_pos (by omega), if_pos (by omega), if_pos c2, e2]
          · simp only [impl_Partition.l0]; rw [if_pos hij, hm, Option.bind_some, if_neg (by simp)]
        · have hij2 : i < j := by
            rcases Int.lt_or_eq_of_le hij with h | h
            · exact h
            · subst h; omega
          obtain ⟨sw, at_, a, b, hs⟩ := ih (i + 1) (j - 1) (out ++ [⟨i, j⟩]) ((x.set i.toNat (rd x j)).set j.toNat (rd x i)) (by omega) (by omega) (by omega) (by omega) (by omega) (by simp; omega) (by simp [hx]) (fun t h1 h2 => by
            rw [← hxl t (by omega) (by omega)]
            unfold rd
            simp only [List.getD_eq_getElem?_getD]
            rw [List.getElem?_set_ne (by omega), List.getElem?_set_ne (by omega)])
          have hm : impl_move.f x i j p = some (i + 1, j - 1, true) := by
            unfold impl_move.f
            rw [if_pos h0, if_pos (by omega), hi, if_neg c1, if_pos (by omega), if_pos (by omega), hjj, if_neg c2, e1, e2]
          refine ⟨sw, at_, Ev.step (fun k => ?_) a, Ev.step (fun k => ?_) b, hs⟩
          · simp only [spec_Partition.l0]; rw [if_pos hij, if_pos h0, if_pos (by omega), if_neg c1, if_pos (by omega), if_pos (by omega), if_neg c2, if_pos (by omega), e1, e2]
          · simp only [impl_Partition.l0]; rw [if_pos hij, hm, Option.bind_some, if_pos rfl, if_pos (by omega), if_pos (by omega), if_pos h0, if_pos (by omega), if_pos (by omega)]
    · refine ⟨out, i, ev_const (fun k => ?_), ev_const (fun k => ?_), by omega⟩
      · simp only [spec_Partition.l0]; rw [if_neg hij]
      · simp only [impl_Partition.l0]; rw [if_neg hij]
theorem part_both (l : List Int) (hl : l.length ≤ 1048576) (a b p : Int) (hb : -9223372036854775808 ≤ b) : ∃ sw at_, Ev (fun k => spec_Partition.f k l a b p) (sw, at_) ∧ Ev (fun k => impl_Partition.f k l a b p) (sw, at_) ∧ sw.length ≤ 1048576 := by
  unfold spec_Partition.f impl_Partition.f
  have hf1 : Ev (fun k => spec_Partition.j0 k l a b p [] true) ([], 0) := ev_const (fun k => by simp [spec_Partition.j0])
  have hf2 : Ev (fun k => impl_Partition.j0 k l a b p true) ([], 0) := ev_const (fun k => by simp [impl_Partition.j0])
  by_cases h1 : a < 0
  · refine ⟨[], 0, ev_pure rfl ?_, ev_ifp h1 hf2, by simp⟩
    exact ev_pure (a := false) (by unfold spec_l1In.f; rw [if_neg (by omega)]) (ev_ifn (by simp) hf1)
  by_cases h2 : a > b
  · refine ⟨[], 0, ev_pure rfl ?_, ev_ifn h1 (ev_ifp h2 hf2), by simp⟩
    exact ev_pure (a := false) (by unfold spec_l1In.f; rw [if_pos (by omega), decide_eq_false (by omega)]) (ev_ifn (by simp) hf1)
  have hin : spec_l1In.f a 0 b = some true := by
    unfold spec_l1In.f
    rw [if_pos (by omega), decide_eq_true (by omega)]
  by_cases h3 : b > (l.length : Int)
  · refine ⟨[], 0, ev_pure rfl (ev_pure hin (ev_ifp rfl ?_)), ev_ifn h1 (ev_ifn h2 ?_), by simp⟩
    · rw [decide_eq_true h3]; exact hf1
    · rw [decide_eq_true h3]; exact hf2
  · obtain ⟨sw, at_, e1, e2, hs⟩ := part_l0 l hl p (b - a).toNat a (b - 1) [] l (by omega) (by omega) (by omega) (by omega) (by omega) (by simp; omega) rfl (fun _ _ _ => rfl)
    refine ⟨sw, at_, ev_pure rfl (ev_pure hin (ev_ifp rfl ?_)), ev_ifn h1 (ev_ifn h2 ?_), hs⟩
    · rw [decide_eq_false h3]
      refine Ev.step (fun k => ?_) e1
      simp only [spec_Partition.j0]
      rw [if_neg (by simp), w64 (n := b - 1) (by omega) (by omega)]
    · rw [decide_eq_false h3]
      refine Ev.step (fun k => ?_) e2
      simp only [impl_Partition.j0]
      rw [if_neg (by simp), w64 (n := b - 1) (by omega) (by omega)]
      unfold slices_Clone_int_int.f
      rw [if_pos (by omega), Option.bind_some]

theorem rdSwap {l : List S102} {i : Nat} (h : i < l.length) : rd_T102 l (i : Int) = l[i] := by
  unfold rd_T102; simp [List.getD_eq_getElem?_getD, List.getElem?_eq_getElem h]

theorem eqSwapS_ev (l : List S102) (hl : l.length ≤ 4611686018427387904) : Ev (fun k => laws_eqSwapS.f k l l) true := by
  unfold laws_eqSwapS.f
  refine ev_ifp rfl ?_
  refine down_ev l.length (fun k i => laws_eqSwapS.l0 k l l (i : Int)) true ?_ ?_
  · intro i hi ih
    refine Ev.step (fun k => ?_) ih
    simp only [laws_eqSwapS.l0]
    rw [if_pos (by omega), if_pos (by omega), if_pos (by omega), rdSwap hi]
    unfold laws_eqSwap.f
    rw [if_pos rfl, if_pos rfl, Option.bind_some, if_pos rfl, wS hi (by omega)]
  · refine ev_const (fun k => ?_)
    simp only [laws_eqSwapS.l0]
    rw [if_neg (by omega)]

def mkSwap (a : Int) (n : Nat) : List S102 := (List.range n).map fun j : Nat => ⟨a + 2 * (j : Int), a + 2 * (j : Int) + 1⟩
theorem mkSwap_len (a : Int) (n : Nat) : (mkSwap a n).length = n := by simp [mkSwap]
theorem mkSwap_at (a : Int) (n : Nat) (j : Nat) (h : j < (mkSwap a n).length) : (mkSwap a n)[j] = ⟨a + 2 * (j : Int), a + 2 * (j : Int) + 1⟩ := by simp [mkSwap]

theorem markSwapS_ev (l : List S102) (a : Int) (h0 : 0 ≤ a) (h1 : a + 2 * l.length ≤ 4611686018427387904) : Ev (fun k => laws_markSwapS.f k l a) (a + 2 * l.length, mkSwap a l.length) := by
  unfold laws_markSwapS.f
  have hml := mkSwap_len a l.length
  have h := down_ev l.length (fun k i => laws_markSwapS.l0 k ((mkSwap a l.length).take i ++ l.drop i) (a + 2 * (i : Int)) (i : Int)) (a + 2 * l.length, mkSwap a l.length) ?_ ?_
  · simpa using h
  · intro i hi ih
    refine Ev.step (fun k => ?_) ih
    simp only [laws_markSwapS.l0]
    have hs := step_len (mkSwap a l.length) l (by omega) i (by omega)
    generalize hx : (mkSwap a l.length).take i ++ l.drop i = x at hs
    rw [if_pos (by omega), if_pos (by omega), Option.bind_some, Int.toNat_natCast, wS hi (by omega), w64 (n := a + 2 * (i : Int) + 1) (by omega) (by omega), w64 (n := a + 2 * (i : Int) + 1 + 1) (by omega) (by omega)]
    have hg : rd_T102 (x.set i ⟨a + 2 * (i : Int), (rd_T102 x (i : Int)).f1⟩) (i : Int) = ⟨a + 2 * (i : Int), (rd_T102 x (i : Int)).f1⟩ := by
      rw [rdSwap (by rw [List.length_set]; omega), List.getElem_set_self]
    rw [hg, List.set_set, ← hx]
    have e := set_step (mkSwap a l.length) l (by omega) i (by omega)
    rw [mkSwap_at] at e
    rw [show a + 2 * (i : Int) + 1 + 1 = a + 2 * ((i + 1 : Nat) : Int) by omega]
    rw [← e]
  · refine ev_const (fun k => ?_)
    simp only [laws_markSwapS.l0]
    rw [if_neg (by rw [step_len _ _ (by omega) _ (by omega)]; omega)]
    rw [List.take_of_length_le (by omega), List.drop_eq_nil_of_le (by omega), List.append_nil]

theorem heldSwapS_ev (n : Nat) (a : Int) (h0 : 0 ≤ a) (h1 : a + 2 * n ≤ 4611686018427387904) : Ev (fun k => laws_heldSwapS.f k (mkSwap a n) a) (a + 2 * n) := by
  unfold laws_heldSwapS.f
  have hml := mkSwap_len a n
  have h := down_ev n (fun k i => laws_heldSwapS.l0 k (mkSwap a n) (a + 2 * (i : Int)) (i : Int)) (a + 2 * n) ?_ ?_
  · simpa using h
  · intro i hi ih
    refine Ev.step (fun k => ?_) ih
    simp only [laws_heldSwapS.l0]
    rw [if_pos (by omega), if_pos (by omega), rdSwap (by omega), mkSwap_at, if_pos rfl, w64 (n := a + 2 * (i : Int) + 1) (by omega) (by omega), if_pos rfl, wS hi (by omega), w64 (n := a + 2 * (i : Int) + 1 + 1) (by omega) (by omega)]
    rw [show a + 2 * (i : Int) + 1 + 1 = a + 2 * ((i + 1 : Nat) : Int) by omega]
  · refine ev_const (fun k => ?_)
    simp only [laws_heldSwapS.l0]
    rw [if_neg (by omega)]


end Go.Proofs.Ytmekpkajpjnkgaa.Pure.FnExactPartition
namespace Go.Proofs.Ytmekpkajpjnkgaa.Pure
open Go.RowKit Go.Proofs.Ytmekpkajpjnkgaa.PFnExactPartition Go.Proofs.YtmekpkajpjnkgaaW.PrintWords Go.Proofs.YtmekpkajpjnkgaaW.PrintLast Go.Proofs.YtmekpkajpjnkgaaW.PrintMore Go.Proofs.Ytmekpkajpjnkgaa.B Go.Proofs.Ytmekpkajpjnkgaa.Pure.FnExactPartition
theorem FnExactPartition : laws_FnExactPartition.Pure := by
  intro l a b p _ _ _ _ hb _
  have hbb := (wf_bounds hb).1
  by_cases hn : (l.length : Int) > 1048576
  · exact ⟨0, by unfold laws_FnExactPartition.f; rw [if_pos hn]⟩
  · refine Ev.rounds (g := fun k => laws_FnExactPartition.f k l a b p) ?_
    unfold laws_FnExactPartition.f
    obtain ⟨sw, at_, h1, h2, hs⟩ := part_both l (by omega) a b p hbb
    refine ev_ifn hn ?_
    refine Ev.bind (toIntS_ev l (by omega)) ?_
    refine Ev.bind h1 ?_
    refine Ev.bind (toIntS_ev l (by omega)) ?_
    refine Ev.bind h2 ?_
    refine Ev.bind (eqSwapS_ev sw (by omega)) ?_
    refine ev_ifp rfl ?_
    apply Ev.step
    · intro k; simp only [laws_FnExactPartition.j0]; rfl
    refine ev_ifn (by simp) ?_
    refine Ev.bind (toIntS_ev l (by omega)) ?_
    refine Ev.bind (eqIntS_ev l l (by omega)) ?_
    refine ev_ifp (by simp) ?_
    refine Ev.bind (markIntS_ev l 1 (by omega) (by omega)) ?_
    refine ev_ifn (by show ¬ (1 + (l.length : Int) < 0); omega) ?_
    refine Ev.bind (eqSwapS_ev sw (by omega)) ?_
    refine ev_ifp rfl ?_
    apply Ev.step
    · intro k; simp only [laws_FnExactPartition.j1]; rfl
    refine ev_ifn (by simp) ?_
    refine Ev.bind (markSwapS_ev sw 1 (by omega) (by omega)) ?_
    refine Ev.bind (heldSwapS_ev sw.length 1 (by omega) (by omega)) ?_
    refine ev_ifn (by omega) (ev_ifp rfl ?_)
    refine Ev.bind (toIntS_ev l (by omega)) ?_
    refine Ev.bind h2 ?_
    refine Ev.bind (eqSwapS_ev sw (by omega)) ?_
    refine ev_ifp rfl ?_
    apply Ev.step
    · intro k; simp only [laws_FnExactPartition.j2]; rfl
    refine ev_ifn (by simp) ?_
    refine Ev.bind (heldSwapS_ev sw.length 1 (by omega) (by omega)) ?_
    exact ev_ifn (by omega) (ev_ifp rfl (ev_some _))

end Go.Proofs.Ytmekpkajpjnkgaa.Pure
