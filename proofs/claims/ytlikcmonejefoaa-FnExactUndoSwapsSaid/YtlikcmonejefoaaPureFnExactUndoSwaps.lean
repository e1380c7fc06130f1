/- UndoSwaps of the program returns what the reference returns, for every column and list of swaps; it leaves both as they were and shares no memory with them. No condition. -/
import Derived.Test.YtlikcmonejefoaaPFnExactUndoSwapsx0
import Derived.Test.YtlikcmonejefoaaPFnExactUndoSwapsx1
import Derived.Test.YtlikcmonejefoaaPFnExactUndoSwapsx2
import Derived.Test.YtlikcmonejefoaaPFnExactUndoSwapsx3
import Derived.Test.YtlikcmonejefoaaPFnExactUndoSwapsx4
import Derived.Test.YtlikcmonejefoaaPFnExactUndoSwapsx5
import Derived.Test.YtlikcmonejefoaaPFnExactUndoSwapsx6
import Derived.Test.YtlikcmonejefoaaPFnExactUndoSwapsx7
import Derived.Test.YtlikcmonejefoaaPFnExactUndoSwapsx8
import Derived.Test.YtlikcmonejefoaaPFnExactUndoSwapsx9
import Derived.Test.YtlikcmonejefoaaPFnExactUndoSwapsx10
import Derived.Test.YtlikcmonejefoaaB
set_option linter.unusedVariables false
set_option linter.unusedSimpArgs false
namespace Go.Proofs.Ytlikcmonejefoaa.Pure.FnExactUndoSwaps
open Go.RowKit Go.Proofs.Ytlikcmonejefoaa.PFnExactUndoSwaps Go.Proofs.YtlikcmonejefoaaW.PrintWords Go.Proofs.YtlikcmonejefoaaW.PrintLast Go.Proofs.YtlikcmonejefoaaW.PrintMore Go.Proofs.Ytlikcmonejefoaa.B

theorem szIntS_at (l : List Int) (a : Int) (ha : 0 ≤ a ∧ a ≤ 1048576) (hl : l.length ≤ maxLen) : laws_szIntS.f l a = some (if (l.length : Int) ≤ a then a - l.length else -1) := by
  unfold maxLen at hl
  unfold laws_szIntS.f
  rw [w64 (n := a - (l.length : Int)) (by omega) (by omega)]
  by_cases h : (l.length : Int) ≤ a
  · rw [if_neg (by omega), if_pos h]
  · rw [if_pos (by omega), if_neg h]

theorem szPivotS_at (l : List S76) (a : Int) (ha : 0 ≤ a ∧ a ≤ 1048576) (hl : l.length ≤ maxLen) : laws_szPivotS.f l a = some (if (l.length : Int) ≤ a then a - l.length else -1) := by
  unfold maxLen at hl
  unfold laws_szPivotS.f
  rw [w64 (n := a - (l.length : Int)) (by omega) (by omega)]
  by_cases h : (l.length : Int) ≤ a
  · rw [if_neg (by omega), if_pos h]
  · rw [if_pos (by omega), if_neg h]

theorem szCracker_at (v r : List Int) (p : List S76) (a : Int) (ha : 0 ≤ a ∧ a ≤ 1048576) (hv : v.length ≤ maxLen) (hr : r.length ≤ maxLen) (hp : p.length ≤ maxLen) :
    ∃ t, laws_szCracker.f v r p a = some t ∧ (t < 0 ∨ (0 ≤ t ∧ t ≤ a ∧ v.length ≤ 1048576 ∧ r.length ≤ 1048576 ∧ p.length ≤ 1048576)) := by
  unfold laws_szCracker.f
  rw [szIntS_at v a ha hv, Option.bind_some]
  by_cases h1 : (v.length : Int) ≤ a
  · rw [if_pos h1, if_neg (by omega), szIntS_at r _ (by omega) hr, Option.bind_some]
    by_cases h2 : (r.length : Int) ≤ a - v.length
    · rw [if_pos h2, if_neg (by omega), szPivotS_at p _ (by omega) hp, Option.bind_some]
      by_cases h3 : (p.length : Int) ≤ a - v.length - r.length
      · rw [if_pos h3, if_neg (by omega)]
        exact ⟨_, rfl, .inr ⟨by omega, by omega, by omega, by omega, by omega⟩⟩
      · rw [if_neg h3, if_pos (by omega)]
        exact ⟨_, rfl, .inl (by omega)⟩
    · rw [if_neg h2, if_pos (by omega)]
      exact ⟨_, rfl, .inl (by omega)⟩
  · rw [if_neg h1, if_pos (by omega)]
    exact ⟨_, rfl, .inl (by omega)⟩

theorem szSwapS_at (l : List S59) (a : Int) (ha : 0 ≤ a ∧ a ≤ 1048576) (hl : l.length ≤ maxLen) : laws_szSwapS.f l a = some (if (l.length : Int) ≤ a then a - l.length else -1) := by
  unfold maxLen at hl
  unfold laws_szSwapS.f
  rw [w64 (n := a - (l.length : Int)) (by omega) (by omega)]
  by_cases h : (l.length : Int) ≤ a
  · rw [if_neg (by omega), if_pos h]
  · rw [if_pos (by omega), if_neg h]

theorem toIntS_ev (l : List Int) (hl : l.length ≤ 1048576) : Ev (fun k => laws_toIntS.f k l) l := by
  unfold laws_toIntS.f
  refine ev_ifp (by omega) (ev_ifp (by omega) ?_)
  rw [show ((l.length : Int)).toNat = l.length by omega]
  have h := down_ev l.length (fun k i => laws_toIntS.l0 k l (l.take i ++ (List.replicate l.length (0 : Int)).drop i) (i : Int)) l ?_ ?_
  · simpa using h
  · intro i hi ih
    refine Ev.step (fun k => ?_) ih
    simp only [laws_toIntS.l0]
    rw [if_pos (by omega), if_pos (by omega), if_pos (by rw [step_len _ _ (by simp) _ (by omega)]; omega), rd_nat hi, wS hi (by omega), Int.toNat_natCast, set_step _ _ (by simp) _ hi]
  · refine ev_const (fun k => ?_)
    simp only [laws_toIntS.l0]
    rw [if_neg (by omega)]
    simp

def cvPivot (x : S76) : S74 := ⟨x.f0, x.f1⟩

theorem toPivotS_ev (l : List S76) (hl : l.length ≤ 1048576) : Ev (fun k => laws_toPivotS.f k l) (l.map cvPivot) := by
  unfold laws_toPivotS.f
  refine ev_ifp (by omega) (ev_ifp (by omega) ?_)
  rw [show ((l.length : Int)).toNat = l.length by omega]
  have h := down_ev l.length (fun k i => laws_toPivotS.l0 k l ((l.map cvPivot).take i ++ (List.replicate l.length z74).drop i) (i : Int)) (l.map cvPivot) ?_ ?_
  · simpa using h
  · intro i hi ih
    refine Ev.step (fun k => ?_) ih
    simp only [laws_toPivotS.l0]
    have hr : rd_T76 l (i : Int) = l[i] := by unfold rd_T76; simp [List.getD_eq_getElem?_getD, List.getElem?_eq_getElem hi]
    rw [if_pos (by omega), if_pos (by omega), hr]
    unfold laws_toPivot.f
    simp only [Option.bind_some]
    rw [if_pos (by rw [step_len _ _ (by simp) _ (by simp; omega)]; simp; omega), wS hi (by omega), Int.toNat_natCast]
    have e := set_step (l.map cvPivot) (List.replicate l.length z74) (by simp) i (by simpa using hi)
    simp only [List.getElem_map] at e
    rw [← e]
    rfl
  · refine ev_const (fun k => ?_)
    simp only [laws_toPivotS.l0]
    rw [if_neg (by omega)]
    rw [List.take_of_length_le (by simp), List.drop_eq_nil_of_le (by simp), List.append_nil]

theorem toCracker_ev (v r : List Int) (p : List S76) (hv : v.length ≤ 1048576) (hr : r.length ≤ 1048576) (hp : p.length ≤ 1048576) : Ev (fun k => laws_toCracker.f k v r p) (v, r, p.map cvPivot) := by
  unfold laws_toCracker.f
  exact Ev.bind (toIntS_ev v hv) (Ev.bind (toIntS_ev r hr) (Ev.bind (toPivotS_ev p hp) (ev_some _)))

def cvSwap (x : S59) : S50 := ⟨x.f0, x.f1⟩

theorem toSwapS_ev (l : List S59) (hl : l.length ≤ 1048576) : Ev (fun k => laws_toSwapS.f k l) (l.map cvSwap) := by
  unfold laws_toSwapS.f
  refine ev_ifp (by omega) (ev_ifp (by omega) ?_)
  rw [show ((l.length : Int)).toNat = l.length by omega]
  have h := down_ev l.length (fun k i => laws_toSwapS.l0 k l ((l.map cvSwap).take i ++ (List.replicate l.length z50).drop i) (i : Int)) (l.map cvSwap) ?_ ?_
  · simpa using h
  · intro i hi ih
    refine Ev.step (fun k => ?_) ih
    simp only [laws_toSwapS.l0]
    have hr : rd_T59 l (i : Int) = l[i] := by unfold rd_T59; simp [List.getD_eq_getElem?_getD, List.getElem?_eq_getElem hi]
    rw [if_pos (by omega), if_pos (by omega), hr]
    unfold laws_toSwap.f
    simp only [Option.bind_some]
    rw [if_pos (by rw [step_len _ _ (by simp) _ (by simp; omega)]; simp; omega), wS hi (by omega), Int.toNat_natCast]
    have e := set_step (l.map cvSwap) (List.replicate l.length z50) (by simp) i (by simpa using hi)
    simp only [List.getElem_map] at e
    rw [← e]
    rfl
  · refine ev_const (fun k => ?_)
    simp only [laws_toSwapS.l0]
    rw [if_neg (by omega)]
    rw [List.take_of_length_le (by simp), List.drop_eq_nil_of_le (by simp), List.append_nil]

theorem eqIntS_ev (l m : List Int) (hl : l.length ≤ 4611686018427387904) : Ev (fun k => laws_eqIntS.f k l m) (decide (l = m)) := by
  unfold laws_eqIntS.f
  by_cases hlm : l.length = m.length
  · refine ev_ifp (by omega) ?_
    refine loop_ev l.length (fun i => ∀ j (h : j < l.length), j < i → l[j] = m[j]'(by omega)) (fun k i => laws_eqIntS.l0 k l m (i : Int)) (decide (l = m)) (fun j _ h => absurd h (Nat.not_lt_zero _)) ?_ ?_
    · intro i hi hc ih
      have hi2 : i < m.length := by omega
      by_cases e : l[i] = m[i]
      · refine Ev.step (fun k => ?_) (ih (fun j h hj => ?_))
        · simp only [laws_eqIntS.l0]
          simp only [if_pos (show (i : Int) < (l.length : Int) by omega), if_pos (show (0 : Int) ≤ (i : Int) by omega), if_pos (show (i : Int) < (m.length : Int) by omega), rd_nat hi, rd_nat hi2, if_pos e, wS hi (by omega)]
        · by_cases hji : j = i
          · subst hji; exact e
          · exact hc j h (by omega)
      · refine ev_const (fun k => ?_)
        simp only [laws_eqIntS.l0]
        simp only [if_pos (show (i : Int) < (l.length : Int) by omega), if_pos (show (0 : Int) ≤ (i : Int) by omega), if_pos (show (i : Int) < (m.length : Int) by omega), rd_nat hi, rd_nat hi2, if_neg e]
        have : l ≠ m := fun hh => e (by subst hh; rfl)
        simp [this]
    · intro hc
      refine ev_const (fun k => ?_)
      simp only [laws_eqIntS.l0]
      rw [if_neg (by omega)]
      have : l = m := List.ext_getElem hlm (fun j h1 h2 => hc j h1 h1)
      simp [this]
  · refine ev_ifn (by omega) ?_
    have : l ≠ m := fun hh => hlm (by rw [hh])
    exact ev_eq (ev_some _) (by simp [this])

theorem rdPivot {l : List S74} {i : Nat} (h : i < l.length) : rd_T74 l (i : Int) = l[i] := by
  unfold rd_T74; simp [List.getD_eq_getElem?_getD, List.getElem?_eq_getElem h]

theorem eqPivotS_ev (l : List S74) (hl : l.length ≤ 4611686018427387904) : Ev (fun k => laws_eqPivotS.f k l l) true := by
  unfold laws_eqPivotS.f
  refine ev_ifp rfl ?_
  refine down_ev l.length (fun k i => laws_eqPivotS.l0 k l l (i : Int)) true ?_ ?_
  · intro i hi ih
    refine Ev.step (fun k => ?_) ih
    simp only [laws_eqPivotS.l0]
    rw [if_pos (by omega), if_pos (by omega), if_pos (by omega), rdPivot hi]
    unfold laws_eqPivot.f
    rw [if_pos rfl, if_pos rfl, Option.bind_some, if_pos rfl, wS hi (by omega)]
  · refine ev_const (fun k => ?_)
    simp only [laws_eqPivotS.l0]
    rw [if_neg (by omega)]

theorem eqCracker_ev (v r : List Int) (p : List S74) (hv : v.length ≤ 4611686018427387904) (hr : r.length ≤ 4611686018427387904) (hp : p.length ≤ 4611686018427387904) : Ev (fun k => laws_eqCracker.f k v r p v r p) true := by
  unfold laws_eqCracker.f
  refine Ev.bind (eqIntS_ev v v hv) (ev_ifp (by simp) ?_)
  refine Ev.bind (eqIntS_ev r r hr) (ev_ifp (by simp) ?_)
  exact Ev.bind (eqPivotS_ev p hp) (ev_ifp rfl (ev_some _))

theorem rdSwap {l : List S50} {i : Nat} (h : i < l.length) : rd_T50 l (i : Int) = l[i] := by
  unfold rd_T50; simp [List.getD_eq_getElem?_getD, List.getElem?_eq_getElem h]

theorem eqSwapS_ev (l : List S50) (hl : l.length ≤ 4611686018427387904) : Ev (fun k => laws_eqSwapS.f k l l) true := by
  unfold laws_eqSwapS.f
  refine ev_ifp rfl ?_
  refine down_ev l.length (fun k i => laws_eqSwapS.l0 k l l (i : Int)) true ?_ ?_
  · intro i hi ih
    refine Ev.step (fun k => ?_) ih
    simp only [laws_eqSwapS.l0]
    rw [if_pos (by omega), if_pos (by omega), if_pos (by omega), rdSwap hi]
    unfold laws_eqSwap.f
    rw [if_pos rfl, if_pos rfl, Option.bind_some, if_pos rfl, wS hi (by omega)]
  · refine ev_const (fun k => ?_)
    simp only [laws_eqSwapS.l0]
    rw [if_neg (by omega)]

theorem markIntS_ev (l : List Int) (a : Int) (h0 : 0 ≤ a) (h1 : a + l.length ≤ 4611686018427387904) : Ev (fun k => laws_markIntS.f k l a) (a + l.length, mk a l.length) := by
  unfold laws_markIntS.f
  have hml := mk_len a l.length
  have h := down_ev l.length (fun k i => laws_markIntS.l0 k ((mk a l.length).take i ++ l.drop i) (a + (i : Int)) (i : Int)) (a + l.length, mk a l.length) ?_ ?_
  · simpa using h
  · intro i hi ih
    refine Ev.step (fun k => ?_) ih
    simp only [laws_markIntS.l0]
    rw [if_pos (by rw [step_len _ _ (by omega) _ (by omega)]; omega), if_pos (by omega), Int.toNat_natCast, wS hi (by omega), w64 (n := a + (i : Int) + 1) (by omega) (by omega)]
    have e := set_step (mk a l.length) l (by omega) i (by omega)
    rw [mk_at] at e
    rw [e, Int.natCast_add, ← Int.add_assoc]
    rfl
  · refine ev_const (fun k => ?_)
    simp only [laws_markIntS.l0]
    rw [if_neg (by rw [step_len _ _ (by omega) _ (by omega)]; omega)]
    rw [List.take_of_length_le (by omega), List.drop_eq_nil_of_le (by omega), List.append_nil]

def mkPivot (a : Int) (n : Nat) : List S74 := (List.range n).map fun j : Nat => ⟨a + 2 * (j : Int), a + 2 * (j : Int) + 1⟩
theorem mkPivot_len (a : Int) (n : Nat) : (mkPivot a n).length = n := by simp [mkPivot]
theorem mkPivot_at (a : Int) (n : Nat) (j : Nat) (h : j < (mkPivot a n).length) : (mkPivot a n)[j] = ⟨a + 2 * (j : Int), a + 2 * (j : Int) + 1⟩ := by simp [mkPivot]

theorem markPivotS_ev (l : List S74) (a : Int) (h0 : 0 ≤ a) (h1 : a + 2 * l.length ≤ 4611686018427387904) : Ev (fun k => laws_markPivotS.f k l a) (a + 2 * l.length, mkPivot a l.length) := by
  unfold laws_markPivotS.f
  have hml := mkPivot_len a l.length
  have h := down_ev l.length (fun k i => laws_markPivotS.l0 k ((mkPivot a l.length).take i ++ l.drop i) (a + 2 * (i : Int)) (i : Int)) (a + 2 * l.length, mkPivot a l.length) ?_ ?_
  · simpa using h
  · intro i hi ih
    refine Ev.step (fun k => ?_) ih
    simp only [laws_markPivotS.l0]
    have hs := step_len (mkPivot a l.length) l (by omega) i (by omega)
    generalize hx : (mkPivot a l.length).take i ++ l.drop i = x at hs
    rw [if_pos (by omega), if_pos (by omega), Option.bind_some, Int.toNat_natCast, wS hi (by omega), w64 (n := a + 2 * (i : Int) + 1) (by omega) (by omega), w64 (n := a + 2 * (i : Int) + 1 + 1) (by omega) (by omega)]
    have hg : rd_T74 (x.set i ⟨a + 2 * (i : Int), (rd_T74 x (i : Int)).f1⟩) (i : Int) = ⟨a + 2 * (i : Int), (rd_T74 x (i : Int)).f1⟩ := by
      rw [rdPivot (by rw [List.length_set]; omega), List.getElem_set_self]
    rw [hg, List.set_set, ← hx]
    have e := set_step (mkPivot a l.length) l (by omega) i (by omega)
    rw [mkPivot_at] at e
    rw [show a + 2 * (i : Int) + 1 + 1 = a + 2 * ((i + 1 : Nat) : Int) by omega]
    rw [← e]
  · refine ev_const (fun k => ?_)
    simp only [laws_markPivotS.l0]
    rw [if_neg (by rw [step_len _ _ (by omega) _ (by omega)]; omega)]
    rw [List.take_of_length_le (by omega), List.drop_eq_nil_of_le (by omega), List.append_nil]

theorem markCracker_ev (v r : List Int) (p : List S74) (a : Int) (h0 : 0 ≤ a) (h1 : a + v.length + r.length + 2 * p.length ≤ 4611686018427387904) :
    Ev (fun k => laws_markCracker.f k v r p a) (a + v.length + r.length + 2 * p.length, mk a v.length, mk (a + v.length) r.length, mkPivot (a + v.length + r.length) p.length) := by
  unfold laws_markCracker.f
  refine Ev.bind (markIntS_ev v a h0 (by omega)) ?_
  refine Ev.bind (markIntS_ev r _ (by show 0 ≤ a + (v.length : Int); omega) (by show a + (v.length : Int) + r.length ≤ _; omega)) ?_
  refine Ev.bind (markPivotS_ev p _ (by show 0 ≤ a + (v.length : Int) + r.length; omega) (by show a + (v.length : Int) + r.length + 2 * p.length ≤ _; omega)) ?_
  exact ev_some _

def mkSwap (a : Int) (n : Nat) : List S50 := (List.range n).map fun j : Nat => ⟨a + 2 * (j : Int), a + 2 * (j : Int) + 1⟩
theorem mkSwap_len (a : Int) (n : Nat) : (mkSwap a n).length = n := by simp [mkSwap]
theorem mkSwap_at (a : Int) (n : Nat) (j : Nat) (h : j < (mkSwap a n).length) : (mkSwap a n)[j] = ⟨a + 2 * (j : Int), a + 2 * (j : Int) + 1⟩ := by simp [mkSwap]

theorem markSwapS_ev (l : List S50) (a : Int) (h0 : 0 ≤ a) (h1 : a + 2 * l.length ≤ 4611686018427387904) : Ev (fun k => laws_markSwapS.f k l a) (a + 2 * l.length, mkSwap a l.length) := by
  unfold laws_markSwapS.f
  have hml := mkSwap_len a l.length
  have h := down_ev l.length (fun k i => laws_markSwapS.l0 k ((mkSwap a l.length).take i ++ l.drop i) (a + 2 * (i : Int)) (i : Int)) (a + 2 * l.length, mkSwap a l.length) ?_ ?_
  · simpa using h
  · intro i hi ih
    refine Ev.step (fun k => ?_) ih
    simp only [laws_markSwapS.l0]
    have hs := step_len (mkSwap a l.length) l (by omega) i (by omega)
    generalize hx : (mkSwap a l.length).take i ++ l.drop i = x at hs
    rw [if_pos (by omega), if_pos (by omega), Option.bind_some, Int.toNat_natCast, wS hi (by omega), w64 (n := a + 2 * (i : Int) + 1) (by omega) (by omega), w64 (n := a + 2 * (i : Int) + 1 + 1) (by omega) (by omega)]
    have hg : rd_T50 (x.set i ⟨a + 2 * (i : Int), (rd_T50 x (i : Int)).f1⟩) (i : Int) = ⟨a + 2 * (i : Int), (rd_T50 x (i : Int)).f1⟩ := by
      rw [rdSwap (by rw [List.length_set]; omega), List.getElem_set_self]
    rw [hg, List.set_set, ← hx]
    have e := set_step (mkSwap a l.length) l (by omega) i (by omega)
    rw [mkSwap_at] at e
    rw [show a + 2 * (i : Int) + 1 + 1 = a + 2 * ((i + 1 : Nat) : Int) by omega]
    rw [← e]
  · refine ev_const (fun k => ?_)
    simp only [laws_markSwapS.l0]
    rw [if_neg (by rw [step_len _ _ (by omega) _ (by omega)]; omega)]
    rw [List.take_of_length_le (by omega), List.drop_eq_nil_of_le (by omega), List.append_nil]

theorem heldIntS_ev (n : Nat) (a : Int) (h0 : 0 ≤ a) (h1 : a + n ≤ 4611686018427387904) : Ev (fun k => laws_heldIntS.f k (mk a n) a) (a + n) := by
  unfold laws_heldIntS.f
  have hml := mk_len a n
  have h := down_ev n (fun k i => laws_heldIntS.l0 k (mk a n) (a + (i : Int)) (i : Int)) (a + n) ?_ ?_
  · simpa using h
  · intro i hi ih
    refine Ev.step (fun k => ?_) ih
    simp only [laws_heldIntS.l0]
    rw [if_pos (by omega), if_pos (by omega), rd_nat (by omega), mk_at, if_pos rfl, wS hi (by omega), w64 (n := a + (i : Int) + 1) (by omega) (by omega), Int.natCast_add, ← Int.add_assoc]
    rfl
  · refine ev_const (fun k => ?_)
    simp only [laws_heldIntS.l0]
    rw [if_neg (by omega)]

theorem heldPivotS_ev (n : Nat) (a : Int) (h0 : 0 ≤ a) (h1 : a + 2 * n ≤ 4611686018427387904) : Ev (fun k => laws_heldPivotS.f k (mkPivot a n) a) (a + 2 * n) := by
  unfold laws_heldPivotS.f
  have hml := mkPivot_len a n
  have h := down_ev n (fun k i => laws_heldPivotS.l0 k (mkPivot a n) (a + 2 * (i : Int)) (i : Int)) (a + 2 * n) ?_ ?_
  · simpa using h
  · intro i hi ih
    refine Ev.step (fun k => ?_) ih
    simp only [laws_heldPivotS.l0]
    rw [if_pos (by omega), if_pos (by omega), rdPivot (by omega), mkPivot_at, if_pos rfl, w64 (n := a + 2 * (i : Int) + 1) (by omega) (by omega), if_pos rfl, wS hi (by omega), w64 (n := a + 2 * (i : Int) + 1 + 1) (by omega) (by omega)]
    rw [show a + 2 * (i : Int) + 1 + 1 = a + 2 * ((i + 1 : Nat) : Int) by omega]
  · refine ev_const (fun k => ?_)
    simp only [laws_heldPivotS.l0]
    rw [if_neg (by omega)]

theorem heldCracker_ev (n m q : Nat) (a : Int) (h0 : 0 ≤ a) (h1 : a + n + m + 2 * q ≤ 4611686018427387904) :
    Ev (fun k => laws_heldCracker.f k (mk a n) (mk (a + n) m) (mkPivot (a + n + m) q) a) (a + n + m + 2 * q) := by
  unfold laws_heldCracker.f
  refine Ev.bind (heldIntS_ev n a h0 (by omega)) (ev_ifn (by omega) ?_)
  refine Ev.bind (heldIntS_ev m _ (by omega) (by omega)) (ev_ifn (by omega) ?_)
  exact Ev.bind (heldPivotS_ev q _ (by omega) (by omega)) (ev_ifn (by omega) (ev_some _))

theorem l1In_eq (x a b : Int) : spec_l1In.f x a b = some (decide (a ≤ x) && decide (x ≤ b)) := by
  unfold spec_l1In.f
  by_cases h : x ≥ a
  · rw [if_pos h]
    have : a ≤ x := h
    simp [this]
  · rw [if_neg h]
    have : ¬ a ≤ x := h
    simp [this]

def swin (n : Int) (s : S50) : Bool := (decide (0 ≤ s.f0) && decide (s.f0 < n)) && (decide (0 ≤ s.f1) && decide (s.f1 < n))
def sw1 (l : List Int) (s : S50) : List Int := (l.set s.f0.toNat (rd l s.f1)).set s.f1.toNat (rd l s.f0)
theorem sw1_len (l : List Int) (s : S50) : (sw1 l s).length = l.length := by simp [sw1]
def runS (n : Int) (V0 R0 : List Int) (P : List S74) : List S50 → List Int → List Int → List Int × List Int × List S74 × Bool
  | [], V, R => (V, R, P, true)
  | s :: L, V, R => if swin n s = true then runS n V0 R0 P L (sw1 V s) (sw1 R s) else (V0, R0, P, false)
def appR (V R : List Int) (P : List S74) (L : List S50) : List Int × List Int × List S74 × Bool :=
  if R.length = V.length then runS (V.length : Int) V R P L V R else (V, R, P, false)
theorem runS_len (n : Int) (V0 R0 : List Int) (P : List S74) (a b : Nat) (ha : V0.length = a) (hb : R0.length = b) : ∀ (L : List S50) (V R : List Int), V.length = a → R.length = b →
    (runS n V0 R0 P L V R).1.length = a ∧ (runS n V0 R0 P L V R).2.1.length = b ∧ (runS n V0 R0 P L V R).2.2.1 = P
  | [], V, R, h1, h2 => ⟨h1, h2, rfl⟩
  | s :: L, V, R, h1, h2 => by
    simp only [runS]
    by_cases hs : swin n s = true
    · rw [if_pos hs]
      exact runS_len n V0 R0 P a b ha hb L (sw1 V s) (sw1 R s) (by rw [sw1_len, h1]) (by rw [sw1_len, h2])
    · rw [if_neg hs]
      exact ⟨ha, hb, rfl⟩
theorem appR_len (V R : List Int) (P : List S74) (L : List S50) : (appR V R P L).1.length = V.length ∧ (appR V R P L).2.1.length = R.length ∧ (appR V R P L).2.2.1 = P := by
  unfold appR
  by_cases h : R.length = V.length
  · rw [if_pos h]
    exact runS_len _ V R P V.length R.length rfl rfl L V R rfl rfl
  · rw [if_neg h]
    exact ⟨rfl, rfl, rfl⟩

theorem copyI {V R : List Int} {P : List S74} (h0 : V.length ≤ 1048576) (h1 : R.length ≤ 1048576) (h2 : P.length ≤ 1048576) : impl_copyCracker.f V R P = some (V, R, P) := by
  unfold impl_copyCracker.f slices_Clone_int_int.f impl_Pivot.f
  rw [if_pos (by omega), if_pos (by omega), if_pos (by omega)]
  rfl
theorem implApp_l0 (L : List S50) (V0 R0 : List Int) (P : List S74) (hL : L.length ≤ 4611686018427387904) (h0 : V0.length ≤ 1048576) (h1 : R0.length ≤ 1048576) (h2 : P.length ≤ 1048576) (n : Nat) :
    ∀ (d i : Nat) (V R : List Int), i + d = L.length → V.length = n → R.length = n → Ev (fun k => impl_ApplySwaps.l0 k (n : Int) L (L.length : Int) (i : Int) V0 R0 P V R P) (runS (n : Int) V0 R0 P (L.drop i) V R) := by
  intro d
  induction d with
  | zero =>
    intro i V R hd hV hR
    rw [List.drop_eq_nil_of_le (by omega)]
    refine ev_const (fun k => ?_)
    simp only [impl_ApplySwaps.l0, runS]
    rw [if_neg (by omega)]
  | succ d ih =>
    intro i V R hd hV hR
    have hi : i < L.length := by omega
    rw [List.drop_eq_getElem_cons hi]
    simp only [runS]
    by_cases hs : swin (n : Int) L[i] = true
    · rw [if_pos hs]
      unfold swin at hs
      simp only [Bool.and_eq_true, decide_eq_true_eq] at hs
      obtain ⟨⟨a0, a1⟩, b0, b1⟩ := hs
      refine Ev.step (fun k => ?_) (ih (i + 1) (sw1 V L[i]) (sw1 R L[i]) (by omega) (by rw [sw1_len, hV]) (by rw [sw1_len, hR]))
      simp only [impl_ApplySwaps.l0]
      rw [if_pos (by omega), if_pos (by omega), if_pos (by omega), rdSwap hi, if_neg (by omega), if_neg (by omega), if_neg (by omega), if_neg (by omega), if_pos b0, if_pos (by omega), if_pos a0, if_pos (by omega), if_pos (by omega), if_pos (by omega), wS hi (by omega)]
      rfl
    · rw [if_neg hs]
      refine ev_const (fun k => ?_)
      simp only [impl_ApplySwaps.l0]
      rw [if_pos (by omega), if_pos (by omega), if_pos (by omega), rdSwap hi, copyI h0 h1 h2]
      by_cases a0 : (L[i]).f0 < 0
      · rw [if_pos a0]; rfl
      rw [if_neg a0]
      by_cases a1 : (L[i]).f0 ≥ (n : Int)
      · rw [if_pos a1]; rfl
      rw [if_neg a1]
      by_cases b0 : (L[i]).f1 < 0
      · rw [if_pos b0]; rfl
      rw [if_neg b0]
      by_cases b1 : (L[i]).f1 ≥ (n : Int)
      · rw [if_pos b1]; rfl
      exact absurd (by unfold swin; simp only [Bool.and_eq_true, decide_eq_true_eq]; omega) hs
theorem implApp_ev (V R : List Int) (P : List S74) (L : List S50) (hL : L.length ≤ 4611686018427387904) (h0 : V.length ≤ 1048576) (h1 : R.length ≤ 1048576) (h2 : P.length ≤ 1048576) :
    Ev (fun k => impl_ApplySwaps.f k V R P L) (appR V R P L) := by
  unfold impl_ApplySwaps.f appR
  refine ev_pure (copyI h0 h1 h2) ?_
  by_cases h : R.length = V.length
  · rw [if_pos h]
    exact ev_ifp (by omega) (implApp_l0 L V R P hL h0 h1 h2 V.length L.length 0 V R (by omega) rfl h)
  · rw [if_neg h]
    exact ev_ifn (by omega) (ev_some _)

theorem rev_l0 (L : List S50) (hL : L.length ≤ 4611686018427387904) : ∀ (d i : Nat) (x : List S50), L.length ≤ d + 2 * i → x.length = L.length → i ≤ L.length →
    (∀ p, p < L.length → x[p]? = if p < i ∨ L.length ≤ p + i then L[L.length - 1 - p]? else L[p]?) → Ev (fun k => impl_Swap_42.l0 k x (i : Int) ((L.length : Int) - 1 - (i : Int))) L.reverse := by
  intro d
  induction d with
  | zero =>
    intro i x hd hx hi hc
    refine ev_const (fun k => ?_)
    simp only [impl_Swap_42.l0]
    rw [if_neg (by omega)]
    congr 1
    refine List.ext_getElem? (fun p => ?_)
    by_cases hp : p < L.length
    · rw [hc p hp, List.getElem?_reverse hp, if_pos (by omega)]
    · rw [List.getElem?_eq_none (by omega), List.getElem?_eq_none (by simp; omega)]
  | succ d ih =>
    intro i x hd hx hi hc
    by_cases hlt : 2 * i + 1 < L.length
    · have hj : L.length - 1 - i < L.length := by omega
      have hcast : (L.length : Int) - 1 - (i : Int) = ((L.length - 1 - i : Nat) : Int) := by omega
      have ri := rdSwap (l := x) (i := i) (by omega)
      have rj := rdSwap (l := x) (i := L.length - 1 - i) (by omega)
      refine Ev.step (fun k => ?_) (ih (i + 1) ((x.set i x[L.length - 1 - i]).set (L.length - 1 - i) x[i]) (by omega) (by simp [hx]) (by omega) ?_)
      · simp only [impl_Swap_42.l0]
        rw [hcast, if_pos (by omega), if_pos (by omega), if_pos (by omega), if_pos (by omega), if_pos (by omega), ri, rj, wS (n := L.length) (by omega) (by omega), w64 (n := ((L.length - 1 - i : Nat) : Int) - 1) (by omega) (by omega), Int.toNat_natCast, Int.toNat_natCast]
        rw [show ((L.length - 1 - i : Nat) : Int) - 1 = (L.length : Int) - 1 - ((i + 1 : Nat) : Int) by omega]
      · intro p hp
        have hci := hc i (by omega)
        have hcj := hc (L.length - 1 - i) hj
        rw [if_neg (by omega), List.getElem?_eq_getElem (by omega)] at hci hcj
        by_cases e1 : p = L.length - 1 - i
        · subst e1
          rw [List.getElem?_set_self (by simp; omega), hci, if_pos (by omega), show L.length - 1 - (L.length - 1 - i) = i by omega]
        · rw [List.getElem?_set_ne (by omega)]
          by_cases e2 : p = i
          · subst e2
            rw [List.getElem?_set_self (by omega), hcj, if_pos (by omega)]
          · rw [List.getElem?_set_ne (by omega), hc p hp]
            by_cases e3 : p < i ∨ L.length ≤ p + i
            · rw [if_pos e3, if_pos (by omega)]
            · rw [if_neg e3, if_neg (by omega)]
    · refine ev_const (fun k => ?_)
      simp only [impl_Swap_42.l0]
      rw [if_neg (by omega)]
      congr 1
      refine List.ext_getElem? (fun p => ?_)
      by_cases hp : p < L.length
      · rw [hc p hp, List.getElem?_reverse hp]
        by_cases e3 : p < i ∨ L.length ≤ p + i
        · rw [if_pos e3]
        · rw [if_neg e3, show L.length - 1 - p = p by omega]
      · rw [List.getElem?_eq_none (by omega), List.getElem?_eq_none (by simp; omega)]
theorem rev_ev (L : List S50) (hL : L.length ≤ 4611686018427387904) : Ev (fun k => impl_Swap_42.f k L) L.reverse := by
  unfold impl_Swap_42.f
  have h := rev_l0 L hL L.length 0 L (by omega) rfl (by omega) (fun p hp => by rw [if_neg (by omega)])
  rw [w64 (n := (L.length : Int) - 1) (by omega) (by omega)]
  rw [show (L.length : Int) - 1 = (L.length : Int) - 1 - ((0 : Nat) : Int) by omega]
  exact h

theorem implUndo_ev (V R : List Int) (P : List S74) (L : List S50) (hL : L.length ≤ 1048576) (h0 : V.length ≤ 1048576) (h1 : R.length ≤ 1048576) (h2 : P.length ≤ 1048576) :
    Ev (fun k => impl_UndoSwaps.f k V R P L) (appR V R P L.reverse) := by
  unfold impl_UndoSwaps.f
  refine ev_pure (by unfold impl_Swap_41.f; rw [if_pos (by omega)]) ?_
  refine Ev.bind (rev_ev L (by omega)) ?_
  exact Ev.bind (implApp_ev V R P L.reverse (by simp; omega) h0 h1 h2) (ev_some _)

theorem copyS {V R : List Int} {P : List S74} (h0 : V.length ≤ 1048576) (h1 : R.length ≤ 1048576) (h2 : P.length ≤ 1048576) : spec_l4Copy.f V R P = some (V, R, P) := by
  unfold spec_l4Copy.f
  simp only [Option.bind_some, List.nil_append, List.length_nil, Nat.zero_add]
  rw [if_pos (by omega), if_pos (by omega), if_pos (by omega)]
theorem l5Swap_in {l : List Int} {s : S50} (n : Nat) (hl : l.length = n) (a0 : 0 ≤ s.f0) (a1 : s.f0 < (n : Int)) (b0 : 0 ≤ s.f1) (b1 : s.f1 < (n : Int)) : spec_l5Swap.f l s.f0 s.f1 = some (sw1 l s) := by
  unfold spec_l5Swap.f
  rw [if_pos a0, if_pos (by omega), if_pos b0, if_pos (by omega)]
  rfl
theorem specApp_l0 (L : List S50) (V0 R0 : List Int) (P : List S74) (hL : L.length ≤ 4611686018427387904) (h0 : V0.length ≤ 1048576) (h1 : R0.length ≤ 1048576) (h2 : P.length ≤ 1048576) (n : Nat) (hn : n ≤ 1048576) :
    ∀ (d i : Nat) (V R : List Int), i + d = L.length → V.length = n → R.length = n → Ev (fun k => spec_ApplySwaps.l0 k L (i : Int) V0 R0 P V R P) (runS (n : Int) V0 R0 P (L.drop i) V R) := by
  intro d
  induction d with
  | zero =>
    intro i V R hd hV hR
    rw [List.drop_eq_nil_of_le (by omega)]
    refine ev_const (fun k => ?_)
    simp only [spec_ApplySwaps.l0, runS]
    rw [if_neg (by omega)]
  | succ d ih =>
    intro i V R hd hV hR
    have hi : i < L.length := by omega
    rw [List.drop_eq_getElem_cons hi]
    simp only [runS]
    have hw : wrap64 ((V.length : Int) - 1) = (n : Int) - 1 := by rw [hV, w64 (n := (n : Int) - 1) (by omega) (by omega)]
    by_cases hs : swin (n : Int) L[i] = true
    · rw [if_pos hs]
      unfold swin at hs
      simp only [Bool.and_eq_true, decide_eq_true_eq] at hs
      obtain ⟨⟨a0, a1⟩, b0, b1⟩ := hs
      refine Ev.step (f := fun k => spec_ApplySwaps.j1 k L (i : Int) (L[i]).f0 (L[i]).f1 false V0 R0 P V R P) (fun k => ?_) (Ev.step (fun k => ?_) (ih (i + 1) (sw1 V L[i]) (sw1 R L[i]) (by omega) (by rw [sw1_len, hV]) (by rw [sw1_len, hR])))
      · simp only [spec_ApplySwaps.l0]
        rw [if_pos (by omega), if_pos (by omega), rdSwap hi, hw, l1In_eq, l1In_eq, decide_eq_true a0, decide_eq_true b0, decide_eq_true (show (L[i]).f0 ≤ (n : Int) - 1 by omega), decide_eq_true (show (L[i]).f1 ≤ (n : Int) - 1 by omega)]
        rfl
      · simp only [spec_ApplySwaps.j1]
        rw [if_neg (by simp), l5Swap_in n hV a0 a1 b0 b1, l5Swap_in n hR a0 a1 b0 b1, wS hi (by omega)]
        rfl
    · rw [if_neg hs]
      refine Ev.step (f := fun k => spec_ApplySwaps.j1 k L (i : Int) (L[i]).f0 (L[i]).f1 true V0 R0 P V R P) (fun k => ?_) (ev_const (fun k => ?_))
      · simp only [spec_ApplySwaps.l0]
        rw [if_pos (by omega), if_pos (by omega), rdSwap hi, hw, l1In_eq, l1In_eq]
        simp only [Option.bind_some]
        cases ha : (decide (0 ≤ (L[i]).f0) && decide ((L[i]).f0 ≤ (n : Int) - 1)) with
        | false => rw [if_neg (by simp)]
        | true =>
          rw [if_pos rfl]
          cases hb : (decide (0 ≤ (L[i]).f1) && decide ((L[i]).f1 ≤ (n : Int) - 1)) with
          | false => rfl
          | true =>
            simp only [Bool.and_eq_true, decide_eq_true_eq] at ha hb
            exact absurd (by unfold swin; simp only [Bool.and_eq_true, decide_eq_true_eq]; omega) hs
      · simp only [spec_ApplySwaps.j1]
        rw [if_pos trivial, copyS h0 h1 h2]
        rfl
theorem specApp_ev (V R : List Int) (P : List S74) (L : List S50) (hL : L.length ≤ 4611686018427387904) (h0 : V.length ≤ 1048576) (h1 : R.length ≤ 1048576) (h2 : P.length ≤ 1048576) :
    Ev (fun k => spec_ApplySwaps.f k V R P L) (appR V R P L) := by
  unfold spec_ApplySwaps.f appR
  refine ev_pure (copyS h0 h1 h2) ?_
  by_cases h : R.length = V.length
  · rw [if_pos h]
    exact ev_ifp (by show (R.length : Int) = (V.length : Int); omega) (specApp_l0 L V R P hL h0 h1 h2 V.length h0 L.length 0 V R (by omega) rfl h)
  · rw [if_neg h]
    exact ev_ifn (by show ¬ (R.length : Int) = (V.length : Int); omega) (ev_some _)

theorem specUndo_ev (V R : List Int) (P : List S74) (L : List S50) (hL : L.length ≤ 1048576) (h0 : V.length ≤ 1048576) (h1 : R.length ≤ 1048576) (h2 : P.length ≤ 1048576) :
    Ev (fun k => spec_UndoSwaps.f k V R P L) (appR V R P L.reverse) := by
  unfold spec_UndoSwaps.f
  have key : ∀ j : Nat, j ≤ L.length → Ev (fun k => spec_UndoSwaps.l0 k L (L.drop j).reverse ((j : Int) - 1) V R P) (appR V R P L.reverse) := by
    intro j
    induction j with
    | zero =>
      intro _
      apply Ev.step
      · intro k
        simp only [spec_UndoSwaps.l0]
        rw [if_neg (by omega)]
      · rw [List.drop_zero]
        exact Ev.bind (specApp_ev V R P L.reverse (by simp; omega) h0 h1 h2) (ev_some _)
    | succ j ih =>
      intro hj
      refine Ev.step (fun k => ?_) (ih (by omega))
      simp only [spec_UndoSwaps.l0]
      rw [show ((j + 1 : Nat) : Int) - 1 = (j : Int) by omega, if_pos (by omega), if_pos (by omega), if_pos (by omega), if_pos (by simp; omega), rdSwap (l := L) (i := j) (by omega), w64 (n := (j : Int) - 1) (by omega) (by omega), List.drop_eq_getElem_cons (show j < L.length by omega), List.reverse_cons]
  have h := key L.length (Nat.le_refl _)
  rw [List.drop_length, List.reverse_nil] at h
  rw [w64 (n := (L.length : Int) - 1) (by omega) (by omega)]
  exact h


end Go.Proofs.Ytlikcmonejefoaa.Pure.FnExactUndoSwaps
namespace Go.Proofs.Ytlikcmonejefoaa.Pure
open Go.RowKit Go.Proofs.Ytlikcmonejefoaa.PFnExactUndoSwaps Go.Proofs.YtlikcmonejefoaaW.PrintWords Go.Proofs.YtlikcmonejefoaaW.PrintLast Go.Proofs.YtlikcmonejefoaaW.PrintMore Go.Proofs.Ytlikcmonejefoaa.B Go.Proofs.Ytlikcmonejefoaa.Pure.FnExactUndoSwaps
theorem FnExactUndoSwaps : ∀ (l0_0 : List Int) (l0_1 : List Int) (l0_2 : List S76) (l1 : List S59), (l0_0.length ≤ maxLen ∧ ∀ z ∈ l0_0, (Lit.int .i64 z).wf = true) → (l0_1.length ≤ maxLen ∧ ∀ z ∈ l0_1, (Lit.int .i64 z).wf = true) → (l0_2.length ≤ maxLen ∧ ∀ z ∈ l0_2, ((Lit.int .i64 z.f0).wf = true ∧ (Lit.int .i64 z.f1).wf = true)) → (l1.length ≤ maxLen ∧ ∀ z ∈ l1, ((Lit.int .i64 z.f0).wf = true ∧ (Lit.int .i64 z.f1).wf = true)) → ∃ k, laws_FnExactUndoSwaps.f k l0_0 l0_1 l0_2 l1 = some true := by
  intro v r p l ⟨hv, _⟩ ⟨hr, _⟩ ⟨hp, _⟩ ⟨hl, _⟩
  refine Ev.rounds (g := fun k => laws_FnExactUndoSwaps.f k v r p l) ?_
  unfold laws_FnExactUndoSwaps.f
  obtain ⟨t, ht, hc⟩ := szCracker_at v r p 1048576 (by omega) hv hr hp
  refine ev_pure ht ?_
  rcases hc with hc | ⟨h0, hta, h1, h2, h3⟩
  · exact ev_ifp hc (ev_some _)
  refine ev_ifn (by omega) ?_
  refine ev_pure (szSwapS_at l t ⟨h0, hta⟩ hl) ?_
  by_cases hlt : (l.length : Int) ≤ t
  · rw [if_pos hlt]
    refine ev_ifn (by omega) ?_
    have hm : (p.map cvPivot).length ≤ 1048576 := by simpa using h3
    have hs : (l.map cvSwap).length ≤ 1048576 := by simp; omega
    have e1 := specUndo_ev v r (p.map cvPivot) (l.map cvSwap) (by omega) h1 h2 hm
    have e2 := implUndo_ev v r (p.map cvPivot) (l.map cvSwap) (by omega) h1 h2 hm
    obtain ⟨la, lb, lc⟩ := appR_len v r (p.map cvPivot) (l.map cvSwap).reverse
    generalize appR v r (p.map cvPivot) (l.map cvSwap).reverse = x at e1 e2 la lb lc
    obtain ⟨a, b, c, q⟩ := x
    simp only at la lb lc
    subst lc
    refine Ev.bind (toCracker_ev v r p h1 h2 h3) ?_
    refine Ev.bind (toSwapS_ev l (by omega)) ?_
    refine Ev.bind e1 ?_
    refine Ev.bind (toCracker_ev v r p h1 h2 h3) ?_
    refine Ev.bind (toSwapS_ev l (by omega)) ?_
    refine Ev.bind e2 ?_
    refine Ev.bind (eqCracker_ev a b (p.map cvPivot) (by omega) (by omega) (by omega)) ?_
    refine ev_ifp rfl ?_
    apply Ev.step
    · intro k; simp only [laws_FnExactUndoSwaps.j0]; rfl
    refine ev_ifn (by simp) ?_
    refine Ev.bind (toCracker_ev v r p h1 h2 h3) ?_
    refine Ev.bind (eqCracker_ev v r (p.map cvPivot) (by omega) (by omega) (by omega)) ?_
    refine ev_ifp rfl ?_
    refine Ev.bind (toSwapS_ev l (by omega)) ?_
    refine Ev.bind (eqSwapS_ev (l.map cvSwap) (by omega)) ?_
    refine ev_ifp rfl ?_
    refine Ev.bind (markCracker_ev v r (p.map cvPivot) 1 (by omega) (by omega)) ?_
    refine Ev.bind (markSwapS_ev (l.map cvSwap) _ (by show 0 ≤ 1 + (v.length : Int) + r.length + 2 * (p.map cvPivot).length; omega) (by show 1 + (v.length : Int) + r.length + 2 * (p.map cvPivot).length + 2 * (l.map cvSwap).length ≤ _; omega)) ?_
    refine ev_ifn (by show ¬ (1 + (v.length : Int) + r.length + 2 * (p.map cvPivot).length + 2 * (l.map cvSwap).length < 0); omega) ?_
    refine Ev.bind (eqCracker_ev a b (p.map cvPivot) (by omega) (by omega) (by omega)) ?_
    refine ev_ifp rfl ?_
    apply Ev.step
    · intro k; simp only [laws_FnExactUndoSwaps.j1]; rfl
    refine ev_ifn (by simp) ?_
    refine Ev.bind (markCracker_ev a b (p.map cvPivot) 1 (by omega) (by omega)) ?_
    refine Ev.bind (heldCracker_ev a.length b.length (p.map cvPivot).length 1 (by omega) (by omega)) ?_
    refine ev_ifn (by omega) (ev_ifp rfl ?_)
    refine Ev.bind (toCracker_ev v r p h1 h2 h3) ?_
    refine Ev.bind (toSwapS_ev l (by omega)) ?_
    refine Ev.bind e2 ?_
    refine Ev.bind (eqCracker_ev a b (p.map cvPivot) (by omega) (by omega) (by omega)) ?_
    refine ev_ifp rfl ?_
    apply Ev.step
    · intro k; simp only [laws_FnExactUndoSwaps.j2]; rfl
    refine ev_ifn (by simp) ?_
    refine Ev.bind (heldCracker_ev a.length b.length (p.map cvPivot).length 1 (by omega) (by omega)) ?_
    exact ev_ifn (by omega) (ev_ifp rfl (ev_some _))
  · rw [if_neg hlt]
    exact ev_ifp (by omega) (ev_some _)

end Go.Proofs.Ytlikcmonejefoaa.Pure
