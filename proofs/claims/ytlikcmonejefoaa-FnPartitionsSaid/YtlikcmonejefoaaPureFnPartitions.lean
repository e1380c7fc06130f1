/- The law of partitions returns true for every text of draws: swaps do not overlap, leave the smaller elements in front and are undone in reverse order. No condition. -/
import Derived.Test.YtlikcmonejefoaaPFnPartitionsx0
import Derived.Test.YtlikcmonejefoaaPFnPartitionsx1
import Derived.Test.YtlikcmonejefoaaPFnPartitionsx2
import Derived.Test.YtlikcmonejefoaaPFnPartitionsx3
import Derived.Test.YtlikcmonejefoaaPFnPartitionsx4
import Derived.Test.YtlikcmonejefoaaPFnPartitionsx5
import Derived.Test.YtlikcmonejefoaaPFnPartitionsx6
import Derived.Test.YtlikcmonejefoaaPFnPartitionsx7
import Derived.Test.YtlikcmonejefoaaPFnPartitionsx8
import Derived.Test.YtlikcmonejefoaaPFnPartitionsx9
import Derived.Test.YtlikcmonejefoaaB
set_option linter.unusedVariables false
set_option linter.unusedSimpArgs false
namespace Go.Proofs.Ytlikcmonejefoaa.Pure.FnPartitions
open Go.RowKit Go.Proofs.Ytlikcmonejefoaa.PFnPartitions Go.Proofs.YtlikcmonejefoaaW.PrintWords Go.Proofs.YtlikcmonejefoaaW.PrintLast Go.Proofs.YtlikcmonejefoaaW.PrintMore Go.Proofs.Ytlikcmonejefoaa.B

theorem l1In_eq (x a b : Int) : spec_l1In.f x a b = some (decide (a ≤ x) && decide (x ≤ b)) := by
  unfold spec_l1In.f
  by_cases h : x ≥ a
  · rw [if_pos h]
    have : a ≤ x := h
    simp [this]
  · rw [if_neg h]
    have : ¬ a ≤ x := h
    simp [this]

theorem rdSwap {l : List S50} {i : Nat} (h : i < l.length) : rd_T50 l (i : Int) = l[i] := by
  unfold rd_T50; simp [List.getD_eq_getElem?_getD, List.getElem?_eq_getElem h]

def swin (n : Int) (s : S50) : Bool := (decide (0 ≤ s.f0) && decide (s.f0 < n)) && (decide (0 ≤ s.f1) && decide (s.f1 < n))
def sw1 (l : List Int) (s : S50) : List Int := (l.set s.f0.toNat (rd l s.f1)).set s.f1.toNat (rd l s.f0)
theorem sw1_len (l : List Int) (s : S50) : (sw1 l s).length = l.length := by simp [sw1]
def runS (n : Int) (V0 R0 : List Int) (P : List S74) : List S50 → List Int → List Int → List Int × List Int × List S74 × Bool
  | [], V, R => (V, R, P, true)
  | s :: L, V, R => if swin n s = true then runS n V0 R0 P L (sw1 V s) (sw1 R s) else (V0, R0, P, false)
def appR (V R : List Int) (P : List S74) (L : List S50) : List Int × List Int × List S74 × Bool :=
  if R.length = V.length then runS (V.length : Int) V R P L V R else (V, R, P, false)
theorem runS_len (n : Int) (V0 R0 : List Int) (P : List S74) (a b : Nat) (ha : V0.length = a) (hb : R0.length = b) : ∀ (L : List S50) (V R : List Int), V.length = a → R.length = b →
    (runS n V0 R0 P L V R).1.length = a ∧ (runS n V0 R0 P L V R).2.1.length = b ∧ (runS n V0 R0 P L V R).2.2.1 = P
  | [], V, R, h1, h2 => ⟨h1, h2, rfl⟩
  | s :: L, V, R, h1, h2 => by
    simp only [runS]
    by_cases hs : swin n s = true
    · rw [if_pos hs]
      exact runS_len n V0 R0 P a b ha hb L (sw1 V s) (sw1 R s) (by rw [sw1_len, h1]) (by rw [sw1_len, h2])
    · rw [if_neg hs]
      exact ⟨ha, hb, rfl⟩
theorem appR_len (V R : List Int) (P : List S74) (L : List S50) : (appR V R P L).1.length = V.length ∧ (appR V R P L).2.1.length = R.length ∧ (appR V R P L).2.2.1 = P := by
  unfold appR
  by_cases h : R.length = V.length
  · rw [if_pos h]
    exact runS_len _ V R P V.length R.length rfl rfl L V R rfl rfl
  · rw [if_neg h]
    exact ⟨rfl, rfl, rfl⟩

theorem sw1_rd (x : List Int) (s : S50) (t : Int) (hi : 0 ≤ s.f0 ∧ s.f0 < (x.length : Int)) (hj : 0 ≤ s.f1 ∧ s.f1 < (x.length : Int)) (ht : 0 ≤ t) : rd (sw1 x s) t = if t = s.f1 then rd x s.f0 else if t = s.f0 then rd x s.f1 else rd x t := by
  unfold sw1 rd
  simp only [List.getD_eq_getElem?_getD]
  by_cases c : t = s.f1
  · rw [if_pos c, c, List.getElem?_set_self (by simp; omega)]; rfl
  · rw [if_neg c, List.getElem?_set_ne (by omega)]
    by_cases d : t = s.f0
    · rw [if_pos d, d, List.getElem?_set_self (by omega)]; rfl
    · rw [if_neg d, List.getElem?_set_ne (by omega)]
theorem ext_rd (x y : List Int) (hl : x.length = y.length) (h : ∀ t : Nat, t < x.length → rd x (t : Int) = rd y (t : Int)) : x = y :=
  List.ext_getElem hl (fun i h1 h2 => by have := h i h1; rwa [rd_nat h1, rd_nat h2] at this)
theorem swin_of {n : Int} {s : S50} (h : swin n s = true) : (0 ≤ s.f0 ∧ s.f0 < n) ∧ (0 ≤ s.f1 ∧ s.f1 < n) := by
  unfold swin at h
  simpa using h
theorem sw1_sw1 (x : List Int) (s : S50) (h : swin (x.length : Int) s = true) : sw1 (sw1 x s) s = x := by
  obtain ⟨hi, hj⟩ := swin_of h
  have hl := sw1_len x s
  refine ext_rd _ _ (by rw [sw1_len, sw1_len]) (fun t ht => ?_)
  rw [sw1_rd _ s t (by rw [hl]; exact hi) (by rw [hl]; exact hj) (by omega), sw1_rd x s _ hi hj hi.1, sw1_rd x s _ hi hj hj.1, sw1_rd x s _ hi hj (by omega)]
  by_cases c : (t : Int) = s.f1
  · rw [if_pos c]
    by_cases d : s.f0 = s.f1
    · rw [if_pos d, c, d]
    · rw [if_neg d, if_pos rfl, c]
  · rw [if_neg c, if_neg c]
    by_cases d : (t : Int) = s.f0
    · rw [if_pos d, if_pos rfl, d]
    · rw [if_neg d, if_neg d]
theorem fold_len : ∀ (L : List S50) (x : List Int), (L.foldl sw1 x).length = x.length
  | [], _ => rfl
  | s :: L, x => by rw [List.foldl_cons, fold_len L, sw1_len]
theorem runS_all (n : Int) (V0 R0 : List Int) (P : List S74) : ∀ (L : List S50) (V R : List Int), (∀ s ∈ L, swin n s = true) → runS n V0 R0 P L V R = (L.foldl sw1 V, L.foldl sw1 R, P, true)
  | [], _, _, _ => rfl
  | s :: L, V, R, h => by
    simp only [runS]
    rw [if_pos (h s (by simp)), runS_all n V0 R0 P L _ _ (fun z hz => h z (by simp [hz]))]
    rfl
theorem undo_fold : ∀ (L : List S50) (x : List Int), (∀ s ∈ L, swin (x.length : Int) s = true) → L.reverse.foldl sw1 (L.foldl sw1 x) = x
  | [], _, _ => rfl
  | s :: L, x, h => by
    rw [List.reverse_cons, List.foldl_append, show List.foldl sw1 x (s :: L) = List.foldl sw1 (sw1 x s) L from rfl, undo_fold L (sw1 x s) (fun z hz => by rw [sw1_len]; exact h z (by simp [hz]))]
    exact sw1_sw1 x s (h s (by simp))

structure PI (l : List Int) (p a b : Int) (out : List S50) (i j : Int) (x : List Int) : Prop where
  fold : out.foldl sw1 l = x
  ij : a ≤ i ∧ i ≤ j + 1 ∧ j + 1 ≤ b
  len : 2 * (out.length : Int) + (j + 1 - i) ≤ b - a
  ins : ∀ s ∈ out, a ≤ s.f0 ∧ s.f0 < i ∧ s.f0 < s.f1 ∧ j < s.f1 ∧ s.f1 < b
  seq : ∀ t, ∀ h : t + 1 < out.length, (out[t]).f0 < (out[t + 1]).f0 ∧ (out[t + 1]).f1 < (out[t]).f1
  xl : x.length = l.length
  lo : ∀ t : Int, a ≤ t → t < i → rd x t < p
  up : ∀ t : Int, j < t → t < b → p ≤ rd x t
  mid : ∀ t : Int, i ≤ t → t ≤ j → rd x t = rd l t
theorem PI.left {l : List Int} {p a b : Int} {out : List S50} {i j : Int} {x : List Int} (h : PI l p a b out i j x) (hij : i ≤ j) (c : rd l i < p) : PI l p a b out (i + 1) j x where
  fold := h.fold
  ij := by have := h.ij; omega
  len := by have := h.len; omega
  ins := fun s hs => by have := h.ins s hs; omega
  seq := h.seq
  xl := h.xl
  lo := fun t h1 h2 => by
    by_cases e : t = i
    · rw [e, h.mid i (Int.le_refl _) hij]; exact c
    · exact h.lo t h1 (by omega)
  up := h.up
  mid := fun t h1 h2 => h.mid t (by omega) h2
theorem PI.right {l : List Int} {p a b : Int} {out : List S50} {i j : Int} {x : List Int} (h : PI l p a b out i j x) (hij : i ≤ j) (c : p ≤ rd l j) : PI l p a b out i (j - 1) x where
  fold := h.fold
  ij := by have := h.ij; omega
  len := by have := h.len; omega
  ins := fun s hs => by have := h.ins s hs; omega
  seq := h.seq
  xl := h.xl
  lo := h.lo
  up := fun t h1 h2 => by
    by_cases e : t = j
    · rw [e, h.mid j hij (Int.le_refl _)]; exact c
    · exact h.up t (by omega) h2
  mid := fun t h1 h2 => h.mid t h1 (by omega)
theorem PI.both {l : List Int} {p a b : Int} {out : List S50} {i j : Int} {x : List Int} (h : PI l p a b out i j x) (ha : 0 ≤ a) (hb : b ≤ (l.length : Int)) (hij : i < j) (c : p ≤ rd l i) (d : rd l j < p) : PI l p a b (out ++ [⟨i, j⟩]) (i + 1) (j - 1) (sw1 x ⟨i, j⟩) := by
  have hi := h.ij
  have hx := h.xl
  have hsw : ∀ t : Int, 0 ≤ t → rd (sw1 x ⟨i, j⟩) t = if t = j then rd x i else if t = i then rd x j else rd x t := fun t ht => sw1_rd x ⟨i, j⟩ t (by show 0 ≤ i ∧ i < _; omega) (by show 0 ≤ j ∧ j < _; omega) ht
  exact {
    fold := by rw [List.foldl_append, h.fold]; rfl
    ij := by omega
    len := by have := h.len; simp; omega
    ins := fun s hs => by
      rcases List.mem_append.1 hs with hs | hs
      · have := h.ins s hs; omega
      · obtain rfl := List.mem_singleton.1 hs
        show a ≤ i ∧ i < i + 1 ∧ i < j ∧ j - 1 < j ∧ j < b
        omega
    seq := fun t ht => by
      rw [List.length_append, List.length_singleton] at ht
      by_cases e : t + 1 < out.length
      · rw [List.getElem_append_left (by omega), List.getElem_append_left e]
        exact h.seq t e
      · have ho := h.ins (out[t]'(by omega)) (List.getElem_mem _)
        rw [List.getElem_append_left (by omega), List.getElem_append_right (by omega)]
        simp only [show t + 1 - out.length = 0 by omega, List.getElem_cons_zero]
        show (out[t]).f0 < i ∧ j < (out[t]).f1
        omega
    xl := by rw [sw1_len]; exact hx
    lo := fun t h1 h2 => by
      rw [hsw t (by omega), if_neg (by omega)]
      by_cases e : t = i
      · rw [if_pos e, h.mid j (by omega) (Int.le_refl _)]; exact d
      · rw [if_neg e]; exact h.lo t h1 (by omega)
    up := fun t h1 h2 => by
      rw [hsw t (by omega)]
      by_cases e : t = j
      · rw [if_pos e, h.mid i (Int.le_refl _) (by omega)]; exact c
      · rw [if_neg e, if_neg (by omega)]; exact h.up t (by omega) h2
    mid := fun t h1 h2 => by
      rw [hsw t (by omega), if_neg (by omega), if_neg (by omega)]
      exact h.mid t (by omega) (by omega) }
theorem part_inv (l : List Int) (hl : l.length ≤ 1048576) (p a b : Int) (ha : 0 ≤ a) (hb : b ≤ (l.length : Int)) : ∀ (d : Nat) (i j : Int) (out : List S50) (x : List Int), PI l p a b out i j x → j + 1 - i ≤ d →
    ∃ sw at_ y, Ev (fun k => spec_Partition.l0 k l p out i j) (sw, at_) ∧ Ev (fun k => impl_Partition.l0 k p x out i j) (sw, at_) ∧ PI l p a b sw at_ (at_ - 1) y := by
  intro d
  induction d with
  | zero =>
    intro i j out x h hd
    have hij := h.ij
    have e : j = i - 1 := by omega
    refine ⟨out, i, x, ev_const (fun k => ?_), ev_const (fun k => ?_), e ▸ h⟩
    · simp only [spec_Partition.l0]; rw [if_neg (by omega)]
    · simp only [impl_Partition.l0]; rw [if_neg (by omega)]
  | succ d ih =>
    intro i j out x h hd
    have hb3 := h.ij
    have hlen := h.len
    have hx := h.xl
    by_cases hij : i ≤ j
    · have e1 : wrap64 (i + 1) = i + 1 := w64 (by omega) (by omega)
      have e2 : wrap64 (j - 1) = j - 1 := w64 (by omega) (by omega)
      have hi : rd x i = rd l i := h.mid i (by omega) hij
      have hjj : rd x j = rd l j := h.mid j hij (by omega)
      by_cases c1 : rd l i < p
      · obtain ⟨sw, at_, y, u, v, hs⟩ := ih (i + 1) j out x (h.left hij c1) (by omega)
        have hm : impl_move.f x i j p = some (i + 1, j, false) := by
          unfold impl_move.f
          rw [if_pos (by omega), if_pos (by omega), hi, if_pos c1, e1]
        refine ⟨sw, at_, y, Ev.step (fun k => ?_) u, Ev.step (fun k => ?_) v, hs⟩
        · simp only [spec_Partition.l0]; rw [if_pos hij, if_pos (by omega), if_pos (by omega), if_pos c1, e1]
        · simp only [impl_Partition.l0]; rw [if_pos hij, hm, Option.bind_some, if_neg (by simp)]
      · by_cases c2 : rd l j ≥ p
        · obtain ⟨sw, at_, y, u, v, hs⟩ := ih i (j - 1) out x (h.right hij c2) (by omega)
          have hm : impl_move.f x i j p = some (i, j - 1, false) := by
            unfold impl_move.f
            rw [if_pos (by omega), if_pos (by omega), hi, if_neg c1, if_pos (by omega), if_pos (by omega), hjj, if_pos c2, e2]
          refine ⟨sw, at_, y, Ev.step (fun k => ?_) u, Ev.step (fun k => ?_) v, hs⟩
          · simp only [spec_Partition.l0]; rw [if_pos hij, if_pos (by omega), if_pos (by omega), if_neg c1, if_pos (by omega), if_pos (by omega), if_pos c2, e2]
          · simp only [impl_Partition.l0]; rw [if_pos hij, hm, Option.bind_some, if_neg (by simp)]
        · have hij2 : i < j := by
            rcases Int.lt_or_eq_of_le hij with h | h
            · exact h
            · subst h; omega
          obtain ⟨sw, at_, y, u, v, hs⟩ := ih (i + 1) (j - 1) (out ++ [⟨i, j⟩]) (sw1 x ⟨i, j⟩) (h.both ha hb hij2 (by omega) (by omega)) (by omega)
          have hm : impl_move.f x i j p = some (i + 1, j - 1, true) := by
            unfold impl_move.f
            rw [if_pos (by omega), if_pos (by omega), hi, if_neg c1, if_pos (by omega), if_pos (by omega), hjj, if_neg c2, e1, e2]
          refine ⟨sw, at_, y, Ev.step (fun k => ?_) u, Ev.step (fun k => ?_) v, hs⟩
          · simp only [spec_Partition.l0]; rw [if_pos hij, if_pos (by omega), if_pos (by omega), if_neg c1, if_pos (by omega), if_pos (by omega), if_neg c2, if_pos (by omega), e1, e2]
          · simp only [impl_Partition.l0]; rw [if_pos hij, hm, Option.bind_some, if_pos rfl, if_pos (by omega), if_pos (by omega), if_pos (by omega), if_pos (by omega), if_pos (by omega)]
            rfl
    · have e : j = i - 1 := by omega
      refine ⟨out, i, x, ev_const (fun k => ?_), ev_const (fun k => ?_), e ▸ h⟩
      · simp only [spec_Partition.l0]; rw [if_neg hij]
      · simp only [impl_Partition.l0]; rw [if_neg hij]
theorem part_out (l : List Int) (hl : l.length ≤ 1048576) (a b p : Int) (h : a < 0 ∨ a > b ∨ b > (l.length : Int)) : Ev (fun k => spec_Partition.f k l a b p) ([], 0) ∧ Ev (fun k => impl_Partition.f k l a b p) ([], 0) := by
  unfold spec_Partition.f impl_Partition.f
  have hf1 : Ev (fun k => spec_Partition.j0 k l a b p [] true) ([], 0) := ev_const (fun k => by simp [spec_Partition.j0])
  have hf2 : Ev (fun k => impl_Partition.j0 k l a b p true) ([], 0) := ev_const (fun k => by simp [impl_Partition.j0])
  by_cases h1 : a < 0
  · refine ⟨ev_pure rfl ?_, ev_ifp h1 hf2⟩
    exact ev_pure (a := false) (by unfold spec_l1In.f; rw [if_neg (by omega)]) (ev_ifn (by simp) hf1)
  by_cases h2 : a > b
  · refine ⟨ev_pure rfl ?_, ev_ifn h1 (ev_ifp h2 hf2)⟩
    exact ev_pure (a := false) (by unfold spec_l1In.f; rw [if_pos (by omega), decide_eq_false (by omega)]) (ev_ifn (by simp) hf1)
  have hin : spec_l1In.f a 0 b = some true := by
    unfold spec_l1In.f
    rw [if_pos (by omega), decide_eq_true (by omega)]
  have h3 : b > (l.length : Int) := by omega
  refine ⟨ev_pure rfl (ev_pure hin (ev_ifp rfl ?_)), ev_ifn h1 (ev_ifn h2 ?_)⟩
  · rw [decide_eq_true h3]; exact hf1
  · rw [decide_eq_true h3]; exact hf2
theorem part_in (l : List Int) (hl : l.length ≤ 1048576) (a b p : Int) (h1 : 0 ≤ a) (h2 : a ≤ b) (h3 : b ≤ (l.length : Int)) :
    ∃ sw at_ y, Ev (fun k => spec_Partition.f k l a b p) (sw, at_) ∧ Ev (fun k => impl_Partition.f k l a b p) (sw, at_) ∧ PI l p a b sw at_ (at_ - 1) y := by
  unfold spec_Partition.f impl_Partition.f
  have hin : spec_l1In.f a 0 b = some true := by
    unfold spec_l1In.f
    rw [if_pos (by omega), decide_eq_true (by omega)]
  obtain ⟨sw, at_, y, e1, e2, hs⟩ := part_inv l hl p a b h1 h3 (b - a).toNat a (b - 1) [] l ⟨rfl, by omega, by simp, (fun s hs => by cases hs), (fun t ht => absurd ht (by simp)), rfl, (fun t _ _ => by omega), (fun t _ _ => by omega), fun _ _ _ => rfl⟩ (by omega)
  refine ⟨sw, at_, y, ev_pure rfl (ev_pure hin (ev_ifp rfl ?_)), ev_ifn (by omega) (ev_ifn (by omega) ?_), hs⟩
  · rw [decide_eq_false (by omega)]
    refine Ev.step (fun k => ?_) e1
    simp only [spec_Partition.j0]
    rw [if_neg (by simp), w64 (n := b - 1) (by omega) (by omega)]
  · rw [decide_eq_false (by omega)]
    refine Ev.step (fun k => ?_) e2
    simp only [impl_Partition.j0]
    rw [if_neg (by simp), w64 (n := b - 1) (by omega) (by omega)]
    unfold slices_Clone_int_int.f
    rw [if_pos (by omega), Option.bind_some]

def areV (l : List Int) : Bool := decide (l.length ≤ 64) && l.all (fun x => decide (-999 ≤ x) && decide (x ≤ 999))

theorem specAreValues_ev (l : List Int) (hl : l.length ≤ 4611686018427387904) : Ev (fun k => spec_AreValues.f k l) (areV l) := by
  unfold spec_AreValues.f
  refine loop_ev l.length (fun i => ∀ j (h : j < l.length), j < i → (decide (-999 ≤ l[j]) && decide (l[j] ≤ 999)) = true) (fun k i => spec_AreValues.l0 k l (i : Int)) (areV l) (fun j _ h => absurd h (Nat.not_lt_zero _)) ?_ ?_
  · intro i hi hc ih
    cases e : (decide (-999 ≤ l[i]) && decide (l[i] ≤ 999)) with
    | true =>
      refine Ev.step (fun k => ?_) (ih (fun j h hj => ?_))
      · simp only [spec_AreValues.l0]
        rw [if_pos (by omega), if_pos (by omega), rd_nat hi]
        have e2 : spec_l1In.f l[i] (-999) 999 = some true := by
          simp at e
          unfold spec_l1In.f
          rw [if_pos (by omega)]
          simp [e.2]
        rw [e2, Option.bind_some, if_pos rfl, wS hi (by omega)]
      · by_cases hji : j = i
        · subst hji; exact e
        · exact hc j h (by omega)
    | false =>
      refine ev_const (fun k => ?_)
      simp only [spec_AreValues.l0]
      rw [if_pos (by omega), if_pos (by omega), rd_nat hi]
      have e2 : spec_l1In.f l[i] (-999) 999 = some false := by
        unfold spec_l1In.f
        by_cases c : l[i] ≥ -999
        · rw [if_pos c]
          have c2 : -999 ≤ l[i] := c
          simp [c2] at e
          simp; omega
        · rw [if_neg c]
      rw [e2, Option.bind_some, if_neg (by simp)]
      unfold areV
      rw [all_false_at _ l i hi e, Bool.and_false]
  · intro hc
    refine ev_const (fun k => ?_)
    simp only [spec_AreValues.l0]
    rw [if_neg (by omega)]
    unfold areV
    rw [all_take_true _ l (fun i h => hc i h h), Bool.and_true]
    congr 1
    simp
    omega

def newC (l : List Int) : List Int × List Int × List S74 := if areV l = true then (l, mk 0 l.length, []) else ([], [], [])
theorem specNew_ev (l : List Int) (hl : l.length ≤ 1048576) : Ev (fun k => spec_NewCracker.f k l) (newC l) := by
  unfold spec_NewCracker.f newC
  have hs := specAreValues_ev l (by omega)
  cases h : areV l with
  | false =>
    rw [h] at hs
    exact Ev.bind hs (ev_ifn (by simp) (ev_some _))
  | true =>
    rw [h] at hs
    have hm := mk_len 0 l.length
    rw [if_pos rfl]
    refine Ev.bind hs (ev_ifp rfl (ev_pure rfl (ev_ifp (by simp; omega) ?_)))
    rw [List.nil_append]
    have hh := down_ev l.length (fun k i => spec_NewCracker.l0 k l (i : Int) l ((mk 0 l.length).take i)) (l, mk 0 l.length, ([] : List S74)) ?_ ?_
    · simpa using hh
    · intro i hi ih
      refine Ev.step (fun k => ?_) ih
      simp only [spec_NewCracker.l0]
      rw [if_pos (by omega), if_pos (by rw [List.length_take]; omega), wS hi (by omega), take_snoc _ i (by omega), mk_at, Int.zero_add]
    · refine ev_const (fun k => ?_)
      simp only [spec_NewCracker.l0]
      rw [if_neg (by omega), List.take_of_length_le (by omega)]

theorem copyI {V R : List Int} {P : List S74} (h0 : V.length ≤ 1048576) (h1 : R.length ≤ 1048576) (h2 : P.length ≤ 1048576) : impl_copyCracker.f V R P = some (V, R, P) := by
  unfold impl_copyCracker.f slices_Clone_int_int.f impl_Pivot.f
  rw [if_pos (by omega), if_pos (by omega), if_pos (by omega)]
  rfl
theorem implApp_l0 (L : List S50) (V0 R0 : List Int) (P : List S74) (hL : L.length ≤ 4611686018427387904) (h0 : V0.length ≤ 1048576) (h1 : R0.length ≤ 1048576) (h2 : P.length ≤ 1048576) (n : Nat) :
    ∀ (d i : Nat) (V R : List Int), i + d = L.length → V.length = n → R.length = n → Ev (fun k => impl_ApplySwaps.l0 k (n : Int) L (L.length : Int) (i : Int) V0 R0 P V R P) (runS (n : Int) V0 R0 P (L.drop i) V R) := by
  intro d
  induction d with
  | zero =>
    intro i V R hd hV hR
    rw [List.drop_eq_nil_of_le (by omega)]
    refine ev_const (fun k => ?_)
    simp only [impl_ApplySwaps.l0, runS]
    rw [if_neg (by omega)]
  | succ d ih =>
    intro i V R hd hV hR
    have hi : i < L.length := by omega
    rw [List.drop_eq_getElem_cons hi]
    simp only [runS]
    by_cases hs : swin (n : Int) L[i] = true
    · rw [if_pos hs]
      unfold swin at hs
      simp only [Bool.and_eq_true, decide_eq_true_eq] at hs
      obtain ⟨⟨a0, a1⟩, b0, b1⟩ := hs
      refine Ev.step (fun k => ?_) (ih (i + 1) (sw1 V L[i]) (sw1 R L[i]) (by omega) (by rw [sw1_len, hV]) (by rw [sw1_len, hR]))
      simp only [impl_ApplySwaps.l0]
      rw [if_pos (by omega), if_pos (by omega), if_pos (by omega), rdSwap hi, if_neg (by omega), if_neg (by omega), if_neg (by omega), if_neg (by omega), if_pos b0, if_pos (by omega), if_pos a0, if_pos (by omega), if_pos (by omega), if_pos (by omega), wS hi (by omega)]
      rfl
    · rw [if_neg hs]
      refine ev_const (fun k => ?_)
      simp only [impl_ApplySwaps.l0]
      rw [if_pos (by omega), if_pos (by omega), if_pos (by omega), rdSwap hi, copyI h0 h1 h2]
      by_cases a0 : (L[i]).f0 < 0
      · rw [if_pos a0]; rfl
      rw [if_neg a0]
      by_cases a1 : (L[i]).f0 ≥ (n : Int)
      · rw [if_pos a1]; rfl
      rw [if_neg a1]
      by_cases b0 : (L[i]).f1 < 0
      · rw [if_pos b0]; rfl
      rw [if_neg b0]
      by_cases b1 : (L[i]).f1 ≥ (n : Int)
      · rw [if_pos b1]; rfl
      exact absurd (by unfold swin; simp only [Bool.and_eq_true, decide_eq_true_eq]; omega) hs
theorem implApp_ev (V R : List Int) (P : List S74) (L : List S50) (hL : L.length ≤ 4611686018427387904) (h0 : V.length ≤ 1048576) (h1 : R.length ≤ 1048576) (h2 : P.length ≤ 1048576) :
    Ev (fun k => impl_ApplySwaps.f k V R P L) (appR V R P L) := by
  unfold impl_ApplySwaps.f appR
  refine ev_pure (copyI h0 h1 h2) ?_
  by_cases h : R.length = V.length
  · rw [if_pos h]
    exact ev_ifp (by omega) (implApp_l0 L V R P hL h0 h1 h2 V.length L.length 0 V R (by omega) rfl h)
  · rw [if_neg h]
    exact ev_ifn (by omega) (ev_some _)

theorem rev_l0 (L : List S50) (hL : L.length ≤ 4611686018427387904) : ∀ (d i : Nat) (x : List S50), L.length ≤ d + 2 * i → x.length = L.length → i ≤ L.length →
    (∀ p, p < L.length → x[p]? = if p < i ∨ L.length ≤ p + i then L[L.length - 1 - p]? else L[p]?) → Ev (fun k => impl_Swap_42.l0 k x (i : Int) ((L.length : Int) - 1 - (i : Int))) L.reverse := by
  intro d
  induction d with
  | zero =>
    intro i x hd hx hi hc
    refine ev_const (fun k => ?_)
    simp only [impl_Swap_42.l0]
    rw [if_neg (by omega)]
    congr 1
    refine List.ext_getElem? (fun p => ?_)
    by_cases hp : p < L.length
    · rw [hc p hp, List.getElem?_reverse hp, if_pos (by omega)]
    · rw [List.getElem?_eq_none (by omega), List.getElem?_eq_none (by simp; omega)]
  | succ d ih =>
    intro i x hd hx hi hc
    by_cases hlt : 2 * i + 1 < L.length
    · have hj : L.length - 1 - i < L.length := by omega
      have hcast : (L.length : Int) - 1 - (i : Int) = ((L.length - 1 - i : Nat) : Int) := by omega
      have ri := rdSwap (l := x) (i := i) (by omega)
      have rj := rdSwap (l := x) (i := L.length - 1 - i) (by omega)
      refine Ev.step (fun k => ?_) (ih (i + 1) ((x.set i x[L.length - 1 - i]).set (L.length - 1 - i) x[i]) (by omega) (by simp [hx]) (by omega) ?_)
      · simp only [impl_Swap_42.l0]
        rw [hcast, if_pos (by omega), if_pos (by omega), if_pos (by omega), if_pos (by omega), if_pos (by omega), ri, rj, wS (n := L.length) (by omega) (by omega), w64 (n := ((L.length - 1 - i : Nat) : Int) - 1) (by omega) (by omega), Int.toNat_natCast, Int.toNat_natCast]
        rw [show ((L.length - 1 - i : Nat) : Int) - 1 = (L.length : Int) - 1 - ((i + 1 : Nat) : Int) by omega]
      · intro p hp
        have hci := hc i (by omega)
        have hcj := hc (L.length - 1 - i) hj
        rw [if_neg (by omega), List.getElem?_eq_getElem (by omega)] at hci hcj
        by_cases e1 : p = L.length - 1 - i
        · subst e1
          rw [List.getElem?_set_self (by simp; omega), hci, if_pos (by omega), show L.length - 1 - (L.length - 1 - i) = i by omega]
        · rw [List.getElem?_set_ne (by omega)]
          by_cases e2 : p = i
          · subst e2
            rw [List.getElem?_set_self (by omega), hcj, if_pos (by omega)]
          · rw [List.getElem?_set_ne (by omega), hc p hp]
            by_cases e3 : p < i ∨ L.length ≤ p + i
            · rw [if_pos e3, if_pos (by omega)]
            · rw [if_neg e3, if_neg (by omega)]
    · refine ev_const (fun k => ?_)
      simp only [impl_Swap_42.l0]
      rw [if_neg (by omega)]
      congr 1
      refine List.ext_getElem? (fun p => ?_)
      by_cases hp : p < L.length
      · rw [hc p hp, List.getElem?_reverse hp]
        by_cases e3 : p < i ∨ L.length ≤ p + i
        · rw [if_pos e3]
        · rw [if_neg e3, show L.length - 1 - p = p by omega]
      · rw [List.getElem?_eq_none (by omega), List.getElem?_eq_none (by simp; omega)]
theorem rev_ev (L : List S50) (hL : L.length ≤ 4611686018427387904) : Ev (fun k => impl_Swap_42.f k L) L.reverse := by
  unfold impl_Swap_42.f
  have h := rev_l0 L hL L.length 0 L (by omega) rfl (by omega) (fun p hp => by rw [if_neg (by omega)])
  rw [w64 (n := (L.length : Int) - 1) (by omega) (by omega)]
  rw [show (L.length : Int) - 1 = (L.length : Int) - 1 - ((0 : Nat) : Int) by omega]
  exact h

theorem implUndo_ev (V R : List Int) (P : List S74) (L : List S50) (hL : L.length ≤ 1048576) (h0 : V.length ≤ 1048576) (h1 : R.length ≤ 1048576) (h2 : P.length ≤ 1048576) :
    Ev (fun k => impl_UndoSwaps.f k V R P L) (appR V R P L.reverse) := by
  unfold impl_UndoSwaps.f
  refine ev_pure (by unfold impl_Swap_41.f; rw [if_pos (by omega)]) ?_
  refine Ev.bind (rev_ev L (by omega)) ?_
  exact Ev.bind (implApp_ev V R P L.reverse (by simp; omega) h0 h1 h2) (ev_some _)

theorem i64_and255 (n : Int) : Go.bits .and .i64 n 255 = n % 256 := by
  have h255 : (BitVec.ofInt 64 255).toNat = 2 ^ 8 - 1 := by decide
  have key : (BitVec.ofInt 64 n &&& BitVec.ofInt 64 255).toNat = (n % ((2 ^ 64 : Nat) : Int)).toNat % 2 ^ 8 := by
    rw [BitVec.toNat_and, BitVec.toNat_ofInt, h255, Nat.and_two_pow_sub_one_eq_mod]
  show IntKind.i64.wrap ((BitVec.ofInt 64 n &&& BitVec.ofInt 64 255).toNat : Nat) = n % 256
  rw [key, IntKind.wrap_i64]
  omega
theorem byte_ok (b : List Int) (i h : Int) (hi : 0 ≤ i ∧ i ≤ (b.length : Int)) (hb : b.length ≤ 1048576) : ∃ x i' h', spec_l1Byte.f b i h = some (x, i', h') ∧ (0 ≤ x ∧ x < 256) ∧ (0 ≤ i' ∧ i' ≤ (b.length : Int)) := by
  unfold spec_l1Byte.f
  by_cases c : i < (b.length : Int)
  · rw [if_pos c, if_pos hi.1, i64_and255]
    refine ⟨_, _, _, rfl, ⟨Int.emod_nonneg _ (by decide), Int.emod_lt_of_pos _ (by decide)⟩, ?_⟩
    rw [w64 (by omega) (by omega)]; omega
  · rw [if_neg c, i64_and255]
    exact ⟨_, _, _, rfl, ⟨Int.emod_nonneg _ (by decide), Int.emod_lt_of_pos _ (by decide)⟩, hi⟩
theorem below_ok (b : List Int) (i h n : Int) (hi : 0 ≤ i ∧ i ≤ (b.length : Int)) (hb : b.length ≤ 1048576) : ∃ x i' h', spec_l1Below.f b i h n = some (x, i', h') ∧ (0 ≤ x ∧ (0 < n → x < n) ∧ (n ≤ 0 → x = 0)) ∧ (0 ≤ i' ∧ i' ≤ (b.length : Int)) := by
  unfold spec_l1Below.f
  by_cases c0 : n ≤ 0
  · rw [if_pos c0]
    exact ⟨_, _, _, rfl, ⟨by omega, fun h => h, fun _ => rfl⟩, hi⟩
  rw [if_neg c0]
  by_cases c1 : n ≤ 256
  · rw [if_pos c1]
    obtain ⟨x, i', h', e, hx, hi'⟩ := byte_ok b i h hi hb
    rw [e, Option.bind_some, if_neg (by omega)]
    have hm0 := Int.emod_nonneg x (show n ≠ 0 by omega)
    have hm1 := Int.emod_lt_of_pos x (show 0 < n by omega)
    refine ⟨_, _, _, rfl, ?_, hi'⟩
    rw [tmod_nn hx.1]
    exact ⟨hm0, fun _ => hm1, fun h => absurd h c0⟩
  · rw [if_neg c1]
    obtain ⟨x1, i1, h1, e1, g1, k1⟩ := byte_ok b i h hi hb
    obtain ⟨x2, i2, h2, e2, g2, k2⟩ := byte_ok b i1 h1 k1 hb
    obtain ⟨x3, i3, h3, e3, g3, k3⟩ := byte_ok b i2 h2 k2 hb
    obtain ⟨x4, i4, h4, e4, g4, k4⟩ := byte_ok b i3 h3 k3 hb
    rw [e1, Option.bind_some]
    dsimp only
    rw [e2, Option.bind_some]
    dsimp only
    rw [e3, Option.bind_some]
    dsimp only
    rw [e4, Option.bind_some, if_neg (by omega)]
    refine ⟨_, _, _, rfl, ?_, k4⟩
    dsimp only
    rw [w64 (n := x1 * 16777216) (by omega) (by omega), w64 (n := x2 * 65536) (by omega) (by omega), w64 (n := x1 * 16777216 + x2 * 65536) (by omega) (by omega), w64 (n := x3 * 256) (by omega) (by omega),
      w64 (n := x1 * 16777216 + x2 * 65536 + x3 * 256) (by omega) (by omega), w64 (n := x1 * 16777216 + x2 * 65536 + x3 * 256 + x4) (by omega) (by omega), tmod_nn (by omega)]
    have hm0 := Int.emod_nonneg (x1 * 16777216 + x2 * 65536 + x3 * 256 + x4) (show n ≠ 0 by omega)
    have hm1 := Int.emod_lt_of_pos (x1 * 16777216 + x2 * 65536 + x3 * 256 + x4) (show 0 < n by omega)
    exact ⟨hm0, fun _ => hm1, fun h => absurd h c0⟩
theorem new_ok (b : List Int) (hb : b.length ≤ 1048576) : ∃ h, Ev (fun k => spec_l1New.f k b) (b, 0, h) := by
  unfold spec_l1New.f
  have key : ∀ d i : Nat, min b.length 4000 - i = d → i ≤ min b.length 4000 → ∀ x : Int, ∃ h, Ev (fun k => spec_l1New.l0 k b x (i : Int)) (b, 0, h) := by
    intro d
    induction d with
    | zero =>
      intro i hd hi x
      refine ⟨x, ev_const (fun k => ?_)⟩
      simp only [spec_l1New.l0]
      by_cases c : i < b.length
      · rw [if_pos (by omega), if_neg (by omega)]
      · rw [if_neg (by omega)]
    | succ d ih =>
      intro i hd hi x
      obtain ⟨h, hh⟩ := ih (i + 1) (by omega) (by omega) (Go.bits .and .i64 (wrap64 ((wrap64 ((wrap64 (x * 131)) + (wrap64 (rd b (i : Int))))) + 7)) 1073741823)
      refine ⟨h, Ev.step (fun k => ?_) hh⟩
      simp only [spec_l1New.l0]
      rw [if_pos (by omega), if_pos (by omega), if_pos (by omega), show wrap64 ((i : Int) + 1) = ((i + 1 : Nat) : Int) by rw [w64 (by omega) (by omega)]; omega]
  exact key (min b.length 4000) 0 (by omega) (by omega) _

theorem pickI_ok (b : List Int) (i h : Int) (l : List Int) (hi : 0 ≤ i ∧ i ≤ (b.length : Int)) (hb : b.length ≤ 1048576) (hl : 0 < l.length) (hl2 : l.length ≤ 256) : ∃ n i' h', spec_l1PickInt.f b i h l = some (rd l (n : Int), i', h') ∧ (0 ≤ n ∧ n < (l.length : Int)) ∧ (0 ≤ i' ∧ i' ≤ (b.length : Int)) := by
  unfold spec_l1PickInt.f
  obtain ⟨x, i1, h1, e1, g1, k1⟩ := below_ok b i h (l.length : Int) hi hb
  have hx := g1.2.1 (by omega)
  rw [e1, Option.bind_some]
  dsimp only
  rw [if_pos g1.1, if_pos hx]
  exact ⟨x, i1, h1, rfl, ⟨g1.1, hx⟩, k1⟩
theorem values_loop (b : List Int) (hb : b.length ≤ 1048576) (wd : Int) : ∀ (n : Nat) (x : List Int) (i h : Int), (0 ≤ i ∧ i ≤ (b.length : Int)) → x.length + n ≤ 100000 →
    ∃ l i' h', Ev (fun k => spec_l2Values.l0 k x wd (n : Int) b i h) (l, i', h') ∧ l.length = x.length + n ∧ (0 ≤ i' ∧ i' ≤ (b.length : Int)) := by
  intro n
  induction n with
  | zero =>
    intro x i h hi hn
    refine ⟨x, i, h, ev_const (fun k => ?_), by omega, hi⟩
    simp only [spec_l2Values.l0]
    rw [if_neg (by omega)]
  | succ n ih =>
    intro x i h hi hn
    obtain ⟨y, i1, h1, e1, g1, k1⟩ := below_ok b i h wd hi hb
    obtain ⟨l, i2, h2, e2, hl, k2⟩ := ih (x ++ [wrap64 (y - (wrap64 (Int.tdiv wd 3)))]) i1 h1 k1 (by simp; omega)
    refine ⟨l, i2, h2, Ev.step (fun k => ?_) e2, by simp at hl; omega, k2⟩
    simp only [spec_l2Values.l0]
    rw [if_pos (by omega), e1, Option.bind_some]
    dsimp only
    rw [if_pos (by omega), w64 (n := ((n + 1 : Nat) : Int) - 1) (by omega) (by omega), show ((n + 1 : Nat) : Int) - 1 = (n : Int) by omega]
theorem values_ok (b : List Int) (hb : b.length ≤ 1048576) (i h m : Int) (hi : 0 ≤ i ∧ i ≤ (b.length : Int)) (hm : 0 ≤ m ∧ m ≤ 1000) : ∃ l i' h', Ev (fun k => spec_l2Values.f k b i h m) (l, i', h') ∧ (l.length : Int) ≤ m ∧ (0 ≤ i' ∧ i' ≤ (b.length : Int)) := by
  unfold spec_l2Values.f
  obtain ⟨n, i1, h1, e1, g1, k1⟩ := pickI_ok b i h [3, 10, 30, 1000] hi hb (by decide) (by decide)
  obtain ⟨y, i2, h2, e2, g2, k2⟩ := below_ok b i1 h1 (m + 1) k1 hb
  have hy := g2.2.1 (by omega)
  obtain ⟨l, i3, h3, e3, hl, k3⟩ := values_loop b hb (rd [3, 10, 30, 1000] n) y.toNat [] i2 h2 k2 (by simp; omega)
  refine ⟨l, i3, h3, ev_pure e1 ?_, by simp at hl; omega, k3⟩
  dsimp only
  rw [w64 (n := m + 1) (by omega) (by omega)]
  refine ev_pure e2 ?_
  dsimp only
  rw [show ((y.toNat : Nat) : Int) = y by omega] at e3
  exact e3

theorem l4Ints_ev (l m : List Int) (hl : l.length ≤ 4611686018427387904) : Ev (fun k => spec_l4Ints.f k l m) (decide (l = m)) := by
  unfold spec_l4Ints.f
  by_cases hlm : l.length = m.length
  · refine ev_ifp (by omega) ?_
    refine loop_ev l.length (fun i => ∀ j (h : j < l.length), j < i → l[j] = m[j]'(by omega)) (fun k i => spec_l4Ints.l0 k l m (i : Int)) (decide (l = m)) (fun j _ h => absurd h (Nat.not_lt_zero _)) ?_ ?_
    · intro i hi hc ih
      have hi2 : i < m.length := by omega
      by_cases e : l[i] = m[i]
      · refine Ev.step (fun k => ?_) (ih (fun j h hj => ?_))
        · simp only [spec_l4Ints.l0]
          simp only [if_pos (show (i : Int) < (l.length : Int) by omega), if_pos (show (0 : Int) ≤ (i : Int) by omega), if_pos (show (i : Int) < (m.length : Int) by omega), rd_nat hi, rd_nat hi2, if_pos e, wS hi (by omega)]
        · by_cases hji : j = i
          · subst hji; exact e
          · exact hc j h (by omega)
      · refine ev_const (fun k => ?_)
        simp only [spec_l4Ints.l0]
        simp only [if_pos (show (i : Int) < (l.length : Int) by omega), if_pos (show (0 : Int) ≤ (i : Int) by omega), if_pos (show (i : Int) < (m.length : Int) by omega), rd_nat hi, rd_nat hi2, if_neg e]
        have : l ≠ m := fun hh => e (by subst hh; rfl)
        simp [this]
    · intro hc
      refine ev_const (fun k => ?_)
      simp only [spec_l4Ints.l0]
      rw [if_neg (by omega)]
      have : l = m := List.ext_getElem hlm (fun j h1 h2 => hc j h1 h1)
      simp [this]
  · refine ev_ifn (by omega) ?_
    have : l ≠ m := fun hh => hlm (by rw [hh])
    exact ev_eq (ev_some _) (by simp [this])

theorem drawPart (b : List Int) (hb : b.length ≤ 1048576) : ∃ l a c p, Ev (fun k => spec_DrawPartition.f k b) (l, a, c, p) ∧ l.length ≤ 12 := by
  obtain ⟨h, e⟩ := new_ok b hb
  obtain ⟨l, i1, h1, e1, hl, k1⟩ := values_ok b hb 0 h 12 (by omega) (by omega)
  obtain ⟨x2, i2, h2, e2, g2, k2⟩ := below_ok b i1 h1 4 k1 hb
  obtain ⟨x3, i3, h3, e3, g3, k3⟩ := below_ok b i2 h2 2 k2 hb
  obtain ⟨x4, i4, h4, e4, g4, k4⟩ := below_ok b i3 h3 3 k3 hb
  obtain ⟨x5, i5, h5, e5, g5, k5⟩ := below_ok b i4 h4 2 k4 hb
  obtain ⟨x6, i6, h6, e6, g6, k6⟩ := below_ok b i5 h5 9 k5 hb
  unfold spec_DrawPartition.f
  exact ⟨l, _, _, _, Ev.bind e (Ev.bind e1 (ev_pure e2 (ev_pure e3 (ev_pure e4 (ev_pure e5 (ev_pure e6 (ev_some _))))))), by omega⟩
theorem eqC_ev (V R : List Int) (hV : V.length ≤ 1048576) (hR : R.length ≤ 1048576) : Ev (fun k => spec_EqualCrackers.f k V R [] V R []) true := by
  unfold spec_EqualCrackers.f
  refine Ev.bind (l4Ints_ev V V (by omega)) (ev_ifp (by simp) (Ev.bind (l4Ints_ev R R (by omega)) (ev_ifp (by simp) (Ev.bind (a := true) ?_ (ev_some _)))))
  unfold spec_l4Same.f
  refine ev_ifp rfl (ev_const (fun k => ?_))
  simp only [spec_l4Same.l0]
  rw [if_neg (by simp)]
theorem fin_ev (l : List Int) (hl : l.length ≤ 1048576) (p a b : Int) (ha : 0 ≤ a) (hb : b ≤ (l.length : Int)) (sw : List S50) (at_ : Int) (y : List Int) (h : PI l p a b sw at_ (at_ - 1) y) (V R : List Int) (hV : V.length ≤ 1048576) (hR : R.length ≤ 1048576) :
    Ev (fun k => laws_FnPartitions.l1 k a b sw at_ sw true true 0 V R [] V R []) true := by
  have hij := h.ij
  have hlen := h.len
  refine down_ev sw.length (fun k i => laws_FnPartitions.l1 k a b sw at_ sw true true (i : Int) V R [] V R []) true ?_ ?_
  · intro i hi ih
    have hin := h.ins sw[i] (List.getElem_mem _)
    refine Ev.step (fun k => ?_) ih
    simp only [laws_FnPartitions.l1]
    rw [if_pos (by omega), if_pos (by omega), if_pos (by omega), rdSwap hi, if_neg (by simp), if_neg (by omega), wS hi (by omega)]
    by_cases c : (i : Int) > 0
    · obtain ⟨j, rfl⟩ : ∃ j, i = j + 1 := ⟨i - 1, by omega⟩
      have hs := h.seq j hi
      rw [if_pos c, w64 (n := ((j + 1 : Nat) : Int) - 1) (by omega) (by omega), show ((j + 1 : Nat) : Int) - 1 = (j : Int) by omega, rdSwap (l := sw) (i := j) (by omega), if_pos (by omega), if_pos (by omega), if_neg (by omega), if_neg (by omega)]
    · rw [if_neg c]
  · apply Ev.step
    · intro k
      simp only [laws_FnPartitions.l1]
      exact (if_neg (by omega)).trans ((if_pos trivial).trans (if_pos trivial))
    · refine Ev.bind (eqC_ev V R hV hR) (ev_ifp rfl ?_)
      rw [w64 (n := 2 * (sw.length : Int)) (by omega) (by omega), w64 (n := b - a) (by omega) (by omega)]
      exact ev_ifp (by omega) (ev_ifp (by omega) (ev_eq (ev_some _) (decide_eq_true (by omega))))
theorem mid_ev (l : List Int) (hl : l.length ≤ 1048576) (p a b : Int) (ha : 0 ≤ a) (hb : b ≤ (l.length : Int)) (sw : List S50) (at_ : Int) (y : List Int) (h : PI l p a b sw at_ (at_ - 1) y) (V R : List Int) (hV : V.length ≤ 1048576) (hR : R.length ≤ 1048576) (yR : List Int) :
    ∀ (d : Nat) (q : Int), a ≤ q → b - q ≤ d → q ≤ b → Ev (fun k => laws_FnPartitions.l0 k a b p sw at_ sw true true q V R [] y yR [] V R []) true := by
  have hij := h.ij
  have hfin : Ev (fun k => laws_FnPartitions.j3 k a b p sw at_ sw true true b false V R [] y yR [] V R []) true := by
    refine Ev.step (fun k => ?_) (fin_ev l hl p a b ha hb sw at_ y h V R hV hR)
    simp only [laws_FnPartitions.j3]
    rw [if_neg (by simp)]
  intro d
  induction d with
  | zero =>
    intro q h1 h2 h3
    obtain rfl : q = b := by omega
    refine Ev.step (fun k => ?_) hfin
    simp only [laws_FnPartitions.l0]
    rw [if_neg (by omega)]
  | succ d ih =>
    intro q h1 h2 h3
    by_cases c : q < b
    · refine Ev.step (f := fun k => laws_FnPartitions.j3 k a b p sw at_ sw true true q true V R [] y yR [] V R []) (fun k => ?_) (Ev.step (fun k => ?_) (ih (q + 1) (by omega) (by omega) (by omega)))
      · simp only [laws_FnPartitions.l0]
        rw [if_pos c]
      · simp only [laws_FnPartitions.j3]
        have hx := h.xl
        have e : ((decide ((rd y q) < p)) != (decide (q < at_))) = false := by
          by_cases e : q < at_
          · simp [h.lo q h1 e, e]
          · have := h.up q (by omega) c
            simp [e, this]
        rw [if_pos trivial, if_pos (by omega), if_pos (by omega), e, if_neg (by simp), w64 (n := q + 1) (by omega) (by omega)]
    · obtain rfl : q = b := by omega
      refine Ev.step (fun k => ?_) hfin
      simp only [laws_FnPartitions.l0]
      rw [if_neg (by omega)]
theorem parts_ev (l : List Int) (hl : l.length ≤ 12) (p a b : Int) (ha : 0 ≤ a) (hb : b ≤ (l.length : Int)) (sw : List S50) (at_ : Int) (y : List Int) (h : PI l p a b sw at_ (at_ - 1) y) :
    Ev (fun k => laws_FnPartitions.j1 k l a b p sw at_ sw false) true := by
  have hij := h.ij
  have hlen := h.len
  have hsw : sw.length ≤ 1048576 := by omega
  apply Ev.step
  · intro k
    simp only [laws_FnPartitions.j1]
    rw [if_neg (by simp)]
  · have hn := specNew_ev l (by omega)
    have hm := mk_len 0 l.length
    unfold newC at hn
    cases hv : areV l with
    | true =>
      rw [hv, if_pos rfl] at hn
      have hall : ∀ s ∈ sw, swin (l.length : Int) s = true := fun s hs => by
        have := h.ins s hs
        unfold swin
        simp only [Bool.and_eq_true, decide_eq_true_eq]
        omega
      have h1 := implApp_ev l (mk 0 l.length) [] sw (by omega) (by omega) (by omega) (by simp)
      unfold appR at h1
      rw [if_pos hm, runS_all _ _ _ _ sw _ _ hall, h.fold] at h1
      have hR := fold_len sw (mk 0 l.length)
      have hx := h.xl
      have h2 := implUndo_ev y (sw.foldl sw1 (mk 0 l.length)) [] sw hsw (by omega) (by omega) (by simp)
      unfold appR at h2
      rw [if_pos (by omega), runS_all _ _ _ _ sw.reverse _ _ (fun s hs => by rw [hx]; exact hall s (List.mem_reverse.1 hs)), ← h.fold, undo_fold sw l hall, undo_fold sw (mk 0 l.length) (by rw [hm]; exact hall)] at h2
      rw [h.fold] at h2
      refine Ev.bind hn (Ev.bind h1 (Ev.bind h2 (ev_ifp rfl (ev_ifp (by show (y.length : Int) = (l.length : Int); omega) ?_))))
      exact mid_ev l (by omega) p a b ha hb sw at_ y h l (mk 0 l.length) (by omega) (by omega) _ (b - a).toNat a (by omega) (by omega) (by omega)
    | false =>
      rw [hv, if_neg (by simp)] at hn
      have h1 := implApp_ev [] [] [] sw (by omega) (by simp) (by simp) (by simp)
      obtain ⟨la, lb, lc⟩ := appR_len [] [] [] sw
      generalize appR [] [] [] sw = x at h1 la lb lc
      obtain ⟨xv, xr, xp, xq⟩ := x
      simp only at la lb lc
      have h2 := implUndo_ev xv xr xp sw hsw (by simp [la]) (by simp [lb]) (by simp [lc])
      refine Ev.bind hn (Ev.bind h1 (Ev.bind h2 (ev_ifn ?_ (ev_some _))))
      intro e
      have : l = [] := List.eq_nil_of_length_eq_zero (by simp at e; omega)
      subst this
      exact absurd hv (by decide)
theorem partsAll (l : List Int) (hl : l.length ≤ 12) (p a b : Int) : ∃ sw at_, Ev (fun k => impl_Partition.f k l a b p) (sw, at_) ∧ Ev (fun k => spec_Partition.f k l a b p) (sw, at_) ∧ Ev (fun k => laws_FnPartitions.j0 k l a b p sw at_ sw false) true := by
  have htrue : Ev (fun k => laws_FnPartitions.j1 k l a b p [] 0 [] true) true := ev_const (fun k => by simp [laws_FnPartitions.j1])
  by_cases hin : a < 0 ∨ a > b ∨ b > (l.length : Int)
  · obtain ⟨e1, e2⟩ := part_out l (by omega) a b p hin
    refine ⟨[], 0, e2, e1, ?_⟩
    apply Ev.step
    · intro k
      simp only [laws_FnPartitions.j0]
      rw [if_neg (by simp)]
    · by_cases h1 : a < 0
      · exact ev_ifp h1 htrue
      · refine ev_ifn h1 ?_
        by_cases h2 : a > b
        · exact ev_ifp h2 htrue
        · refine ev_ifn h2 ?_
          rw [decide_eq_true (by omega)]
          exact htrue
  · obtain ⟨sw, at_, y, e1, e2, h⟩ := part_in l (by omega) a b p (by omega) (by omega) (by omega)
    refine ⟨sw, at_, e2, e1, ?_⟩
    apply Ev.step
    · intro k
      simp only [laws_FnPartitions.j0]
      rw [if_neg (by simp)]
    · refine ev_ifn (by omega) (ev_ifn (by omega) ?_)
      rw [decide_eq_false (by omega)]
      exact parts_ev l hl p a b (by omega) (by omega) sw at_ y h


end Go.Proofs.Ytlikcmonejefoaa.Pure.FnPartitions
namespace Go.Proofs.Ytlikcmonejefoaa.Pure
open Go.RowKit Go.Proofs.Ytlikcmonejefoaa.PFnPartitions Go.Proofs.YtlikcmonejefoaaW.PrintWords Go.Proofs.YtlikcmonejefoaaW.PrintLast Go.Proofs.YtlikcmonejefoaaW.PrintMore Go.Proofs.Ytlikcmonejefoaa.B Go.Proofs.Ytlikcmonejefoaa.Pure.FnPartitions
theorem FnPartitions : ∀ (l0 : List Int), (l0.length ≤ maxLen ∧ ∀ z ∈ l0, (Lit.int .u8 z).wf = true) → ∃ k, laws_FnPartitions.f k l0 = some true := by
  intro l ⟨hl, _⟩
  by_cases hb : (l.length : Int) > 1048576
  · exact ⟨0, by unfold laws_FnPartitions.f laws_big.f; rw [decide_eq_true hb]; rfl⟩
  · refine Ev.rounds (g := fun k => laws_FnPartitions.f k l) ?_
    unfold laws_FnPartitions.f
    refine ev_pure (a := false) (by unfold laws_big.f; rw [decide_eq_false hb]) (ev_ifn (by simp) ?_)
    obtain ⟨x, a, b, p, e, hx⟩ := drawPart l (by omega)
    obtain ⟨sw, at_, e1, e2, e3⟩ := partsAll x hx p a b
    refine Ev.bind e (Ev.bind e1 (Ev.bind e2 (ev_ifp rfl ?_)))
    have : (at_ != at_) = false := by simp
    rw [this]
    exact e3

end Go.Proofs.Ytlikcmonejefoaa.Pure
