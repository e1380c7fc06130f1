-- printed by a program of this session, a turned copy of the print of the kit
import Derived.Test.YtfjanffppobheaaDoorPFnExactParseTablex0
import Derived.Test.YtfjanffppobheaaDoorPFnExactParseTablex5
import Derived.Test.YtfjanffppobheaaDoorPFnExactParseTablex7
namespace Go.Proofs.YtfjanffppobheaaDoor.PFnExactParseTable
open Go.RowKit Go.Proofs.YtfjanffppobheaaDoorW.PrintWords Go.Proofs.YtfjanffppobheaaDoorW.PrintLast Go.Proofs.YtfjanffppobheaaDoorW.PrintMore
attribute [local go_sem] max2_int min2_int max_two min_two max_three min_three max_four min_four Giv.cell_twice   -- for this text's walks alone
set_option linter.unusedVariables false
set_option linter.unusedSimpArgs false

/-! ### impl_ParseTable: function 5 -/
mutual
def impl_ParseTable.l0 : Nat → ByteArray → List ByteArray → List ByteArray → Int → Int → List (S34) → Option ((List (S34)) × Bool)
 | 0, _, _, _, _, _, _ => none
 | k + 1, x0, x4, x25, x26, x27, x216000 => if x27 < x26 then (if 0 ≤ x27 then (if x27 < (x25.length : Int) then (if x216000.length < 3518437208883 then (impl_ParseTable.l0 k x0 x4 x25 x26 (wrap64 (x27 + 1)) (x216000 ++ [(⟨rdOf ByteArray.empty x25 x27, ([] : List Int)⟩ : S34)])) else (none)) else (none)) else (none)) else (if 1 ≤ (mx 1 (wrap64 ((x4.length : Int) - 1))) then (if (mx 1 (wrap64 ((x4.length : Int) - 1))) ≤ (x4.length : Int) then ((some ((x4.take ((mx 1 (wrap64 ((x4.length : Int) - 1))) : Int).toNat).drop 1 : List ByteArray)).bind fun y224 => (impl_ParseTable.l1 k x0 y224 (y224.length : Int) 0 x216000)) else (none)) else (none))
def impl_ParseTable.l1 : Nat → ByteArray → List ByteArray → Int → Int → List (S34) → Option ((List (S34)) × Bool)
 | 0, _, _, _, _, _ => none
 | k + 1, x0, x44, x45, x46, x216000 => if x46 < x45 then (if 0 ≤ x46 then (if x46 < (x44.length : Int) then ((strings_Split.f (rdOf ByteArray.empty x44 x46) (⟨#[32]⟩ : ByteArray)).bind fun t230 => (if (t230.length : Int) = (x216000.length : Int) then (impl_ParseTable.l2 k x0 x44 x45 x46 t230 (t230.length : Int) 0 x216000) else (some (([] : List (S34)), false)))) else (none)) else (none)) else (if x0.toList = ([] : List UInt8) then (some (([] : List (S34)), false)) else ((impl_FormatTable.f k x216000).bind fun t228 => (if t228.toList = x0.toList then (some (x216000, true)) else (some (([] : List (S34)), false)))))
def impl_ParseTable.l2 : Nat → ByteArray → List ByteArray → Int → Int → List ByteArray → Int → Int → List (S34) → Option ((List (S34)) × Bool)
 | 0, _, _, _, _, _, _, _, _ => none
 | k + 1, x0, x44, x45, x46, x59, x60, x61, x216000 => if x61 < x60 then (if 0 ≤ x61 then (if x61 < (x59.length : Int) then ((impl_ParseInt.f (rdOf ByteArray.empty x59 x61)).bind fun bt234 => (if x61 < (x216000.length : Int) then (if ((rd_T34 x216000 x61).f1).length < 17592186044416 then (impl_ParseTable.l2 k x0 x44 x45 x46 x59 x60 (wrap64 (x61 + 1)) (x216000.set (x61 : Int).toNat (⟨(rd_T34 x216000 x61).f0, (((rd_T34 x216000 x61).f1) ++ [bt234.1])⟩ : S34))) else (none)) else (none))) else (none)) else (none)) else (impl_ParseTable.l1 k x0 x44 x45 (wrap64 (x46 + 1)) x216000)
end
def impl_ParseTable.f (k : Nat) (a0 : ByteArray) : Option ((List (S34)) × Bool) := (strings_Split.f a0 (⟨#[10]⟩ : ByteArray)).bind fun t212 => (if (t212.length : Int) > 66 then (some (([] : List (S34)), false)) else (if 0 < (t212.length : Int) then ((strings_Split.f (rdOf ByteArray.empty t212 0) (⟨#[32]⟩ : ByteArray)).bind fun t217 => (impl_ParseTable.l0 k a0 t212 t217 (t217.length : Int) 0 ([] : List (S34)))) else (none)))
theorem impl_ParseTable.mono_l : ∀ k, (∀ y0 y1 y2 y3 y4 y5, LeO (impl_ParseTable.l0 k y0 y1 y2 y3 y4 y5) (impl_ParseTable.l0 (k + 1) y0 y1 y2 y3 y4 y5)) ∧ (∀ y0 y1 y2 y3 y4, LeO (impl_ParseTable.l1 k y0 y1 y2 y3 y4) (impl_ParseTable.l1 (k + 1) y0 y1 y2 y3 y4)) ∧ (∀ y0 y1 y2 y3 y4 y5 y6 y7, LeO (impl_ParseTable.l2 k y0 y1 y2 y3 y4 y5 y6 y7) (impl_ParseTable.l2 (k + 1) y0 y1 y2 y3 y4 y5 y6 y7))
 | 0 => ⟨fun _ _ _ _ _ _ r h => by simp [impl_ParseTable.l0] at h, fun _ _ _ _ _ r h => by simp [impl_ParseTable.l1] at h, fun _ _ _ _ _ _ _ _ r h => by simp [impl_ParseTable.l2] at h⟩
 | k + 1 => by
  obtain ⟨ih0, ih1, ih2⟩ := impl_ParseTable.mono_l k
  refine ⟨?_, ?_, ?_⟩
  ·intro y0 y1 y2 y3 y4 y5
   unfold impl_ParseTable.l0
   repeat' first
   | (with_reducible exact ih0 _ _ _ _ _ _)
   | (with_reducible exact ih1 _ _ _ _ _)
   | (with_reducible exact ih2 _ _ _ _ _ _ _ _)
   | (with_reducible exact impl_FormatTable.mono _ _)
   | (with_reducible exact LeO.refl _)
   | (with_reducible exact LeO.none _)
   | (with_reducible refine LeO.ite ?_ ?_)
   | (with_reducible refine LeO.bind ?_ (fun _ => ?_))
   | exact ih0 _ _ _ _ _ _
   | exact ih1 _ _ _ _ _
   | exact ih2 _ _ _ _ _ _ _ _
   | exact impl_FormatTable.mono _ _
   | exact LeO.none _
   | refine LeO.ite ?_ ?_
   | refine LeO.bind ?_ (fun _ => ?_)
  ·intro y0 y1 y2 y3 y4
   unfold impl_ParseTable.l1
   repeat' first
   | (with_reducible exact ih0 _ _ _ _ _ _)
   | (with_reducible exact ih1 _ _ _ _ _)
   | (with_reducible exact ih2 _ _ _ _ _ _ _ _)
   | (with_reducible exact impl_FormatTable.mono _ _)
   | (with_reducible exact LeO.refl _)
   | (with_reducible exact LeO.none _)
   | (with_reducible refine LeO.ite ?_ ?_)
   | (with_reducible refine LeO.bind ?_ (fun _ => ?_))
   | exact ih0 _ _ _ _ _ _
   | exact ih1 _ _ _ _ _
   | exact ih2 _ _ _ _ _ _ _ _
   | exact impl_FormatTable.mono _ _
   | exact LeO.none _
   | refine LeO.ite ?_ ?_
   | refine LeO.bind ?_ (fun _ => ?_)
  ·intro y0 y1 y2 y3 y4 y5 y6 y7
   unfold impl_ParseTable.l2
   repeat' first
   | (with_reducible exact ih0 _ _ _ _ _ _)
   | (with_reducible exact ih1 _ _ _ _ _)
   | (with_reducible exact ih2 _ _ _ _ _ _ _ _)
   | (with_reducible exact impl_FormatTable.mono _ _)
   | (with_reducible exact LeO.refl _)
   | (with_reducible exact LeO.none _)
   | (with_reducible refine LeO.ite ?_ ?_)
   | (with_reducible refine LeO.bind ?_ (fun _ => ?_))
   | exact ih0 _ _ _ _ _ _
   | exact ih1 _ _ _ _ _
   | exact ih2 _ _ _ _ _ _ _ _
   | exact impl_FormatTable.mono _ _
   | exact LeO.none _
   | refine LeO.ite ?_ ?_
   | refine LeO.bind ?_ (fun _ => ?_)
theorem impl_ParseTable.mono : ∀ a0 k, LeO (impl_ParseTable.f k a0) (impl_ParseTable.f (k + 1) a0) := by
 intro a0 k
 obtain ⟨ih0, ih1, ih2⟩ := impl_ParseTable.mono_l k
 unfold impl_ParseTable.f
 repeat' first
   | (with_reducible exact ih0 _ _ _ _ _ _)
   | (with_reducible exact ih1 _ _ _ _ _)
   | (with_reducible exact ih2 _ _ _ _ _ _ _ _)
   | (with_reducible exact impl_FormatTable.mono _ _)
   | (with_reducible exact LeO.refl _)
   | (with_reducible exact LeO.none _)
   | (with_reducible refine LeO.ite ?_ ?_)
   | (with_reducible refine LeO.bind ?_ (fun _ => ?_))
   | exact ih0 _ _ _ _ _ _
   | exact ih1 _ _ _ _ _
   | exact ih2 _ _ _ _ _ _ _ _
   | exact impl_FormatTable.mono _ _
   | exact LeO.none _
   | refine LeO.ite ?_ ?_
   | refine LeO.bind ?_ (fun _ => ?_)
def impl_ParseTable.T20 : Bool × List (List Nat × List Nat) := (true, [([], []), ([0], [0]), ([], []), ([], []), ([3], [3]), ([], []), ([4, 5], [4, 5]), ([6], [6]), ([7], [7]), ([], []), ([9], [9]), ([8, 10], [8, 10]), ([1, 2, 0, 1, 2, 3, 4, 5, 6, 7, 8, 9, 10, 11], [1, 2]), ([12, 0, 1, 2, 3, 4, 5, 6, 7, 8, 9, 10, 11], [12]), ([13, 11, 11, 0, 1, 2, 3, 4, 5, 6, 7, 8, 9, 10, 11], [11, 13])])
def impl_ParseTable.B20 : List Nat := [0, 1, 0, 0, 8, 0, 56, 120, 248, 0, 512, 2040, 4095, 8191, 16383]
theorem impl_ParseTable.tab20 : rtab .any (opsOf Tryd.f5 20) = impl_ParseTable.T20 := by kernel_rfl
theorem impl_ParseTable.bits20 : waitsOk impl_ParseTable.T20.2 impl_ParseTable.B20 = true := by kernel_rfl
set_option maxHeartbeats 8000000 in
set_option maxRecDepth 100000 in
theorem impl_ParseTable.calls (k : Nat) (a0 : ByteArray) (r1 : List (S34)) (r2 : Bool) (w : World) (TB0 : Aside0 (TabOk w)) (h : impl_ParseTable.f k a0 = some (r1, r2)) :
  Calls Tryd.prog 5 #[.string a0] w fun e w' => ∃ v0_ : Value, e = .returned (.tuple #[.agg #[v0_], .bool r2]) ∧ Kd.S k34 34 w' w.heap.size (fun _ => True) v0_ r1 ∧ Below w.heap.size w w' := by
 have hu24 := Tryd.underlying24
 have hu34 := Tryd.underlying34
 have HB := Aside0.mk (Below.refl w.heap.size w)
 have H : ((strings_Split.f a0 (⟨#[10]⟩ : ByteArray)).bind fun t212 => (if (t212.length : Int) > 66 then (some (([] : List (S34)), false)) else (if 0 < (t212.length : Int) then ((strings_Split.f (rdOf ByteArray.empty t212 0) (⟨#[32]⟩ : ByteArray)).bind fun t217 => (impl_ParseTable.l0 k a0 t212 t217 (t217.length : Int) 0 ([] : List (S34)))) else (none)))) = some (r1, r2) := h
 clear h
 replace H := Option.bind_eq_some_iff.mp H
 obtain ⟨t212, A20, H⟩ := H
 replace H : (if (t212.length : Int) > 66 then (some (([] : List (S34)), false)) else (if 0 < (t212.length : Int) then ((strings_Split.f (rdOf ByteArray.empty t212 0) (⟨#[32]⟩ : ByteArray)).bind fun t217 => (impl_ParseTable.l0 k a0 t212 t217 (t217.length : Int) 0 ([] : List (S34)))) else (none))) = some (r1, r2) := H
 have A2 := Aside0.mk A20
 clear A20
 by_cases c3 : (t212.length : Int) > 66
 ·rw [if_pos c3] at H
  have c3b0 : decide (66 < (t212.length : Int)) = true := decide_eq_true c3
  have c3b1 : decide (66 < t212.length) = true := decide_eq_true (by omega)
  clear c3
  simp only [Option.some.injEq, Prod.mk.injEq] at H
  obtain ⟨rfl, rfl⟩ := H
  go_enter Tryd.func5, Tryd.ntmps5
  go_wp2_with (first | ((with_reducible refine gate_dst (N := 2) rfl ?_); refine box_event ?hg (N := 2) ?hd (cs := #[.slice none 0 0]) (t := 24) ?hr ?_; (case hd => rfl); (case hg => rfl); (case hr => first | (go_simp; done) | (go_simp; rfl)); intro gb211 hg w4 hbox hb; have n0_ := Aside0.mk (below_step (by repeat (first | (with_reducible first | exact HB.out | apply below_alloc | apply pw_below_drewN | apply below_drew1) | exact HB.out)) hb); have n1_ := Aside0.mk (hbox); have n2_ := Aside0.mk ((by rw [hg]; exact (below_size (by repeat (first | (with_reducible first | exact HB.out | apply below_alloc | apply pw_below_drewN | apply below_drew1) | exact HB.out))) : w.heap.size ≤ gb211)); have n3_ := Aside0.mk ((by rw [hg]; exact (below_size (by repeat (first | (with_reducible first | exact HB.out | apply below_alloc | apply pw_below_drewN | apply below_drew1) | exact HB.out))) : w.heap.size ≤ gb211)); clear HB; have HB := n0_; have BK211 := n1_; have GW211 := n2_; have GE211 := n3_; clear n0_ n1_ n2_ n3_; clear hb hbox hg) | ((with_reducible refine gate_callee (f := 13) rfl ?_); refine goesL_ (some 16) rfl rfl Tryd.func13 (by kernel_rfl) rfl #[.string a0, .string (⟨#[10]⟩ : ByteArray)] rfl (by (try simp only [List.map_toArray, List.map_cons, List.map_nil]); first | done | rfl | (simp only [List.length_drop, List.length_take]; rfl)) ?_; (with_reducible refine (strings_Split.calls a0 (⟨#[10]⟩ : ByteArray) t212 _ ?side1 A2.out).mono ?_); (case side1 => exact ⟨TabOk.step TB0.out (by repeat (first | (with_reducible first | exact HB.out | apply below_alloc | apply pw_below_drewN | apply below_drew1 | refine below_set ?_ GE211.out) | exact HB.out))⟩); rintro e w5 ⟨v213, rfl, ho0, hb⟩; refine ⟨_, rfl, ?_⟩; have n0_ := Aside0.mk (Kd.R_lower ho0 (below_size (by repeat (first | (with_reducible first | exact HB.out | apply below_alloc | apply pw_below_drewN | apply below_drew1 | refine below_set ?_ GE211.out) | exact HB.out)))); have n1_ := Aside0.mk (blk_below (g := gb211) (o := .cells #[.slice none 0 0] 24 (0, 0)) (by (with_reducible repeat (first | refine blk_drewN ?_ _ | refine blk_drew ?_ | refine blk_alloc ?_ _)); exact BK211.out) hb); have n2_ := Aside0.mk (below_step (by repeat (first | (with_reducible first | exact HB.out | apply below_alloc | apply pw_below_drewN | apply below_drew1 | refine below_set ?_ GE211.out) | exact HB.out)) hb); clear BK211; clear HB; have HO214 := n0_; have BK211 := n1_; have HB := n2_; clear n0_ n1_ n2_; (try clear hb); (try clear hb2); (try clear hk); (try clear hi); (try clear ho0); obtain ⟨Ao6, co6, eo6⟩ := Kd.R_slice HO214.out; subst eo6; have hcz7_0 : w5.cell? ⟨gb211, 0, none⟩ = some (.slice none 0 0) := (blk_cell BK211.out 0).trans rfl; have hfz7_0 := blk_frozen BK211.out 0))
  refine bodyPost_ret (results_ct rfl _ _ gb211 24 #[.slice none 0 0] (0, 0) _ rfl (by (with_reducible repeat (first | refine blk_drewN ?_ _ | refine blk_drew ?_ | refine blk_alloc ?_ _)); refine blk_put (cs := #[.slice none 0 0]) ?_ 0 _ rfl; (with_reducible repeat (first | refine blk_drewN ?_ _ | refine blk_drew ?_ | refine blk_alloc ?_ _)); exact BK211.out) Tryd.underlying24 rfl (by kernel_rfl)) rfl ?_
  exact ⟨_, by first | rfl | (simp [errW_none, errW_some] <;> rfl) | (simp [*, errW_none, errW_some] <;> rfl), by first | exact Kd.S_nil _ _ _ _ _ | exact Kd.N_nil _ _ _ _ _ | exact Kd.V_nil _ _ _ _ _ | exact Kd.Q_nil _ _ _ _ _ | exact Kd.R_nil _ _ _ _ _, by repeat (first | (with_reducible first | exact HB.out | apply below_alloc | apply pw_below_drewN | apply below_drew1 | refine below_set ?_ GE211.out) | exact HB.out)⟩
 ·rw [if_neg c3] at H
  have c3b0 : decide (66 < (t212.length : Int)) = false := decide_eq_false c3
  have c3b1 : decide (66 < t212.length) = false := decide_eq_false (by omega)
  clear c3
  by_cases c8 : 0 < (t212.length : Int)
  ·rw [if_pos c8] at H
   have c8b0 : decide (0 < (t212.length : Int)) = true := decide_eq_true c8
   have c8b1 : decide (0 < t212.length) = true := decide_eq_true (by omega)
   clear c8
   replace H := Option.bind_eq_some_iff.mp H
   obtain ⟨t217, A90, H⟩ := H
   replace H : (impl_ParseTable.l0 k a0 t212 t217 (t217.length : Int) 0 ([] : List (S34))) = some (r1, r2) := H
   have A9 := Aside0.mk A90
   clear A90
   have H' := Aside0.mk H
   clear H
   go_enter Tryd.func5, Tryd.ntmps5
   go_wp2_with (first | ((with_reducible refine gate_dst (N := 2) rfl ?_); refine box_event ?hg (N := 2) ?hd (cs := #[.slice none 0 0]) (t := 24) ?hr ?_; (case hd => rfl); (case hg => rfl); (case hr => first | (go_simp; done) | (go_simp; rfl)); intro gb211 hg w10 hbox hb; have n0_ := Aside0.mk (below_step (by repeat (first | (with_reducible first | exact HB.out | apply below_alloc | apply pw_below_drewN | apply below_drew1) | exact HB.out)) hb); have n1_ := Aside0.mk (hbox); have n2_ := Aside0.mk ((by rw [hg]; exact (below_size (by repeat (first | (with_reducible first | exact HB.out | apply below_alloc | apply pw_below_drewN | apply below_drew1) | exact HB.out))) : w.heap.size ≤ gb211)); have n3_ := Aside0.mk ((by rw [hg]; exact (below_size (by repeat (first | (with_reducible first | exact HB.out | apply below_alloc | apply pw_below_drewN | apply below_drew1) | exact HB.out))) : w.heap.size ≤ gb211)); clear HB; have HB := n0_; have BK211 := n1_; have GW211 := n2_; have GE211 := n3_; clear n0_ n1_ n2_ n3_; clear hb hbox hg) | ((with_reducible refine gate_callee (f := 13) rfl ?_); refine goesL_ (some 16) rfl rfl Tryd.func13 (by kernel_rfl) rfl #[.string a0, .string (⟨#[10]⟩ : ByteArray)] rfl (by (try simp only [List.map_toArray, List.map_cons, List.map_nil]); first | done | rfl | (simp only [List.length_drop, List.length_take]; rfl)) ?_; (with_reducible refine (strings_Split.calls a0 (⟨#[10]⟩ : ByteArray) t212 _ ?side1 A2.out).mono ?_); (case side1 => exact ⟨TabOk.step TB0.out (by repeat (first | (with_reducible first | exact HB.out | apply below_alloc | apply pw_below_drewN | apply below_drew1 | refine below_set ?_ GE211.out) | exact HB.out))⟩); rintro e w11 ⟨v213, rfl, ho0, hb⟩; refine ⟨_, rfl, ?_⟩; have n0_ := Aside0.mk (Kd.R_lower ho0 (below_size (by repeat (first | (with_reducible first | exact HB.out | apply below_alloc | apply pw_below_drewN | apply below_drew1 | refine below_set ?_ GE211.out) | exact HB.out)))); have n1_ := Aside0.mk (blk_below (g := gb211) (o := .cells #[.slice none 0 0] 24 (0, 0)) (by (with_reducible repeat (first | refine blk_drewN ?_ _ | refine blk_drew ?_ | refine blk_alloc ?_ _)); exact BK211.out) hb); have n2_ := Aside0.mk (below_step (by repeat (first | (with_reducible first | exact HB.out | apply below_alloc | apply pw_below_drewN | apply below_drew1 | refine below_set ?_ GE211.out) | exact HB.out)) hb); clear BK211; clear HB; have HO214 := n0_; have BK211 := n1_; have HB := n2_; clear n0_ n1_ n2_; (try clear hb); (try clear hb2); (try clear hk); (try clear hi); (try clear ho0); obtain ⟨Ao12, co12, eo12⟩ := Kd.R_slice HO214.out; subst eo12) | ((with_reducible refine gate_dst (N := 5) rfl ?_); refine box_event ?hg (N := 5) ?hd (cs := #[.slice none 0 0]) (t := 24) ?hr ?_; (case hd => rfl); (case hg => rfl); (case hr => first | (go_simp; done) | (go_simp; rfl)); intro gb215 hg w13 hbox hb; have n0_ := Aside0.mk (Kd.R_below (by (with_reducible repeat (first | apply Kd.R_alloc | apply Kd.R_drewN | apply Kd.R_drew)); exact HO214.out) hb); have n1_ := Aside0.mk (blk_below (g := gb211) (o := .cells #[.slice none 0 0] 24 (0, 0)) (by (with_reducible repeat (first | refine blk_drewN ?_ _ | refine blk_drew ?_ | refine blk_alloc ?_ _)); exact BK211.out) hb); have n2_ := Aside0.mk (below_step (by repeat (first | (with_reducible first | exact HB.out | apply below_alloc | apply pw_below_drewN | apply below_drew1 | refine below_set ?_ GE211.out) | exact HB.out)) hb); have n3_ := Aside0.mk (hbox); have n4_ := Aside0.mk ((by rw [hg]; exact (below_size (by repeat (first | (with_reducible first | exact HB.out | apply below_alloc | apply pw_below_drewN | apply below_drew1 | refine below_set ?_ GE211.out) | exact HB.out))) : w.heap.size ≤ gb215)); have n5_ := Aside0.mk ((by rw [hg]; exact (below_size (by repeat (first | (with_reducible first | exact HB.out | apply below_alloc | apply pw_below_drewN | apply below_drew1 | refine below_set ?_ GE211.out) | exact HB.out))) : w.heap.size ≤ gb215)); have n6_ := Aside0.mk ((by rw [hg]; exact Nat.ne_of_lt (blk_lt (g := gb211) (o := .cells #[.slice none 0 0] 24 (0, 0)) (by (with_reducible repeat (first | refine blk_drewN ?_ _ | refine blk_drew ?_ | refine blk_alloc ?_ _)); exact BK211.out)) : gb211 ≠ gb215)); have n7_ := Aside0.mk ((by rw [hg]; exact Nat.ne_of_gt (blk_lt (g := gb211) (o := .cells #[.slice none 0 0] 24 (0, 0)) (by (with_reducible repeat (first | refine blk_drewN ?_ _ | refine blk_drew ?_ | refine blk_alloc ?_ _)); exact BK211.out)) : gb215 ≠ gb211)); clear HO214; clear BK211; clear HB; have HO214 := n0_; have BK211 := n1_; have HB := n2_; have BK215 := n3_; have GW215 := n4_; have GE215 := n5_; have NB211_215 := n6_; have NB215_211 := n7_; clear n0_ n1_ n2_ n3_ n4_ n5_ n6_ n7_; clear hb hbox hg; have hnb14 := NB215_211.out; have hnc14 := NB211_215.out; have hcz15_0 : w13.cell? ⟨gb215, 0, none⟩ = some (.slice none 0 0) := (blk_cell BK215.out 0).trans rfl; have hfz15_0 := blk_frozen BK215.out 0; have p216 : 0 ≤ (0 : Int) := (by omega); have q216 : 0 < (t212.length : Int) := of_decide_eq_true (by first | (with_reducible assumption) | assumption); obtain ⟨ad216, e216, hx216_0⟩ := Kd.at_string (Kd.R_reads' HO214.out).2.2 0 p216 q216; cases e216; have qi216 : (0 < t212.length) = True := eq_true (by omega); (try rw [show ((0 : Int)).toNat = 0 from rfl] at hx216_0); (try rw [Addr.add_zero'] at hx216_0); have hn216_0 : ad216.block ≠ gb215 := Kd.own_blk (Kd.R_ne HO214.out BK215.out (by decide)); replace hx216_0 := (cell_far (p := ⟨gb215, 0, none⟩) (by first | (rw [add_block]; exact hn216_0) | (show (Addr.add _ _).block ≠ _; rw [add_block]; exact hn216_0) | exact hn216_0) (.slice none 0 0)).trans hx216_0; clear hn216_0; replace p216 := eq_true p216; replace q216 := eq_true q216) | ((with_reducible refine gate_callee (f := 13) rfl ?_); refine goesL_ (some 25) rfl rfl Tryd.func13 (by kernel_rfl) rfl #[.string (rdOf ByteArray.empty t212 0), .string (⟨#[32]⟩ : ByteArray)] rfl (by (try simp only [List.map_toArray, List.map_cons, List.map_nil]); first | done | rfl | (simp only [List.length_drop, List.length_take]; rfl)) ?_; (with_reducible refine (strings_Split.calls (rdOf ByteArray.empty t212 0) (⟨#[32]⟩ : ByteArray) t217 _ ?side1 A9.out).mono ?_); (case side1 => exact ⟨TabOk.step TB0.out (by repeat (first | (with_reducible first | exact HB.out | apply below_alloc | apply pw_below_drewN | apply below_drew1 | refine below_set ?_ GE211.out | refine below_set ?_ GE215.out) | exact HB.out))⟩); rintro e w16 ⟨v218, rfl, ho0, hb⟩; refine ⟨_, rfl, ?_⟩; have n0_ := Aside0.mk (Kd.R_elder' (by (with_reducible repeat (first | apply Kd.R_alloc | apply Kd.R_drewN | apply Kd.R_drew)); exact (Kd.R_mono (Kd.R_far (p := ⟨gb215, 0, none⟩) (Kd.R_types HO214.out BK215.out (by decide)) (fun _ hk => hk.2) (.slice none 0 0)) (fun _ h_ => h_.1))) (Kd.R_base ho0) hb); have n1_ := Aside0.mk (Kd.R_lower (Kd.R_new' ho0 (Kd.R_lt (by (with_reducible repeat (first | apply Kd.R_alloc | apply Kd.R_drewN | apply Kd.R_drew)); exact (Kd.R_mono (Kd.R_far (p := ⟨gb215, 0, none⟩) (Kd.R_types HO214.out BK215.out (by decide)) (fun _ hk => hk.2) (.slice none 0 0)) (fun _ h_ => h_.1))))) (below_size (by repeat (first | (with_reducible first | exact HB.out | apply below_alloc | apply pw_below_drewN | apply below_drew1 | refine below_set ?_ GE211.out | refine below_set ?_ GE215.out) | exact HB.out)))); have n2_ := Aside0.mk (blk_below (g := gb211) (o := .cells #[.slice none 0 0] 24 (0, 0)) (by (with_reducible repeat (first | refine blk_drewN ?_ _ | refine blk_drew ?_ | refine blk_alloc ?_ _)); refine blk_far ?_ NB211_215.out _; (with_reducible repeat (first | refine blk_drewN ?_ _ | refine blk_drew ?_ | refine blk_alloc ?_ _)); exact BK211.out) hb); have n3_ := Aside0.mk (blk_below (g := gb215) (o := .cells #[.slice none 0 0] 24 (0, 0)) (by (with_reducible repeat (first | refine blk_drewN ?_ _ | refine blk_drew ?_ | refine blk_alloc ?_ _)); refine blk_put (cs := #[.slice none 0 0]) ?_ 0 _ rfl; (with_reducible repeat (first | refine blk_drewN ?_ _ | refine blk_drew ?_ | refine blk_alloc ?_ _)); exact BK215.out) hb); have n4_ := Aside0.mk (below_step (by repeat (first | (with_reducible first | exact HB.out | apply below_alloc | apply pw_below_drewN | apply below_drew1 | refine below_set ?_ GE211.out | refine below_set ?_ GE215.out) | exact HB.out)) hb); clear HO214; clear BK211; clear BK215; clear HB; have HO214 := n0_; have HO219 := n1_; have BK211 := n2_; have BK215 := n3_; have HB := n4_; clear n0_ n1_ n2_ n3_ n4_; (try clear hb); (try clear hb2); (try clear hk); (try clear hi); (try clear ho0); obtain ⟨Ao17, co17, eo17⟩ := Kd.R_slice HO219.out; subst eo17))
   go_loopg [27] k (fun kq v27 w' => ∃ (x27_1 : Int) (x216000_1 : List (S34)) (u216000 : Value), v27 = .int .i64 x27_1 ∧ Aside0 (impl_ParseTable.l0 kq a0 t212 t217 (t217.length : Int) x27_1 x216000_1 = some (r1, r2)) ∧ Aside0 (kq ≤ k) ∧ Aside0 (Kd.R Kd.string 9 w' w.heap.size (fun k_ => some k_ ≠ ((.slice Ao17 t217.length co17) : Value).ownBlock) (.slice (some ad216) t212.length co12) t212) ∧ Aside0 (Kd.R Kd.string 9 w' w.heap.size (fun k_ => some k_ ≠ ((.slice (some ad216) t212.length co12) : Value).ownBlock) (.slice Ao17 t217.length co17) t217) ∧ Aside0 (Kd.S k34 34 w' w.heap.size (fun _ => True) u216000 x216000_1) ∧ Aside0 (w'.heap[gb211]? = some (.cells #[(.slice none 0 0)] 24 (0, 0))) ∧ Aside0 (w'.heap[gb215]? = some (.cells #[u216000] 24 (0, 0))) ∧ Aside0 (Below w.heap.size w w'))
   case atStart => exact ⟨(0), (([] : List (S34))), (.slice none 0 0), (by first | rfl | (simp; done) | (simp [*]; done)), H', ⟨Nat.le_refl _⟩, ⟨by (with_reducible repeat (first | apply Kd.R_alloc | apply Kd.R_drewN | apply Kd.R_drew)); exact Kd.R_mono HO214.out (fun _ hk => hk.2)⟩, ⟨by (with_reducible repeat (first | apply Kd.R_alloc | apply Kd.R_drewN | apply Kd.R_drew)); exact Kd.R_mono HO219.out (fun _ hk => hk.2)⟩, ⟨by first | exact Kd.S_nil _ _ _ _ _ | exact Kd.N_nil _ _ _ _ _ | exact Kd.V_nil _ _ _ _ _ | exact Kd.Q_nil _ _ _ _ _ | exact Kd.R_nil _ _ _ _ _⟩, ⟨by (with_reducible repeat (first | refine blk_drewN ?_ _ | refine blk_drew ?_ | refine blk_alloc ?_ _)); exact BK211.out⟩, ⟨by (with_reducible repeat (first | refine blk_drewN ?_ _ | refine blk_drew ?_ | refine blk_alloc ?_ _)); exact BK215.out⟩, ⟨by repeat (first | (with_reducible first | exact HB.out | apply below_alloc | apply pw_below_drewN | apply below_drew1 | refine below_set ?_ GE211.out | refine below_set ?_ GE215.out) | exact HB.out)⟩⟩
   case round =>
    clear H'
    try clear c1
    try clear p2
    try clear q2
    try clear hx2
    try clear qi2
    try clear c3
    try clear c3b0
    try clear c3b1
    try clear c5
    try clear c8
    try clear c8b0
    try clear c8b1
    try clear c13
    try clear c14
    try clear hcz15_0
    try clear hcz7_0
    try clear hfz15_0
    try clear hfz7_0
    try clear hx216_0
    try clear p216
    try clear q216
    obtain ⟨x27_1, x216000_1, u216000, rfl, HA, HK1, HO_4, HO_25, HO_216000, BK211, BK215, HB⟩ := hrel
    cases gk with
    | zero => exact absurd HA.out (by simp [impl_ParseTable.l0])
    | succ k1 =>
     have H := HA.out
     clear HA
     simp only [impl_ParseTable.l0] at H
     by_cases c18 : x27_1 < (t217.length : Int)
     ·rw [if_pos c18] at H
      have c18b0 : decide (x27_1 < (t217.length : Int)) = true := decide_eq_true c18
      clear c18
      by_cases c19 : 0 ≤ x27_1
      ·rw [if_pos c19] at H
       have c19b0 : decide (0 ≤ x27_1) = true := decide_eq_true c19
       clear c19
       by_cases c20 : x27_1 < (t217.length : Int)
       ·rw [if_pos c20] at H
        have c20b0 : decide (x27_1 < (t217.length : Int)) = true := decide_eq_true c20
        clear c20
        by_cases c21 : x216000_1.length < 3518437208883
        ·rw [if_pos c21] at H
         have LMc21 := Aside0.mk c21
         clear c21
         obtain ⟨y221, hy221⟩ : ∃ y_ : List (S34), y_ = (x216000_1 ++ [(⟨rdOf ByteArray.empty t217 x27_1, ([] : List Int)⟩ : S34)]) := ⟨_, rfl⟩
         replace H : (impl_ParseTable.l0 k1 a0 t212 t217 (t217.length : Int) (wrap64 (x27_1 + 1)) y221) = some (r1, r2) := by first | (rw [hy221]; with_reducible exact H) | (have H2_ := (Option.bind_some _ _).symm.trans H; rw [hy221]; with_reducible exact H2_) | (have H2_ := (Option.bind_some _ _).symm.trans H; with_reducible exact H2_) | with_reducible exact H | (rw [hy221]; exact H) | exact H
         have Ny221 := Aside0.mk hy221
         clear hy221
         have H' := Aside0.mk H
         clear H
         have p220 : 0 ≤ (x27_1 : Int) := of_decide_eq_true (by first | (with_reducible assumption) | assumption)
         have q220 : x27_1 < (t217.length : Int) := of_decide_eq_true (by first | (with_reducible assumption) | assumption)
         obtain ⟨ad220, e220, hx220_0⟩ := Kd.at_string (Kd.R_reads' HO_25.out).2.2 x27_1 p220 q220
         cases e220
         replace p220 := eq_true p220
         replace q220 := eq_true q220
         have hnb22 := NB215_211.out
         have hnc22 := NB211_215.out
         have hcz23_0 : wr.cell? ⟨gb215, 0, none⟩ = some (u216000) := (blk_cell BK215.out 0).trans rfl
         have hfz23_0 := blk_frozen BK215.out 0
         go_wp2_with (first | ((with_reducible refine gate_builtin (b := .append) (xs := #[.tmp 32, .tmp 35]) rfl ?_); at_builtin; refine Kd.S_append k34 (w0 := w) w.heap.size rfl (.tmp 32) (.tmp 35) 22 34 (.agg #[(.string ⟨#[]⟩), (.slice none 0 0)]) 40 rfl Tryd.underlying22 info34 rfl (by decide) (by omega) u216000 x216000_1 (⟨rdOf ByteArray.empty t217 x27_1, ([] : List Int)⟩ : S34) [.string (rdOf ByteArray.empty t217 x27_1), .slice none 0 0] (fun _ => True) (fun _ => False) rfl rfl ?aP (fun k_ hk_ => hk_.elim) ?aF ?aO ?aB ?aS ?aL ?_; (case aP => exact k34_mkM _ _ _ (⟨rdOf ByteArray.empty t217 x27_1, ([] : List Int)⟩ : S34) (Kd.R_nil _ _ _ _ _)); (case aB => exact (by repeat (first | (with_reducible first | exact HB.out | apply below_alloc | apply pw_below_drewN | apply below_drew1 | refine below_set ?_ GE211.out | refine below_set ?_ GE215.out) | exact HB.out))); (case aF => exact (fun _ _ => trivial)); (case aO => exact (by (with_reducible repeat (first | apply Kd.S_alloc | apply Kd.S_drewN | apply Kd.S_drew)); exact Kd.S_mono HO_216000.out (fun k_ hk => ⟨trivial, fun e_ => e_⟩))); (case aS => exact (below_size (by repeat (first | (with_reducible first | exact HB.out | apply below_alloc | apply pw_below_drewN | apply below_drew1 | refine below_set ?_ GE211.out | refine below_set ?_ GE215.out) | exact HB.out)))); (case aL => have := LMc21.out; omega); intro v222 w24 ho hb hg hat; rw [← Ny221.out] at ho; have n0_ := Aside0.mk (Kd.R_over' (by (with_reducible repeat (first | apply Kd.R_alloc | apply Kd.R_drewN | apply Kd.R_drew)); exact HO_4.out) (Kd.S_typed (by (with_reducible repeat (first | apply Kd.S_alloc | apply Kd.S_drewN | apply Kd.S_drew)); exact HO_216000.out)) (by decide) hg); have n1_ := Aside0.mk (Kd.R_over' (by (with_reducible repeat (first | apply Kd.R_alloc | apply Kd.R_drewN | apply Kd.R_drew)); exact HO_25.out) (Kd.S_typed (by (with_reducible repeat (first | apply Kd.S_alloc | apply Kd.S_drewN | apply Kd.S_drew)); exact HO_216000.out)) (by decide) hg); have n2_ := Aside0.mk (blk_grown (g := gb211) (o := .cells #[.slice none 0 0] 24 (0, 0)) (by (with_reducible repeat (first | refine blk_drewN ?_ _ | refine blk_drew ?_ | refine blk_alloc ?_ _)); exact BK211.out) hg (Kd.S_ne HO_216000.out BK211.out (by decide))); have n3_ := Aside0.mk (blk_grown (g := gb215) (o := .cells #[u216000] 24 (0, 0)) (by (with_reducible repeat (first | refine blk_drewN ?_ _ | refine blk_drew ?_ | refine blk_alloc ?_ _)); exact BK215.out) hg (Kd.S_ne HO_216000.out BK215.out (by decide))); have n4_ := Aside0.mk (hb); have n5_ := Aside0.mk (ho); clear HO_4; clear HO_25; clear BK211; clear BK215; clear HB; clear HO_216000; have HO_4 := n0_; have HO_25 := n1_; have BK211 := n2_; have BK215 := n3_; have HB := n4_; have HO223 := n5_; clear n0_ n1_ n2_ n3_ n4_ n5_; clear ho hb hg hat; obtain ⟨Ao25, co25, eo25⟩ := Kd.S_slice HO223.out; subst eo25; have hcz26_0 : w24.cell? ⟨gb215, 0, none⟩ = some (u216000) := (blk_cell BK215.out 0).trans rfl; have hfz26_0 := blk_frozen BK215.out 0))
         go_roundg k1
         case measure => have := HK1.out; omega
         case rel => exact ⟨(wrap64 (x27_1 + 1)), (y221), (.slice Ao25 y221.length co25), (by first | rfl | (simp; done) | (simp [*]; done)), H', ⟨by have := HK1.out; omega⟩, ⟨by (with_reducible repeat (first | apply Kd.R_alloc | apply Kd.R_drewN | apply Kd.R_drew)); exact Kd.R_mono (Kd.R_far (p := ⟨gb215, 0, none⟩) (Kd.R_types HO_4.out BK215.out (by decide)) (fun _ hk => hk.2) (.slice Ao25 y221.length co25)) (fun _ hk => hk.1)⟩, ⟨by (with_reducible repeat (first | apply Kd.R_alloc | apply Kd.R_drewN | apply Kd.R_drew)); exact Kd.R_mono (Kd.R_far (p := ⟨gb215, 0, none⟩) (Kd.R_types HO_25.out BK215.out (by decide)) (fun _ hk => hk.2) (.slice Ao25 y221.length co25)) (fun _ hk => hk.1)⟩, ⟨by (with_reducible repeat (first | apply Kd.S_alloc | apply Kd.S_drewN | apply Kd.S_drew)); exact Kd.S_mono (Kd.S_far (p := ⟨gb215, 0, none⟩) (Kd.S_types HO223.out BK215.out (by decide)) (fun _ hk => hk.2) (.slice Ao25 y221.length co25)) (fun _ hk => trivial)⟩, ⟨by (with_reducible repeat (first | refine blk_drewN ?_ _ | refine blk_drew ?_ | refine blk_alloc ?_ _)); refine blk_far ?_ NB211_215.out _; (with_reducible repeat (first | refine blk_drewN ?_ _ | refine blk_drew ?_ | refine blk_alloc ?_ _)); exact BK211.out⟩, ⟨by (with_reducible repeat (first | refine blk_drewN ?_ _ | refine blk_drew ?_ | refine blk_alloc ?_ _)); refine blk_put (cs := #[u216000]) ?_ 0 _ rfl; (with_reducible repeat (first | refine blk_drewN ?_ _ | refine blk_drew ?_ | refine blk_alloc ?_ _)); exact BK215.out⟩, ⟨by repeat (first | (with_reducible first | exact HB.out | apply below_alloc | apply pw_below_drewN | apply below_drew1 | refine below_set ?_ GE211.out | refine below_set ?_ GE215.out) | exact HB.out)⟩⟩
        ·rw [if_neg c21] at H
         exact absurd H (by simp)
       ·rw [if_neg c20] at H
        exact absurd H (by simp)
      ·rw [if_neg c19] at H
       exact absurd H (by simp)
     ·rw [if_neg c18] at H
      have c18b0 : decide (x27_1 < (t217.length : Int)) = false := decide_eq_false c18
      clear c18
      obtain ⟨ji27, hji27⟩ : ∃ j_ : Int, (mx 1 (wrap64 ((t212.length : Int) - 1))) = j_ := ⟨_, rfl⟩
      replace H : (if 1 ≤ (ji27) then (if (ji27) ≤ (t212.length : Int) then ((some ((t212.take ((ji27) : Int).toNat).drop 1 : List ByteArray)).bind fun y224 => (impl_ParseTable.l1 k1 a0 y224 (y224.length : Int) 0 x216000_1)) else (none)) else (none)) = some (r1, r2) := by first | (rw [hji27] at H; exact H) | (simp only [hji27] at H ⊢; exact H)
      have hji27_ : (if 1 < (wrap64 ((t212.length : Int) - 1)) then (wrap64 ((t212.length : Int) - 1)) else 1) = ji27 := hji27
      by_cases c28 : 1 ≤ (ji27)
      ·rw [if_pos c28] at H
       have c28b0 := eq_true c28
       have c28b1 : decide (1 ≤ (ji27)) = true := decide_eq_true c28
       clear c28
       by_cases c29 : (ji27) ≤ (t212.length : Int)
       ·rw [if_pos c29] at H
        have c29b0 := eq_true c29
        have c29b1 : decide ((ji27) ≤ (t212.length : Int)) = true := decide_eq_true c29
        clear c29
        obtain ⟨y224, hy224⟩ : ∃ y_ : List ByteArray, y_ = ((t212.take ((ji27) : Int).toNat).drop 1) := ⟨_, rfl⟩
        replace H : (impl_ParseTable.l1 k1 a0 y224 (y224.length : Int) 0 x216000_1) = some (r1, r2) := by first | (rw [hy224]; with_reducible exact H) | (have H2_ := (Option.bind_some _ _).symm.trans H; rw [hy224]; with_reducible exact H2_) | (have H2_ := (Option.bind_some _ _).symm.trans H; with_reducible exact H2_) | with_reducible exact H | (rw [hy224]; exact H) | exact H
        have Ny224 := Aside0.mk hy224
        clear hy224
        have H' := Aside0.mk H
        clear H
        have q30 : ((ji27) : Int) ≤ ((t212.length : Int) : Int) := of_decide_eq_true (by first | (with_reducible assumption) | assumption)
        obtain ⟨i030, hi030, _, hsz30, _⟩ := info_parts info9
        have hroom30 : t212.length ≤ co12 := (Kd.R_reads' HO_4.out).2.1
        have hC30 : Kd.C Kd.string _ (some ad216) t212.length t212 := (Kd.R_reads' HO_4.out).2.2
        have ql30 : (1 : Int) ≤ ((ji27) : Int) := of_decide_eq_true (by first | (with_reducible assumption) | assumption)
        have hcut30 := cut_mid (P := Tryd.prog) 30 9 .i64 .i64 Tryd.underlying30 hi030 1 hsz30 (some ad216) t212.length co12 1 (ji27) (by omega) ql30 q30 hroom30
        have hr30 := Kd.C_mid (lo := (1 : Int).toNat) (hi := ((ji27) : Int).toNat) (c := co12) hC30 (by omega) (by omega) hroom30
        obtain ⟨A30, hA30⟩ : ∃ A1, A1 = (if co12 = (1 : Int).toNat then (some ad216) else ((some ad216) : Option Addr).map (·.add ((1 : Int).toNat * 1))) := ⟨_, rfl⟩
        obtain ⟨c30, hc30⟩ : ∃ c1, c1 = co12 - (1 : Int).toNat := ⟨_, rfl⟩
        have hy30 : y224.length = ((ji27) : Int).toNat - (1 : Int).toNat := (by rw [Ny224.out, List.length_drop, List.length_take] <;> omega)
        rw [show ((t212).take ((ji27) : Int).toNat).drop (1 : Int).toNat = y224 from Ny224.out.symm] at hr30
        replace hr30 : Kd.C Kd.string _ A30 y224.length y224 := (by rw [hA30]; exact hr30)
        have HCM_ : ∀ W : World, Kd.C Kd.string W (some ad216) t212.length t212 → Kd.C Kd.string W A30 y224.length y224 := by
          intro W hW_
          have hr30 := Kd.C_mid (lo := (1 : Int).toNat) (hi := ((ji27) : Int).toNat) (c := co12) hW_ (by omega) (by omega) hroom30
          rw [show ((t212).take ((ji27) : Int).toNat).drop (1 : Int).toNat = y224 from Ny224.out.symm] at hr30
          rw [hA30]; exact hr30
        replace HCM_ := Aside0.mk HCM_
        rw [← hy30, ← hA30, ← hc30] at hcut30
        have HR227 := Aside0.mk hr30
        have HC227 := Aside0.mk (show y224.length ≤ c30 from by rw [hy30, hc30]; exact Nat.sub_le_sub_right (Nat.le_trans (by omega) hroom30) _)
        clear hr30 hC30 hroom30 hi030 hsz30 hc30
        have KY30 := Aside0.mk hy30
        have KA30 := Aside0.mk hA30
        clear hy30 hA30
        have KL30 := Aside0.mk (show ((ji27) : Int).toNat ≤ t212.length from by omega)
        have KM30 := Aside0.mk (show 1 ≤ ((ji27) : Int).toNat from by omega)
        replace q30 := eq_true q30
        go_wp2
        go_loopg [46] k1 (fun kq v46 w' => ∃ (x46_2 : Int) (x216000_2 : List (S34)) (u216000 : Value), v46 = .int .i64 x46_2 ∧ Aside0 (impl_ParseTable.l1 kq a0 y224 (y224.length : Int) x46_2 x216000_2 = some (r1, r2)) ∧ Aside0 (kq ≤ k1) ∧ Aside0 (Kd.R Kd.string 9 w' w.heap.size (fun _ => True) (.slice (some ad216) t212.length co12) t212) ∧ Aside0 (Kd.S k34 34 w' w.heap.size (fun _ => True) u216000 x216000_2) ∧ Aside0 (w'.heap[gb211]? = some (.cells #[(.slice none 0 0)] 24 (0, 0))) ∧ Aside0 (w'.heap[gb215]? = some (.cells #[u216000] 24 (0, 0))) ∧ Aside0 (Below w.heap.size w w'))
        case atStart => exact ⟨(0), (x216000_1), (u216000), (by first | rfl | (simp; done) | (simp [*]; done)), H', ⟨Nat.le_refl _⟩, ⟨(by (with_reducible repeat (first | apply Kd.R_alloc | apply Kd.R_drewN | apply Kd.R_drew)); exact Kd.R_mono HO_4.out (fun _ _ => trivial))⟩, ⟨by (with_reducible repeat (first | apply Kd.S_alloc | apply Kd.S_drewN | apply Kd.S_drew)); exact HO_216000.out⟩, ⟨by (with_reducible repeat (first | refine blk_drewN ?_ _ | refine blk_drew ?_ | refine blk_alloc ?_ _)); exact BK211.out⟩, ⟨by (with_reducible repeat (first | refine blk_drewN ?_ _ | refine blk_drew ?_ | refine blk_alloc ?_ _)); exact BK215.out⟩, ⟨by repeat (first | (with_reducible first | exact HB.out | apply below_alloc | apply pw_below_drewN | apply below_drew1 | refine below_set ?_ GE211.out | refine below_set ?_ GE215.out) | exact HB.out)⟩⟩
        case round =>
         clear H'
         try clear c1
         try clear c2
         try clear p2
         try clear q2
         try clear hx2
         try clear qi2
         try clear c3
         try clear c3b0
         try clear c3b1
         try clear q3
         try clear c5
         try clear p6
         try clear c8
         try clear c8b0
         try clear c8b1
         try clear c13
         try clear c14
         try clear c18
         try clear c18b0
         try clear c19
         try clear c19b0
         try clear c20
         try clear c20b0
         try clear c21
         try clear p21
         try clear q21
         try clear hx21
         try clear qi21
         try clear c22
         try clear p22
         try clear q22
         try clear hx22
         try clear c28
         try clear c28b0
         try clear c28b1
         try clear c29
         try clear c29b0
         try clear c29b1
         try clear c30
         try clear q30
         try clear hcz15_0
         try clear hcz23_0
         try clear hcz26_0
         try clear hcz7_0
         try clear hfz15_0
         try clear hfz23_0
         try clear hfz26_0
         try clear hfz7_0
         try clear hx216_0
         try clear hx220_0
         try clear p2
         try clear p216
         try clear p220
         try clear q2
         try clear q216
         try clear q220
         try clear q30
         obtain ⟨x46_2, x216000_2, u216000, rfl, HA, HK2, HX_4, HO_216000, BK211, BK215, HB⟩ := hrel
         cases gk with
         | zero => exact absurd HA.out (by simp [impl_ParseTable.l1])
         | succ k2 =>
          have H := HA.out
          clear HA
          simp only [impl_ParseTable.l1] at H
          by_cases c31 : x46_2 < (y224.length : Int)
          ·rw [if_pos c31] at H
           have c31b0 : decide (x46_2 < (y224.length : Int)) = true := decide_eq_true c31
           clear c31
           by_cases c32 : 0 ≤ x46_2
           ·rw [if_pos c32] at H
            have c32b0 : decide (0 ≤ x46_2) = true := decide_eq_true c32
            clear c32
            by_cases c33 : x46_2 < (y224.length : Int)
            ·rw [if_pos c33] at H
             have c33b0 : decide (x46_2 < (y224.length : Int)) = true := decide_eq_true c33
             clear c33
             replace H := Option.bind_eq_some_iff.mp H
             obtain ⟨t230, A340, H⟩ := H
             replace H : (if (t230.length : Int) = (x216000_2.length : Int) then (impl_ParseTable.l2 k2 a0 y224 (y224.length : Int) x46_2 t230 (t230.length : Int) 0 x216000_2) else (some (([] : List (S34)), false))) = some (r1, r2) := H
             have A34 := Aside0.mk A340
             clear A340
             by_cases c35 : (t230.length : Int) = (x216000_2.length : Int)
             ·rw [if_pos c35] at H
              have c35b0 : ((t230.length : Int) == (x216000_2.length : Int)) = true := beq_iff_eq.mpr c35
              have c35b1 : ((t230.length : Int) != (x216000_2.length : Int)) = false := bne_eq_false_iff_eq.mpr c35
              have c35b2 : (t230.length == x216000_2.length) = true := by first | simpa using c35 | (simp at c35 ⊢; omega)
              clear c35
              have H' := Aside0.mk H
              clear H
              have p229 : 0 ≤ (x46_2 : Int) := of_decide_eq_true (by first | (with_reducible assumption) | assumption)
              have q229 : x46_2 < (y224.length : Int) := of_decide_eq_true (by first | (with_reducible assumption) | assumption)
              obtain ⟨ad229, e229, hx229_0⟩ := Kd.at_string (HCM_.out _ (Kd.R_reads' HX_4.out).2.2) x46_2 p229 q229
              cases e229
              replace p229 := eq_true p229
              replace q229 := eq_true q229
              go_wp2_with (first | ((with_reducible refine gate_callee (f := 13) rfl ?_); refine goesL_ (some 51) rfl rfl Tryd.func13 (by kernel_rfl) rfl #[.string (rdOf ByteArray.empty y224 x46_2), .string (⟨#[32]⟩ : ByteArray)] rfl (by (try simp only [List.map_toArray, List.map_cons, List.map_nil]); first | done | rfl | (simp only [List.length_drop, List.length_take]; rfl)) ?_; (with_reducible refine (strings_Split.calls (rdOf ByteArray.empty y224 x46_2) (⟨#[32]⟩ : ByteArray) t230 _ ?side1 A34.out).mono ?_); (case side1 => exact ⟨TabOk.step TB0.out (by repeat (first | (with_reducible first | exact HB.out | apply below_alloc | apply pw_below_drewN | apply below_drew1 | refine below_set ?_ GE211.out | refine below_set ?_ GE215.out) | exact HB.out))⟩); rintro e w36 ⟨v231, rfl, ho0, hb⟩; refine ⟨_, rfl, ?_⟩; replace HX_4 := Aside0.mk (Kd.R_below (by (with_reducible repeat (first | apply Kd.R_alloc | apply Kd.R_drewN | apply Kd.R_drew)); exact HX_4.out) hb); have n0_ := Aside0.mk (Kd.S_below (by (with_reducible repeat (first | apply Kd.S_alloc | apply Kd.S_drewN | apply Kd.S_drew)); exact HO_216000.out) hb); have n1_ := Aside0.mk (Kd.R_lower ho0 (below_size (by repeat (first | (with_reducible first | exact HB.out | apply below_alloc | apply pw_below_drewN | apply below_drew1 | refine below_set ?_ GE211.out | refine below_set ?_ GE215.out) | exact HB.out)))); have n2_ := Aside0.mk (blk_below (g := gb211) (o := .cells #[.slice none 0 0] 24 (0, 0)) (by (with_reducible repeat (first | refine blk_drewN ?_ _ | refine blk_drew ?_ | refine blk_alloc ?_ _)); exact BK211.out) hb); have n3_ := Aside0.mk (blk_below (g := gb215) (o := .cells #[u216000] 24 (0, 0)) (by (with_reducible repeat (first | refine blk_drewN ?_ _ | refine blk_drew ?_ | refine blk_alloc ?_ _)); exact BK215.out) hb); have n4_ := Aside0.mk (below_step (by repeat (first | (with_reducible first | exact HB.out | apply below_alloc | apply pw_below_drewN | apply below_drew1 | refine below_set ?_ GE211.out | refine below_set ?_ GE215.out) | exact HB.out)) hb); clear HO_216000; clear BK211; clear BK215; clear HB; have HO_216000 := n0_; have HO232 := n1_; have BK211 := n2_; have BK215 := n3_; have HB := n4_; clear n0_ n1_ n2_ n3_ n4_; (try clear hb); (try clear hb2); (try clear hk); (try clear hi); (try clear ho0); obtain ⟨Ao37, co37, eo37⟩ := Kd.R_slice HO232.out; subst eo37; have hnb38 := NB215_211.out; have hnc38 := NB211_215.out; have hcz39_0 : w36.cell? ⟨gb215, 0, none⟩ = some (u216000) := (blk_cell BK215.out 0).trans rfl; have hfz39_0 := blk_frozen BK215.out 0; obtain ⟨Ao40, co40, eo40⟩ := Kd.S_slice HO_216000.out; subst eo40))
              go_loopg [61] k2 (fun kq v61 w' => ∃ (x61_3 : Int) (x216000_3 : List (S34)) (u216000 : Value), v61 = .int .i64 x61_3 ∧ Aside0 (impl_ParseTable.l2 kq a0 y224 (y224.length : Int) x46_2 t230 (t230.length : Int) x61_3 x216000_3 = some (r1, r2)) ∧ Aside0 (kq ≤ k2) ∧ Aside0 (Kd.R Kd.string 9 w' w.heap.size (fun _ => True) (.slice (some ad216) t212.length co12) t212) ∧ Aside0 (Kd.R Kd.string 9 w' w.heap.size (fun _ => True) (.slice Ao37 t230.length co37) t230) ∧ Aside0 (Kd.S k34 34 w' w.heap.size (fun _ => True) u216000 x216000_3) ∧ Aside0 (w'.heap[gb211]? = some (.cells #[(.slice none 0 0)] 24 (0, 0))) ∧ Aside0 (w'.heap[gb215]? = some (.cells #[u216000] 24 (0, 0))) ∧ Aside0 (Below w.heap.size w w'))
              case atStart => exact ⟨(0), (x216000_2), (.slice Ao40 x216000_2.length co40), (by first | rfl | (simp; done) | (simp [*]; done)), H', ⟨Nat.le_refl _⟩, ⟨(by (with_reducible repeat (first | apply Kd.R_alloc | apply Kd.R_drewN | apply Kd.R_drew)); exact HX_4.out)⟩, ⟨by (with_reducible repeat (first | apply Kd.R_alloc | apply Kd.R_drewN | apply Kd.R_drew)); exact HO232.out⟩, ⟨by (with_reducible repeat (first | apply Kd.S_alloc | apply Kd.S_drewN | apply Kd.S_drew)); exact HO_216000.out⟩, ⟨by (with_reducible repeat (first | refine blk_drewN ?_ _ | refine blk_drew ?_ | refine blk_alloc ?_ _)); exact BK211.out⟩, ⟨by (with_reducible repeat (first | refine blk_drewN ?_ _ | refine blk_drew ?_ | refine blk_alloc ?_ _)); exact BK215.out⟩, ⟨by repeat (first | (with_reducible first | exact HB.out | apply below_alloc | apply pw_below_drewN | apply below_drew1 | refine below_set ?_ GE211.out | refine below_set ?_ GE215.out) | exact HB.out)⟩⟩
              case round =>
               clear H'
               try clear c1
               try clear c2
               try clear p2
               try clear q2
               try clear hx2
               try clear qi2
               try clear c3
               try clear c3b0
               try clear c3b1
               try clear q3
               try clear c5
               try clear p6
               try clear c8
               try clear c8b0
               try clear c8b1
               try clear c13
               try clear c14
               try clear c18
               try clear c18b0
               try clear c19
               try clear c19b0
               try clear c20
               try clear c20b0
               try clear c21
               try clear p21
               try clear q21
               try clear hx21
               try clear qi21
               try clear c22
               try clear p22
               try clear q22
               try clear hx22
               try clear c28
               try clear c28b0
               try clear c28b1
               try clear c29
               try clear c29b0
               try clear c29b1
               try clear c30
               try clear q30
               try clear c31
               try clear c31b0
               try clear c32
               try clear c32b0
               try clear c33
               try clear c33b0
               try clear c35
               try clear c35b0
               try clear c35b1
               try clear c35b2
               try clear c38
               try clear hcz15_0
               try clear hcz23_0
               try clear hcz26_0
               try clear hcz39_0
               try clear hcz7_0
               try clear hfz15_0
               try clear hfz23_0
               try clear hfz26_0
               try clear hfz39_0
               try clear hfz7_0
               try clear hx216_0
               try clear hx220_0
               try clear hx229_0
               try clear p2
               try clear p21
               try clear p216
               try clear p22
               try clear p220
               try clear p229
               try clear p6
               try clear q2
               try clear q21
               try clear q216
               try clear q22
               try clear q220
               try clear q229
               try clear q3
               try clear q30
               obtain ⟨x61_3, x216000_3, u216000, rfl, HA, HK3, HX_4, HO_59, HO_216000, BK211, BK215, HB⟩ := hrel
               cases gk with
               | zero => exact absurd HA.out (by simp [impl_ParseTable.l2])
               | succ k3 =>
                have H := HA.out
                clear HA
                simp only [impl_ParseTable.l2] at H
                by_cases c41 : x61_3 < (t230.length : Int)
                ·rw [if_pos c41] at H
                 have c41b0 : decide (x61_3 < (t230.length : Int)) = true := decide_eq_true c41
                 clear c41
                 by_cases c42 : 0 ≤ x61_3
                 ·rw [if_pos c42] at H
                  have c42b0 : decide (0 ≤ x61_3) = true := decide_eq_true c42
                  clear c42
                  by_cases c43 : x61_3 < (t230.length : Int)
                  ·rw [if_pos c43] at H
                   have c43b0 : decide (x61_3 < (t230.length : Int)) = true := decide_eq_true c43
                   clear c43
                   replace H := Option.bind_eq_some_iff.mp H
                   obtain ⟨⟨t234, t235⟩, A440, H⟩ := H
                   replace H : (if x61_3 < (x216000_3.length : Int) then (if ((rd_T34 x216000_3 x61_3).f1).length < 17592186044416 then (impl_ParseTable.l2 k3 a0 y224 (y224.length : Int) x46_2 t230 (t230.length : Int) (wrap64 (x61_3 + 1)) (x216000_3.set (x61_3 : Int).toNat (⟨(rd_T34 x216000_3 x61_3).f0, (((rd_T34 x216000_3 x61_3).f1) ++ [t234])⟩ : S34))) else (none)) else (none)) = some (r1, r2) := H
                   have A44 := Aside0.mk A440
                   clear A440
                   by_cases c45 : x61_3 < (x216000_3.length : Int)
                   ·rw [if_pos c45] at H
                    have c45b0 : decide (x61_3 < (x216000_3.length : Int)) = true := decide_eq_true c45
                    clear c45
                    by_cases c46 : ((rd_T34 x216000_3 x61_3).f1).length < 17592186044416
                    ·rw [if_pos c46] at H
                     have LMc46 := Aside0.mk c46
                     clear c46
                     obtain ⟨y237, hy237⟩ : ∃ y_ : List Int, y_ = (((rd_T34 x216000_3 x61_3).f1) ++ [t234]) := ⟨_, rfl⟩
                     replace H : (impl_ParseTable.l2 k3 a0 y224 (y224.length : Int) x46_2 t230 (t230.length : Int) (wrap64 (x61_3 + 1)) (x216000_3.set (x61_3 : Int).toNat (⟨(rd_T34 x216000_3 x61_3).f0, y237⟩ : S34))) = some (r1, r2) := by first | (rw [hy237]; with_reducible exact H) | (have H2_ := (Option.bind_some _ _).symm.trans H; rw [hy237]; with_reducible exact H2_) | (have H2_ := (Option.bind_some _ _).symm.trans H; with_reducible exact H2_) | with_reducible exact H | (rw [hy237]; exact H) | exact H
                     have Ny237 := Aside0.mk hy237
                     clear hy237
                     obtain ⟨y240, hy240⟩ : ∃ y_ : List (S34), y_ = (x216000_3.set (x61_3 : Int).toNat (⟨(rd_T34 x216000_3 x61_3).f0, y237⟩ : S34)) := ⟨_, rfl⟩
                     replace H : (impl_ParseTable.l2 k3 a0 y224 (y224.length : Int) x46_2 t230 (t230.length : Int) (wrap64 (x61_3 + 1)) y240) = some (r1, r2) := by first | (rw [hy240]; with_reducible exact H) | (have H2_ := (Option.bind_some _ _).symm.trans H; rw [hy240]; with_reducible exact H2_) | (have H2_ := (Option.bind_some _ _).symm.trans H; with_reducible exact H2_) | with_reducible exact H | (rw [hy240]; exact H) | exact H
                     have Ny240 := Aside0.mk hy240
                     clear hy240
                     have H' := Aside0.mk H
                     clear H
                     have p233 : 0 ≤ (x61_3 : Int) := of_decide_eq_true (by first | (with_reducible assumption) | assumption)
                     have q233 : x61_3 < (t230.length : Int) := of_decide_eq_true (by first | (with_reducible assumption) | assumption)
                     obtain ⟨ad233, e233, hx233_0⟩ := Kd.at_string (Kd.R_reads' HO_59.out).2.2 x61_3 p233 q233
                     cases e233
                     replace p233 := eq_true p233
                     replace q233 := eq_true q233
                     try go_wp2_with (first | ((with_reducible refine gate_callee (f := 14) rfl ?_); refine goesL_ (some 68) rfl rfl Tryd.func14 (by kernel_rfl) rfl #[.string (rdOf ByteArray.empty t230 x61_3)] rfl (by (try simp only [List.map_toArray, List.map_cons, List.map_nil]); first | done | rfl | (simp only [List.length_drop, List.length_take]; rfl)) ?_; (with_reducible refine (impl_ParseInt.calls (rdOf ByteArray.empty t230 x61_3) t234 t235 _ ?side1 A44.out).mono ?_); (case side1 => exact ⟨TabOk.step TB0.out (by repeat (first | (with_reducible first | exact HB.out | apply below_alloc | apply pw_below_drewN | apply below_drew1 | refine below_set ?_ GE211.out | refine below_set ?_ GE215.out) | exact HB.out))⟩); rintro e w48 ⟨rfl, hb⟩; refine ⟨_, rfl, ?_⟩; replace HX_4 := Aside0.mk (Kd.R_below (by (with_reducible repeat (first | apply Kd.R_alloc | apply Kd.R_drewN | apply Kd.R_drew)); exact HX_4.out) hb); have n0_ := Aside0.mk (Kd.R_below (by (with_reducible repeat (first | apply Kd.R_alloc | apply Kd.R_drewN | apply Kd.R_drew)); exact HO_59.out) hb); have n1_ := Aside0.mk (Kd.S_below (by (with_reducible repeat (first | apply Kd.S_alloc | apply Kd.S_drewN | apply Kd.S_drew)); exact HO_216000.out) hb); have n2_ := Aside0.mk (blk_below (g := gb211) (o := .cells #[.slice none 0 0] 24 (0, 0)) (by (with_reducible repeat (first | refine blk_drewN ?_ _ | refine blk_drew ?_ | refine blk_alloc ?_ _)); exact BK211.out) hb); have n3_ := Aside0.mk (blk_below (g := gb215) (o := .cells #[u216000] 24 (0, 0)) (by (with_reducible repeat (first | refine blk_drewN ?_ _ | refine blk_drew ?_ | refine blk_alloc ?_ _)); exact BK215.out) hb); have n4_ := Aside0.mk (below_step (by repeat (first | (with_reducible first | exact HB.out | apply below_alloc | apply pw_below_drewN | apply below_drew1 | refine below_set ?_ GE211.out | refine below_set ?_ GE215.out) | exact HB.out)) hb); clear HO_59; clear HO_216000; clear BK211; clear BK215; clear HB; have HO_59 := n0_; have HO_216000 := n1_; have BK211 := n2_; have BK215 := n3_; have HB := n4_; clear n0_ n1_ n2_ n3_ n4_; (try clear hb); (try clear hb2); (try clear hk); (try clear hi)))
                     replace HX_4 := Aside0.mk (Kd.R_drew HX_4.out)
                     have n0_ := Aside0.mk (Kd.R_drew HO_59.out)
                     have n1_ := Aside0.mk (Kd.S_drew HO_216000.out)
                     have n2_ := Aside0.mk (blk_drew BK211.out)
                     have n3_ := Aside0.mk (blk_drew BK215.out)
                     have n4_ := Aside0.mk (below_drew1 HB.out)
                     clear HO_59
                     clear HO_216000
                     clear BK211
                     clear BK215
                     clear HB
                     have HO_59 := n0_
                     have HO_216000 := n1_
                     have BK211 := n2_
                     have BK215 := n3_
                     have HB := n4_
                     clear n0_ n1_ n2_ n3_ n4_
                     obtain ⟨Ao50, co50, eo50⟩ := Kd.S_slice HO_216000.out
                     (first | subst eo50 | (injection eo50 with f1_ f2_ f3_; have f4_ := f1_.symm; have f5_ := f3_.symm; clear f1_ f2_ f3_; subst f4_; subst f5_))
                     have p236 : 0 ≤ (x61_3 : Int) := of_decide_eq_true (by first | (with_reducible assumption) | assumption)
                     have q236 : x61_3 < (x216000_3.length : Int) := of_decide_eq_true (by first | (with_reducible assumption) | assumption)
                     obtain ⟨ad236, A236_1, c236_1, e236, hx236_0, hx236_1, hl236_1, hi236_1⟩ := at_T34 (Kd.S_reads' HO_216000.out).2.2 x61_3 p236 q236
                     cases e236
                     obtain ⟨ce236, hce236, hMe236, hcc236⟩ := Kd.S_get HO_216000.out z34 x61_3 p236 (by first | exact q236 | exact of_decide_eq_true (by first | (with_reducible assumption) | assumption) | (have e_ := (Kd.S_reads' HO_216000.out).1; omega))
                     obtain ⟨ve236_1, rfl, ge236_1⟩ := k34_openM hMe236
                     have hv236_1 := hcc236 1 _ rfl
                     rw [add_field _ _ 1 (by omega)] at hv236_1
                     replace hv236_1 := Option.some.inj (hv236_1.symm.trans hx236_1)
                     rw [hv236_1] at ge236_1
                     have HL236_1 := Aside0.mk (show Kd.R (Kd.int .i64) 3 _ _ _ _ ((rd_T34 x216000_3 x61_3).f1) from ge236_1)
                     clear hv236_1 ge236_1
                     have HX236_1 := Aside0.mk hx236_1
                     clear hcc236 hce236
                     have HR236_1 := Aside0.mk hi236_1
                     have HC236_1 := Aside0.mk hl236_1
                     clear hi236_1 hl236_1
                     replace p236 := eq_true p236
                     replace q236 := eq_true q236
                     obtain ⟨go51, co51, eo51, gb51, gl51, cl51, HG51⟩ := Kd.S_form HO_216000.out (by have h_ : (x61_3 : Int) < ((x216000_3.length : Int) : Int) := of_decide_eq_true (by first | (with_reducible assumption) | assumption); have h2_ : 0 ≤ (x61_3 : Int) := (of_decide_eq_true (by first | (with_reducible assumption) | assumption)); omega)
                     (first | cases eo51 | (injection eo51 with ea_ en_ ec_; (first | subst ea_ | (injection ea_ with ea_; subst ea_)); subst ec_; clear en_))
                     have GB51 := Aside0.mk gb51
                     have GG51 := Aside0.mk HG51
                     clear gb51 gl51 HG51
                     (first | simp only [add_plain] at hx236_0 | skip)
                     (first | simp only [add_plain] at hx236_1 | skip)
                     obtain ⟨oki51, ce51, hcl51, hM51, hcc51, _, _, hH51⟩ := Kd.S_elem HO_216000.out z34 (x61_3 : Int) (of_decide_eq_true (by first | (with_reducible assumption) | assumption)) (by have h_ : (x61_3 : Int) < ((x216000_3.length : Int) : Int) := of_decide_eq_true (by first | (with_reducible assumption) | assumption); first | exact h_ | (have e_ := (Kd.S_reads' HO_216000.out).1; omega) | simpa using h_)
                     obtain ⟨ve51_1, rfl, ge51_1⟩ := k34_openM hM51
                     have hv51 := hcc51 1 _ rfl
                     have hX51 := HX236_1.out
                     (try simp only [add_plain] at hX51)
                     (try simp only [Nat.add_zero] at hv51)
                     replace hv51 := Option.some.inj (hv51.symm.trans hX51)
                     subst hv51
                     clear hX51 hcc51 hcl51
                     have UU51 := Aside0.mk (show Kd.R (Kd.int .i64) 3 _ w.heap.size oki51 (.slice A236_1 ((rd_T34 x216000_3 x61_3).f1).length c236_1) ((rd_T34 x216000_3 x61_3).f1) from ge51_1)
                     have HH51 := Aside0.mk hH51
                     have HN51 := Aside0.mk (Kd.S_reads' HO_216000.out).1
                     clear hH51 ge51_1
                     refine start_ (n := 15) (S := fun w' => w'.cell? ⟨gb215, 0, none⟩ = some (.slice (some ⟨go51, 0, none⟩) x216000_3.length co50) ∧ w'.cell? ⟨go51, ((x61_3).toNat * 2), none⟩ = some (.string ((rd_T34 x216000_3 x61_3).f0)) ∧ w'.cell? ⟨go51, ((x61_3).toNat * 2) + 1, none⟩ = some (.slice A236_1 ((rd_T34 x216000_3 x61_3).f1).length c236_1)) (ds := [14]) #[F_, F_, F_, F_, F_, F_, F_, F_, F_, F_, F_, F_, F_, F_, F_] (by kernel_rfl) rfl rfl ⟨(blk_cell BK215.out 0).trans rfl, hx236_0, hx236_1⟩ (fun hHeld => ?_); refine with_tabW impl_ParseTable.tab20 impl_ParseTable.bits20 (fun HT_ HW_ => ?_)
                     generalize w48.drew = w49 at HX_4 HO_59 HO_216000 BK211 BK215 HB GG51 HH51 HL236_1 HR236_1 HX236_1 UU51 hx236_0 hx236_1 hHeld ⊢
                     refine pure_ (i := 0) (N := some 71) (v := ?_) (a' := ?_) #[T_, F_, F_, F_, F_, F_, F_, F_, F_, F_, F_, F_, F_, F_, F_] rfl rfl (any_of HT_.out (by kernel_rfl)) (fun _ _ _ h => h) (Or.inl ⟨by rfl, ?_⟩) ?_ ?_
                     rotate_left
                     ·intro w'
                      go_simp
                      with_reducible rfl
                     rotate_left
                     ·simp only [Act.put, List.setIfInBounds_toArray, List.set_cons_zero, List.set_cons_succ, i64_w, i32_w]
                      rfl
                     refine pure_ (i := 2) (N := some 73) (v := ?_) (a' := ?_) #[T_, F_, T_, F_, F_, F_, F_, F_, F_, F_, F_, F_, F_, F_, F_] rfl rfl (any_of HT_.out (by kernel_rfl)) (fun _ _ _ h => h) (Or.inl ⟨by rfl, ?_⟩) ?_ ?_
                     rotate_left
                     ·intro w'
                      go_simp
                      with_reducible rfl
                     rotate_left
                     ·simp only [Act.put, List.setIfInBounds_toArray, List.set_cons_zero, List.set_cons_succ, i64_w, i32_w]
                      rfl
                     refine pure_ (i := 3) (N := some 74) (v := ?_) (a' := ?_) #[T_, F_, T_, T_, F_, F_, F_, F_, F_, F_, F_, F_, F_, F_, F_] rfl rfl (any_of HT_.out (by kernel_rfl)) (fun _ _ _ h => h) (Or.inl ⟨by rfl, ?_⟩) ?_ ?_
                     rotate_left
                     ·intro w'
                      go_simp
                      with_reducible rfl
                     rotate_left
                     ·simp only [Act.put, List.setIfInBounds_toArray, List.set_cons_zero, List.set_cons_succ, i64_w, i32_w]
                      rfl
                     refine pure_ (i := 5) (N := some 76) (v := ?_) (a' := ?_) #[T_, F_, T_, T_, F_, T_, F_, F_, F_, F_, F_, F_, F_, F_, F_] rfl rfl (any_of HT_.out (by kernel_rfl)) (fun _ _ _ h => h) (Or.inl ⟨by rfl, ?_⟩) ?_ ?_
                     rotate_left
                     ·intro w'
                      go_simp
                      with_reducible rfl
                     rotate_left
                     ·simp only [Act.put, List.setIfInBounds_toArray, List.set_cons_zero, List.set_cons_succ, i64_w, i32_w]
                      rfl
                     refine pure_ (i := 9) (N := some 80) (v := ?_) (a' := ?_) #[T_, F_, T_, T_, F_, T_, F_, F_, F_, T_, F_, F_, F_, F_, F_] rfl rfl (any_of HT_.out (by kernel_rfl)) (fun _ _ _ h => h) (Or.inl ⟨by rfl, ?_⟩) ?_ ?_
                     rotate_left
                     ·intro w'
                      go_simp
                      with_reducible rfl
                     rotate_left
                     ·simp only [Act.put, List.setIfInBounds_toArray, List.set_cons_zero, List.set_cons_succ, i64_w, i32_w]
                      rfl
                     refine take_ (i := 1) (N := some 72) (v := ?_) (a' := ?_) #[T_, T_, T_, T_, F_, T_, F_, F_, F_, T_, F_, F_, F_, F_, F_] rfl rfl (take_ofW HT_.out HW_.out (by kernel_rfl)) (fun _ _ _ h => h) (Or.inl ⟨by rfl, ?_⟩) hHeld ?_ ?_
                     rotate_left
                     ·rintro w' ⟨s0, s1, s2⟩
                      go_simp
                      with_reducible rfl
                     rotate_left
                     ·simp only [Act.put, List.setIfInBounds_toArray, List.set_cons_zero, List.set_cons_succ, i64_w, i32_w]
                      rfl
                     refine take_ (i := 4) (N := some 75) (v := ?_) (a' := ?_) #[T_, T_, T_, T_, T_, T_, F_, F_, F_, T_, F_, F_, F_, F_, F_] rfl rfl (take_ofW HT_.out HW_.out (by kernel_rfl)) (fun _ _ _ h => h) (Or.inl ⟨by rfl, ?_⟩) hHeld ?_ ?_
                     rotate_left
                     ·rintro w' ⟨s0, s1, s2⟩
                      go_simp
                      with_reducible rfl
                     rotate_left
                     ·simp only [Act.put, List.setIfInBounds_toArray, List.set_cons_zero, List.set_cons_succ, i64_w, i32_w]
                      rfl
                     refine pure_ (i := 6) (N := some 77) (v := ?_) (a' := ?_) #[T_, T_, T_, T_, T_, T_, T_, F_, F_, T_, F_, F_, F_, F_, F_] rfl rfl (any_of HT_.out (by kernel_rfl)) (fun _ _ _ h => h) (Or.inl ⟨by rfl, ?_⟩) ?_ ?_
                     rotate_left
                     ·intro w'
                      go_simp
                      with_reducible rfl
                     rotate_left
                     ·simp only [Act.put, List.setIfInBounds_toArray, List.set_cons_zero, List.set_cons_succ, i64_w, i32_w]
                      rfl
                     refine pure_ (i := 7) (N := some 78) (v := ?_) (a' := ?_) #[T_, T_, T_, T_, T_, T_, T_, T_, F_, T_, F_, F_, F_, F_, F_] rfl rfl (any_of HT_.out (by kernel_rfl)) (fun _ _ _ h => h) (Or.inl ⟨by rfl, ?_⟩) ?_ ?_
                     rotate_left
                     ·intro w'
                      go_simp
                      with_reducible rfl
                     rotate_left
                     ·simp only [Act.put, List.setIfInBounds_toArray, List.set_cons_zero, List.set_cons_succ, i64_w, i32_w]
                      rfl
                     refine take_ (i := 8) (N := some 79) (v := ?_) (a' := ?_) #[T_, T_, T_, T_, T_, T_, T_, T_, T_, T_, F_, F_, F_, F_, F_] rfl rfl (take_ofW HT_.out HW_.out (by kernel_rfl)) (fun _ _ _ h => h) (Or.inl ⟨by rfl, ?_⟩) hHeld ?_ ?_
                     rotate_left
                     ·rintro w' ⟨s0, s1, s2⟩
                      go_simp
                      with_reducible rfl
                     rotate_left
                     ·simp only [Act.put, List.setIfInBounds_toArray, List.set_cons_zero, List.set_cons_succ, i64_w, i32_w]
                      rfl
                     refine one_ (i := 10) (N := some 81) #[T_, T_, T_, T_, T_, T_, T_, T_, T_, T_, T_, F_, F_, F_, F_] rfl rfl (one_of HT_.out (by kernel_rfl)) (by decide) (fun K hK => ?_)
                     refine value_ (w1 := ?_) (v := ?_) (by rfl) rfl ?_ ?_
                     rotate_left 2
                     ·go_simp
                      constructor
                      ·rfl
                      ·rfl
                     refine hK.out _ _ ⟨(blk_cell (blk_alloc BK215.out _) 0).trans rfl, (World.cell?_alloc_lt _ _ _ (World.block_lt_of_cell? _ _ (hHeld.2.1))).trans (hHeld.2.1), (World.cell?_alloc_lt _ _ _ (World.block_lt_of_cell? _ _ (hHeld.2.2))).trans (hHeld.2.2)⟩ (fun hHeld => ?_)
                     clear hK K
                     refine norm_ (a' := ?_) ?_ ?_
                     rotate_left
                     ·show Act.put _ (some 81) _ = _
                      simp only [Act.put, List.setIfInBounds_toArray, List.set_cons_zero, List.set_cons_succ, i64_w, i32_w]
                      rfl
                     refine one_ (i := 11) (N := some 82) #[T_, T_, T_, T_, T_, T_, T_, T_, T_, T_, T_, T_, F_, F_, F_] rfl rfl (one_of HT_.out (by kernel_rfl)) (by decide) (fun K hK => ?_)
                     refine Kd.R_append_step (Kd.int .i64) (w0 := w) w.heap.size (by rfl) (.tmp 79) (.tmp 81) 32 3 (.int .i64 0) 8 rfl Tryd.underlying32 info3 rfl (by decide) (by omega) (.slice A236_1 ((rd_T34 x216000_3 x61_3).f1).length c236_1) ((rd_T34 x216000_3 x61_3).f1) t234 [.int .i64 t234] (fun k_ => oki51 k_ ∨ ((fun _ => True)) k_ ∧ w49.heap.size ≤ k_) (fun _ => False) rfl rfl ?aP (fun _ hk => hk.elim) ?aF ?aO ?aB ?aS ?aL ?_
                     (case aP => exact rfl)
                     (case aB => exact (by repeat (first | (with_reducible first | exact HB.out | apply below_alloc | apply pw_below_drewN | apply below_drew1 | refine below_set ?_ GE211.out | refine below_set ?_ GE215.out) | exact HB.out)))
                     (case aF => exact (fun k_ hk => .inr ⟨trivial, hk⟩))
                     (case aO => exact (by (with_reducible repeat (first | apply Kd.R_alloc | apply Kd.R_drewN | apply Kd.R_drew)); exact Kd.R_mono UU51.out (fun _ hk => .inl hk)))
                     (case aS => exact (below_size (by repeat (first | (with_reducible first | exact HB.out | apply below_alloc | apply pw_below_drewN | apply below_drew1 | refine below_set ?_ GE211.out | refine below_set ?_ GE215.out) | exact HB.out))))
                     (case aL => have := LMc46.out; omega)
                     intro v238 w52 ho hb hg hat
                     (first | have HS1_ := cell_grown hg (hHeld.2.1) (by first | (rw [add_block]; exact (fun e_ => ((HL236_1.out.1 _ e_.symm).2) rfl)) | (show some (Addr.add _ _).block ≠ _; rw [add_block]; exact (fun e_ => ((HL236_1.out.1 _ e_.symm).2) rfl)) | exact (fun e_ => ((HL236_1.out.1 _ e_.symm).2) rfl)) | have HS1_ := cell_grown hg (cell_unalloc (hHeld.2.1) (by first | (rw [add_block]; exact Kd.S_lt HO_216000.out _ rfl) | (show (Addr.add _ _).block < _; rw [add_block]; exact Kd.S_lt HO_216000.out _ rfl) | exact Kd.S_lt HO_216000.out _ rfl)) (by first | (rw [add_block]; exact (fun e_ => ((HL236_1.out.1 _ e_.symm).2) rfl)) | (show some (Addr.add _ _).block ≠ _; rw [add_block]; exact (fun e_ => ((HL236_1.out.1 _ e_.symm).2) rfl)) | exact (fun e_ => ((HL236_1.out.1 _ e_.symm).2) rfl)))
                     (first | have HS2_ := cell_grown hg (hHeld.2.2) (by first | (rw [add_block]; exact (fun e_ => ((HL236_1.out.1 _ e_.symm).2) rfl)) | (show some (Addr.add _ _).block ≠ _; rw [add_block]; exact (fun e_ => ((HL236_1.out.1 _ e_.symm).2) rfl)) | exact (fun e_ => ((HL236_1.out.1 _ e_.symm).2) rfl)) | have HS2_ := cell_grown hg (cell_unalloc (hHeld.2.2) (by first | (rw [add_block]; exact Kd.S_lt HO_216000.out _ rfl) | (show (Addr.add _ _).block < _; rw [add_block]; exact Kd.S_lt HO_216000.out _ rfl) | exact Kd.S_lt HO_216000.out _ rfl)) (by first | (rw [add_block]; exact (fun e_ => ((HL236_1.out.1 _ e_.symm).2) rfl)) | (show some (Addr.add _ _).block ≠ _; rw [add_block]; exact (fun e_ => ((HL236_1.out.1 _ e_.symm).2) rfl)) | exact (fun e_ => ((HL236_1.out.1 _ e_.symm).2) rfl)))
                     rw [← Ny237.out] at ho
                     replace HX_4 := Aside0.mk (Kd.R_over' (v := (.slice A236_1 ((rd_T34 x216000_3 x61_3).f1).length c236_1)) (by (with_reducible repeat (first | apply Kd.R_alloc | apply Kd.R_drewN | apply Kd.R_drew)); exact HX_4.out) (Kd.R_typed HL236_1.out) (by decide) hg)
                     have n0_ := Aside0.mk (Kd.R_over' (v := (.slice A236_1 ((rd_T34 x216000_3 x61_3).f1).length c236_1)) (by (with_reducible repeat (first | apply Kd.R_alloc | apply Kd.R_drewN | apply Kd.R_drew)); exact HO_59.out) (Kd.R_typed HL236_1.out) (by decide) hg)
                     have n1_ := Aside0.mk (blk_grown (g := gb211) (o := .cells #[.slice none 0 0] 24 (0, 0)) (by (with_reducible repeat (first | refine blk_drewN ?_ _ | refine blk_drew ?_ | refine blk_alloc ?_ _)); exact BK211.out) hg (Kd.R_ne HL236_1.out BK211.out (by decide)))
                     have n2_ := Aside0.mk (blk_grown (g := gb215) (o := .cells #[.slice (some ⟨go51, 0, none⟩) x216000_3.length co50] 24 (0, 0)) (by (with_reducible repeat (first | refine blk_drewN ?_ _ | refine blk_drew ?_ | refine blk_alloc ?_ _)); exact BK215.out) hg (Kd.R_ne HL236_1.out BK215.out (by decide)))
                     have n3_ := Aside0.mk (hb)
                     have n4_ := Aside0.mk (Kd.H_grown (Kd.H_widen (by repeat (first | exact HH51.out | refine Kd.H_alloc ?_ _ | refine Kd.H_drewN ?_ _ | refine Kd.H_drew ?_))) hg (fun k_ e_ => .inl (UU51.out.1 k_ e_)))
                     have n5_ := Aside0.mk (ho)
                     clear HO_59
                     clear BK211
                     clear BK215
                     clear HB
                     clear HH51
                     clear HO_216000
                     clear UU51
                     clear HL236_1
                     have HO_59 := n0_
                     have BK211 := n1_
                     have BK215 := n2_
                     have HB := n3_
                     have HH51 := n4_
                     have HO239 := n5_
                     clear n0_ n1_ n2_ n3_ n4_ n5_
                     clear ho hb hg hat
                     have p47 : 0 ≤ (x61_3 : Int) := of_decide_eq_true (by first | (with_reducible assumption) | assumption)
                     have q47 : (x61_3 : Int) < ((x216000_3.length : Int) : Int) := of_decide_eq_true (by first | (with_reducible assumption) | assumption)
                     replace p47 := eq_true p47
                     replace q47 := eq_true q47
                     obtain ⟨Ao55, co55, eo55⟩ := Kd.R_slice HO239.out
                     (first | subst eo55 | (injection eo55 with f1_ f2_ f3_; have f4_ := f1_.symm; have f5_ := f3_.symm; clear f1_ f2_ f3_; subst f4_; subst f5_))
                     obtain ⟨_, _, hraw53, _, _, hcc53, _⟩ := Kd.H_raw HH51.out (of_decide_eq_true (by first | (with_reducible assumption) | assumption)) (by have h_ : (x61_3 : Int) < ((x216000_3.length : Int) : Int) := of_decide_eq_true (by first | (with_reducible assumption) | assumption); first | exact h_ | (have e_ := (HN51.out); omega) | simpa using h_)
                     obtain ⟨_, hfr53⟩ := Kd.H_at HH51.out (of_decide_eq_true (by first | (with_reducible assumption) | assumption)) (by have h_ : (x61_3 : Int) < ((x216000_3.length : Int) : Int) := of_decide_eq_true (by first | (with_reducible assumption) | assumption); first | exact h_ | (have e_ := (HN51.out); omega) | simpa using h_)
                     have hx53_0 := hcc53 1 _ rfl
                     have hf53_0 := hfr53 1
                     (try rw [show (k34).sz = 2 from rfl] at hx53_0)
                     (try rw [show (k34).sz = 2 from rfl] at hf53_0)
                     have HP53 := Kd.S_seg0 HH51.out (of_decide_eq_true (by first | (with_reducible assumption) | assumption)) (by have h_ : (x61_3 : Int) < ((x216000_3.length : Int) : Int) := of_decide_eq_true (by first | (with_reducible assumption) | assumption); first | exact h_ | (have e_ := (HN51.out); omega) | simpa using h_) (seg := [.slice Ao55 y237.length co55]) (j := 1) (show 2 ≤ 2 from by decide) (x' := (⟨(rd_T34 x216000_3 x61_3).f0, y237⟩ : S34)) (k34_mkM _ _ _ (⟨(rd_T34 x216000_3 x61_3).f0, y237⟩ : S34) HO239.out) (fun _ hk => hk)
                     clear hcc53 hfr53
                     have HNB211_go51 := Aside0.mk (show gb211 ≠ go51 from by have h_ := Kd.R_ne hraw53 BK211.out (by decide); intro e_; exact h_ (by rw [e_]; rfl))
                     have HNB215_go51 := Aside0.mk (show gb215 ≠ go51 from by have h_ := Kd.R_ne hraw53 BK215.out (by decide); intro e_; exact h_ (by rw [e_]; rfl))
                     have HS53 := HP53.1
                     rw [← Ny240.out] at HS53
                     have HQ53 := Aside0.mk HS53
                     obtain ⟨_, hgg53⟩ := Kd.R_typed hraw53 go51 rfl
                     have GG53_ := Aside0.mk hgg53
                     clear HP53 HS53 hgg53
                     refine hK.out _ _ ⟨(blk_cell BK215.out 0).trans rfl, HS1_, HS2_⟩ (fun hHeld => ?_)
                     clear hK K
                     refine norm_ (a' := ?_) ?_ ?_
                     rotate_left
                     ·show Act.put _ (some 82) _ = _
                      simp only [Act.put, List.setIfInBounds_toArray, List.set_cons_zero, List.set_cons_succ, i64_w, i32_w]
                      rfl
                     refine pure_ (i := 12) (N := some 83) (v := ?_) (a' := ?_) #[T_, T_, T_, T_, T_, T_, T_, T_, T_, T_, T_, T_, T_, F_, F_] rfl rfl (any_of HT_.out (by kernel_rfl)) (fun _ _ _ h => h) (Or.inl ⟨by rfl, ?_⟩) ?_ ?_
                     rotate_left
                     ·intro w'
                      go_simp
                      with_reducible rfl
                     rotate_left
                     ·simp only [Act.put, List.setIfInBounds_toArray, List.set_cons_zero, List.set_cons_succ, i64_w, i32_w]
                      rfl
                     refine pure_ (i := 13) (N := some 84) (v := ?_) (a' := ?_) #[T_, T_, T_, T_, T_, T_, T_, T_, T_, T_, T_, T_, T_, T_, F_] rfl rfl (any_of HT_.out (by kernel_rfl)) (fun _ _ _ h => h) (Or.inl ⟨by rfl, ?_⟩) ?_ ?_
                     rotate_left
                     ·intro w'
                      go_simp
                      with_reducible rfl
                     rotate_left
                     ·simp only [Act.put, List.setIfInBounds_toArray, List.set_cons_zero, List.set_cons_succ, i64_w, i32_w]
                      rfl
                     refine last_ (i := 14) (N := none) #[T_, T_, T_, T_, T_, T_, T_, T_, T_, T_, T_, T_, T_, T_, T_] rfl rfl (one_of HT_.out (by kernel_rfl)) (by decide) (fun K hK => ?_)
                     refine skip_ (w1 := ?_) (by rfl) rfl ?_ ?_
                     rotate_left
                     ·go_simp
                      rfl
                     refine hK.out _ _ ?_
                     clear hK K
                     refine done_ (done_of HT_.out (by kernel_rfl)) ?_
                     try go_wp2
                     go_roundg k3
                     case measure => have := HK1.out; have := HK2.out; have := HK3.out; omega
                     case rel => exact ⟨(wrap64 (x61_3 + 1)), (y240), (.slice (some ⟨go51, 0, none⟩) x216000_3.length co50), (by first | rfl | (simp; done) | (simp [*]; done)), H', ⟨by have := HK1.out; have := HK2.out; have := HK3.out; omega⟩, ⟨by (with_reducible repeat (first | apply Kd.R_alloc | apply Kd.R_drewN | apply Kd.R_drew)); exact Kd.R_mono (Kd.R_far (p := ⟨go51, (x61_3 : Int).toNat * 2 + 1, none⟩) (Kd.R_types HX_4.out GG53_.out (by decide)) (fun _ hk => hk.2) (.slice Ao55 y237.length co55)) (fun _ hk => trivial)⟩, ⟨by (with_reducible repeat (first | apply Kd.R_alloc | apply Kd.R_drewN | apply Kd.R_drew)); exact Kd.R_mono (Kd.R_far (p := ⟨go51, (x61_3 : Int).toNat * 2 + 1, none⟩) (Kd.R_types HO_59.out GG53_.out (by decide)) (fun _ hk => hk.2) (.slice Ao55 y237.length co55)) (fun _ hk => trivial)⟩, ⟨by (with_reducible repeat (first | apply Kd.S_alloc | apply Kd.S_drewN | apply Kd.S_drew)); exact HQ53.out⟩, ⟨by (with_reducible repeat (first | refine blk_drewN ?_ _ | refine blk_drew ?_ | refine blk_alloc ?_ _)); refine blk_far ?_ HNB211_go51.out _; (with_reducible repeat (first | refine blk_drewN ?_ _ | refine blk_drew ?_ | refine blk_alloc ?_ _)); exact BK211.out⟩, ⟨by (with_reducible repeat (first | refine blk_drewN ?_ _ | refine blk_drew ?_ | refine blk_alloc ?_ _)); refine blk_far ?_ HNB215_go51.out _; (with_reducible repeat (first | refine blk_drewN ?_ _ | refine blk_drew ?_ | refine blk_alloc ?_ _)); exact BK215.out⟩, ⟨by repeat (first | (with_reducible first | exact HB.out | apply below_alloc | apply pw_below_drewN | apply below_drew1 | refine below_set ?_ GB51.out | refine below_set ?_ GE211.out | refine below_set ?_ GE215.out) | exact HB.out)⟩⟩
                    ·rw [if_neg c46] at H
                     exact absurd H (by simp)
                   ·rw [if_neg c45] at H
                    exact absurd H (by simp)
                  ·rw [if_neg c43] at H
                   exact absurd H (by simp)
                 ·rw [if_neg c42] at H
                  exact absurd H (by simp)
                ·rw [if_neg c41] at H
                 have c41b0 : decide (x61_3 < (t230.length : Int)) = false := decide_eq_false c41
                 clear c41
                 have H' := Aside0.mk H
                 clear H
                 go_wp2
                 go_roundg k3
                 case measure => have := HK1.out; have := HK2.out; have := HK3.out; omega
                 case rel => exact ⟨(wrap64 (x46_2 + 1)), (x216000_3), (u216000), (by first | rfl | (simp; done) | (simp [*]; done)), H', ⟨by have := HK1.out; have := HK2.out; have := HK3.out; omega⟩, ⟨(by (with_reducible repeat (first | apply Kd.R_alloc | apply Kd.R_drewN | apply Kd.R_drew)); exact HX_4.out)⟩, ⟨by (with_reducible repeat (first | apply Kd.S_alloc | apply Kd.S_drewN | apply Kd.S_drew)); exact HO_216000.out⟩, ⟨by (with_reducible repeat (first | refine blk_drewN ?_ _ | refine blk_drew ?_ | refine blk_alloc ?_ _)); exact BK211.out⟩, ⟨by (with_reducible repeat (first | refine blk_drewN ?_ _ | refine blk_drew ?_ | refine blk_alloc ?_ _)); exact BK215.out⟩, ⟨by repeat (first | (with_reducible first | exact HB.out | apply below_alloc | apply pw_below_drewN | apply below_drew1 | refine below_set ?_ GE211.out | refine below_set ?_ GE215.out) | exact HB.out)⟩⟩
             ·rw [if_neg c35] at H
              have c35b0 : ((t230.length : Int) == (x216000_2.length : Int)) = false := beq_eq_false_iff_ne.mpr c35
              have c35b1 : ((t230.length : Int) != (x216000_2.length : Int)) = true := bne_iff_ne.mpr c35
              have c35b2 : (t230.length == x216000_2.length) = false := by first | simpa using c35 | (simp at c35 ⊢; omega)
              simp only [Option.some.injEq, Prod.mk.injEq] at H
              obtain ⟨rfl, rfl⟩ := H
              have p229 : 0 ≤ (x46_2 : Int) := of_decide_eq_true (by first | (with_reducible assumption) | assumption)
              have q229 : x46_2 < (y224.length : Int) := of_decide_eq_true (by first | (with_reducible assumption) | assumption)
              obtain ⟨ad229, e229, hx229_0⟩ := Kd.at_string (HCM_.out _ (Kd.R_reads' HX_4.out).2.2) x46_2 p229 q229
              cases e229
              replace p229 := eq_true p229
              replace q229 := eq_true q229
              go_wp2_with (first | ((with_reducible refine gate_callee (f := 13) rfl ?_); refine goesL_ (some 51) rfl rfl Tryd.func13 (by kernel_rfl) rfl #[.string (rdOf ByteArray.empty y224 x46_2), .string (⟨#[32]⟩ : ByteArray)] rfl (by (try simp only [List.map_toArray, List.map_cons, List.map_nil]); first | done | rfl | (simp only [List.length_drop, List.length_take]; rfl)) ?_; (with_reducible refine (strings_Split.calls (rdOf ByteArray.empty y224 x46_2) (⟨#[32]⟩ : ByteArray) t230 _ ?side1 A34.out).mono ?_); (case side1 => exact ⟨TabOk.step TB0.out (by repeat (first | (with_reducible first | exact HB.out | apply below_alloc | apply pw_below_drewN | apply below_drew1 | refine below_set ?_ GE211.out | refine below_set ?_ GE215.out) | exact HB.out))⟩); rintro e w56 ⟨v231, rfl, ho0, hb⟩; refine ⟨_, rfl, ?_⟩; replace HX_4 := Aside0.mk (Kd.R_below (by (with_reducible repeat (first | apply Kd.R_alloc | apply Kd.R_drewN | apply Kd.R_drew)); exact HX_4.out) hb); have n0_ := Aside0.mk (Kd.S_below (by (with_reducible repeat (first | apply Kd.S_alloc | apply Kd.S_drewN | apply Kd.S_drew)); exact HO_216000.out) hb); have n1_ := Aside0.mk (Kd.R_lower ho0 (below_size (by repeat (first | (with_reducible first | exact HB.out | apply below_alloc | apply pw_below_drewN | apply below_drew1 | refine below_set ?_ GE211.out | refine below_set ?_ GE215.out) | exact HB.out)))); have n2_ := Aside0.mk (blk_below (g := gb211) (o := .cells #[.slice none 0 0] 24 (0, 0)) (by (with_reducible repeat (first | refine blk_drewN ?_ _ | refine blk_drew ?_ | refine blk_alloc ?_ _)); exact BK211.out) hb); have n3_ := Aside0.mk (blk_below (g := gb215) (o := .cells #[u216000] 24 (0, 0)) (by (with_reducible repeat (first | refine blk_drewN ?_ _ | refine blk_drew ?_ | refine blk_alloc ?_ _)); exact BK215.out) hb); have n4_ := Aside0.mk (below_step (by repeat (first | (with_reducible first | exact HB.out | apply below_alloc | apply pw_below_drewN | apply below_drew1 | refine below_set ?_ GE211.out | refine below_set ?_ GE215.out) | exact HB.out)) hb); clear HO_216000; clear BK211; clear BK215; clear HB; have HO_216000 := n0_; have HO232 := n1_; have BK211 := n2_; have BK215 := n3_; have HB := n4_; clear n0_ n1_ n2_ n3_ n4_; (try clear hb); (try clear hb2); (try clear hk); (try clear hi); (try clear ho0); obtain ⟨Ao57, co57, eo57⟩ := Kd.R_slice HO232.out; subst eo57; have hnb58 := NB215_211.out; have hnc58 := NB211_215.out; have hcz59_0 : w56.cell? ⟨gb215, 0, none⟩ = some (u216000) := (blk_cell BK215.out 0).trans rfl; have hfz59_0 := blk_frozen BK215.out 0; obtain ⟨Ao60, co60, eo60⟩ := Kd.S_slice HO_216000.out; subst eo60; have hcz61_0 : w56.cell? ⟨gb211, 0, none⟩ = some (.slice none 0 0) := (blk_cell BK211.out 0).trans rfl; have hfz61_0 := blk_frozen BK211.out 0))
              refine bodyPost_ret (results_ct rfl _ _ gb211 24 #[.slice none 0 0] (0, 0) _ rfl (by (with_reducible repeat (first | refine blk_drewN ?_ _ | refine blk_drew ?_ | refine blk_alloc ?_ _)); refine blk_put (cs := #[.slice none 0 0]) ?_ 0 _ rfl; (with_reducible repeat (first | refine blk_drewN ?_ _ | refine blk_drew ?_ | refine blk_alloc ?_ _)); exact BK211.out) Tryd.underlying24 rfl (by kernel_rfl)) rfl ?_
              exact ⟨_, by first | rfl | (simp [errW_none, errW_some] <;> rfl) | (simp only [← hji27]; first | rfl | (simp [errW_none, errW_some] <;> rfl)) | (simp [*, errW_none, errW_some] <;> rfl), by first | exact Kd.S_nil _ _ _ _ _ | exact Kd.N_nil _ _ _ _ _ | exact Kd.V_nil _ _ _ _ _ | exact Kd.Q_nil _ _ _ _ _ | exact Kd.R_nil _ _ _ _ _, by repeat (first | (with_reducible first | exact HB.out | apply below_alloc | apply pw_below_drewN | apply below_drew1 | refine below_set ?_ GE211.out | refine below_set ?_ GE215.out) | exact HB.out)⟩
            ·rw [if_neg c33] at H
             exact absurd H (by simp)
           ·rw [if_neg c32] at H
            exact absurd H (by simp)
          ·rw [if_neg c31] at H
           have c31b0 : decide (x46_2 < (y224.length : Int)) = false := decide_eq_false c31
           clear c31
           by_cases c62 : a0.toList = ([] : List UInt8)
           ·rw [if_pos c62] at H
            have c62b0 : (a0.toList == ([] : List UInt8)) = true := beq_iff_eq.mpr c62
            have c62b1 : (a0.toList != ([] : List UInt8)) = false := bne_eq_false_iff_eq.mpr c62
            clear c62
            simp only [Option.some.injEq, Prod.mk.injEq] at H
            obtain ⟨rfl, rfl⟩ := H
            have hnb63 := NB211_215.out
            have hnc63 := NB215_211.out
            have hcz64_0 : wr.cell? ⟨gb211, 0, none⟩ = some (.slice none 0 0) := (blk_cell BK211.out 0).trans rfl
            have hfz64_0 := blk_frozen BK211.out 0
            go_wp2
            refine bodyPost_ret (results_ct rfl _ _ gb211 24 #[.slice none 0 0] (0, 0) _ rfl (by (with_reducible repeat (first | refine blk_drewN ?_ _ | refine blk_drew ?_ | refine blk_alloc ?_ _)); refine blk_put (cs := #[.slice none 0 0]) ?_ 0 _ rfl; (with_reducible repeat (first | refine blk_drewN ?_ _ | refine blk_drew ?_ | refine blk_alloc ?_ _)); exact BK211.out) Tryd.underlying24 rfl (by kernel_rfl)) rfl ?_
            exact ⟨_, by first | rfl | (simp [errW_none, errW_some] <;> rfl) | (simp only [← hji27]; first | rfl | (simp [errW_none, errW_some] <;> rfl)) | (simp [*, errW_none, errW_some] <;> rfl), by first | exact Kd.S_nil _ _ _ _ _ | exact Kd.N_nil _ _ _ _ _ | exact Kd.V_nil _ _ _ _ _ | exact Kd.Q_nil _ _ _ _ _ | exact Kd.R_nil _ _ _ _ _, by repeat (first | (with_reducible first | exact HB.out | apply below_alloc | apply pw_below_drewN | apply below_drew1 | refine below_set ?_ GE211.out | refine below_set ?_ GE215.out) | exact HB.out)⟩
           ·rw [if_neg c62] at H
            have c62b0 : (a0.toList == ([] : List UInt8)) = false := beq_eq_false_iff_ne.mpr c62
            have c62b1 : (a0.toList != ([] : List UInt8)) = true := bne_iff_ne.mpr c62
            replace H := Option.bind_eq_some_iff.mp H
            obtain ⟨t228, A650, H⟩ := H
            replace H : (if t228.toList = a0.toList then (some (x216000_2, true)) else (some (([] : List (S34)), false))) = some (r1, r2) := H
            have A65 := Aside0.mk A650
            clear A650
            by_cases c66 : t228.toList = a0.toList
            ·rw [if_pos c66] at H
             have c66b0 : (t228.toList == a0.toList) = true := beq_iff_eq.mpr c66
             have c66b1 : (t228.toList != a0.toList) = false := bne_eq_false_iff_eq.mpr c66
             clear c66
             simp only [Option.some.injEq, Prod.mk.injEq] at H
             obtain ⟨rfl, rfl⟩ := H
             have hnb67 := NB215_211.out
             have hnc67 := NB211_215.out
             have hcz68_0 : wr.cell? ⟨gb215, 0, none⟩ = some (u216000) := (blk_cell BK215.out 0).trans rfl
             have hfz68_0 := blk_frozen BK215.out 0
             obtain ⟨Ao69, co69, eo69⟩ := Kd.S_slice HO_216000.out
             subst eo69
             go_wp2_with (first | (go_at_call 15; (with_reducible refine (impl_FormatTable.calls k2 _ _ x216000_2 t228 _ ?side1 ?side2 ?side3 A65.out).mono ?_); (case side1 => repeat (first | exact (Kd.S_reads' HO_216000.out).2.2 | (with_reducible refine Kd.C_alloc ?_ _) | (with_reducible refine Kd.C_drewN ?_ _) | (with_reducible refine Kd.C_drew ?_))); (case side2 => exact (Kd.S_reads' HO_216000.out).2.1); (case side3 => exact ⟨TabOk.step TB0.out (by repeat (first | (with_reducible first | exact HB.out | apply below_alloc | apply pw_below_drewN | apply below_drew1 | refine below_set ?_ GE211.out | refine below_set ?_ GE215.out) | exact HB.out))⟩); rintro e w70 ⟨rfl, hb⟩; have n0_ := Aside0.mk (Kd.S_below (by (with_reducible repeat (first | apply Kd.S_alloc | apply Kd.S_drewN | apply Kd.S_drew)); exact HO_216000.out) hb); have n1_ := Aside0.mk (blk_below (g := gb211) (o := .cells #[.slice none 0 0] 24 (0, 0)) (by (with_reducible repeat (first | refine blk_drewN ?_ _ | refine blk_drew ?_ | refine blk_alloc ?_ _)); exact BK211.out) hb); have n2_ := Aside0.mk (blk_below (g := gb215) (o := .cells #[.slice Ao69 x216000_2.length co69] 24 (0, 0)) (by (with_reducible repeat (first | refine blk_drewN ?_ _ | refine blk_drew ?_ | refine blk_alloc ?_ _)); exact BK215.out) hb); have n3_ := Aside0.mk (below_step (by repeat (first | (with_reducible first | exact HB.out | apply below_alloc | apply pw_below_drewN | apply below_drew1 | refine below_set ?_ GE211.out | refine below_set ?_ GE215.out) | exact HB.out)) hb); clear HO_216000; clear BK211; clear BK215; clear HB; have HO_216000 := n0_; have BK211 := n1_; have BK215 := n2_; have HB := n3_; clear n0_ n1_ n2_ n3_; (try clear hb); (try clear hb2); (try clear hk); (try clear hi); have hcz71_0 : w70.cell? ⟨gb215, 0, none⟩ = some (.slice Ao69 x216000_2.length co69) := (blk_cell BK215.out 0).trans rfl; have hfz71_0 := blk_frozen BK215.out 0; have hcz72_0 : w70.cell? ⟨gb211, 0, none⟩ = some (.slice none 0 0) := (blk_cell BK211.out 0).trans rfl; have hfz72_0 := blk_frozen BK211.out 0))
             refine bodyPost_ret (results_ct rfl _ _ gb211 24 #[.slice Ao69 x216000_2.length co69] (0, 0) _ rfl (by (with_reducible repeat (first | refine blk_drewN ?_ _ | refine blk_drew ?_ | refine blk_alloc ?_ _)); refine blk_put (cs := #[.slice none 0 0]) ?_ 0 _ rfl; (with_reducible repeat (first | refine blk_drewN ?_ _ | refine blk_drew ?_ | refine blk_alloc ?_ _)); exact BK211.out) Tryd.underlying24 rfl (by kernel_rfl)) rfl ?_
             exact ⟨_, by first | rfl | (simp [errW_none, errW_some] <;> rfl) | (simp only [← hji27]; first | rfl | (simp [errW_none, errW_some] <;> rfl)) | (simp [*, errW_none, errW_some] <;> rfl), by (with_reducible repeat (first | apply Kd.S_alloc | apply Kd.S_drewN | apply Kd.S_drew)); exact Kd.S_mono (Kd.S_far (p := ⟨gb211, 0, none⟩) (Kd.S_types HO_216000.out BK211.out (by decide)) (fun _ hk => hk.2) (.slice Ao69 x216000_2.length co69)) (fun _ hk => trivial), by repeat (first | (with_reducible first | exact HB.out | apply below_alloc | apply pw_below_drewN | apply below_drew1 | refine below_set ?_ GE211.out | refine below_set ?_ GE215.out) | exact HB.out)⟩
            ·rw [if_neg c66] at H
             have c66b0 : (t228.toList == a0.toList) = false := beq_eq_false_iff_ne.mpr c66
             have c66b1 : (t228.toList != a0.toList) = true := bne_iff_ne.mpr c66
             simp only [Option.some.injEq, Prod.mk.injEq] at H
             obtain ⟨rfl, rfl⟩ := H
             have hnb73 := NB215_211.out
             have hnc73 := NB211_215.out
             have hcz74_0 : wr.cell? ⟨gb215, 0, none⟩ = some (u216000) := (blk_cell BK215.out 0).trans rfl
             have hfz74_0 := blk_frozen BK215.out 0
             obtain ⟨Ao75, co75, eo75⟩ := Kd.S_slice HO_216000.out
             subst eo75
             go_wp2_with (first | (go_at_call 15; (with_reducible refine (impl_FormatTable.calls k2 _ _ x216000_2 t228 _ ?side1 ?side2 ?side3 A65.out).mono ?_); (case side1 => repeat (first | exact (Kd.S_reads' HO_216000.out).2.2 | (with_reducible refine Kd.C_alloc ?_ _) | (with_reducible refine Kd.C_drewN ?_ _) | (with_reducible refine Kd.C_drew ?_))); (case side2 => exact (Kd.S_reads' HO_216000.out).2.1); (case side3 => exact ⟨TabOk.step TB0.out (by repeat (first | (with_reducible first | exact HB.out | apply below_alloc | apply pw_below_drewN | apply below_drew1 | refine below_set ?_ GE211.out | refine below_set ?_ GE215.out) | exact HB.out))⟩); rintro e w76 ⟨rfl, hb⟩; have n0_ := Aside0.mk (Kd.S_below (by (with_reducible repeat (first | apply Kd.S_alloc | apply Kd.S_drewN | apply Kd.S_drew)); exact HO_216000.out) hb); have n1_ := Aside0.mk (blk_below (g := gb211) (o := .cells #[.slice none 0 0] 24 (0, 0)) (by (with_reducible repeat (first | refine blk_drewN ?_ _ | refine blk_drew ?_ | refine blk_alloc ?_ _)); exact BK211.out) hb); have n2_ := Aside0.mk (blk_below (g := gb215) (o := .cells #[.slice Ao75 x216000_2.length co75] 24 (0, 0)) (by (with_reducible repeat (first | refine blk_drewN ?_ _ | refine blk_drew ?_ | refine blk_alloc ?_ _)); exact BK215.out) hb); have n3_ := Aside0.mk (below_step (by repeat (first | (with_reducible first | exact HB.out | apply below_alloc | apply pw_below_drewN | apply below_drew1 | refine below_set ?_ GE211.out | refine below_set ?_ GE215.out) | exact HB.out)) hb); clear HO_216000; clear BK211; clear BK215; clear HB; have HO_216000 := n0_; have BK211 := n1_; have BK215 := n2_; have HB := n3_; clear n0_ n1_ n2_ n3_; (try clear hb); (try clear hb2); (try clear hk); (try clear hi); have hcz77_0 : w76.cell? ⟨gb211, 0, none⟩ = some (.slice none 0 0) := (blk_cell BK211.out 0).trans rfl; have hfz77_0 := blk_frozen BK211.out 0))
             refine bodyPost_ret (results_ct rfl _ _ gb211 24 #[.slice none 0 0] (0, 0) _ rfl (by (with_reducible repeat (first | refine blk_drewN ?_ _ | refine blk_drew ?_ | refine blk_alloc ?_ _)); refine blk_put (cs := #[.slice none 0 0]) ?_ 0 _ rfl; (with_reducible repeat (first | refine blk_drewN ?_ _ | refine blk_drew ?_ | refine blk_alloc ?_ _)); exact BK211.out) Tryd.underlying24 rfl (by kernel_rfl)) rfl ?_
             exact ⟨_, by first | rfl | (simp [errW_none, errW_some] <;> rfl) | (simp only [← hji27]; first | rfl | (simp [errW_none, errW_some] <;> rfl)) | (simp [*, errW_none, errW_some] <;> rfl), by first | exact Kd.S_nil _ _ _ _ _ | exact Kd.N_nil _ _ _ _ _ | exact Kd.V_nil _ _ _ _ _ | exact Kd.Q_nil _ _ _ _ _ | exact Kd.R_nil _ _ _ _ _, by repeat (first | (with_reducible first | exact HB.out | apply below_alloc | apply pw_below_drewN | apply below_drew1 | refine below_set ?_ GE211.out | refine below_set ?_ GE215.out) | exact HB.out)⟩
       ·rw [if_neg c29] at H
        exact absurd H (by simp)
      ·rw [if_neg c28] at H
       exact absurd H (by simp)
  ·rw [if_neg c8] at H
   exact absurd H (by simp)

end Go.Proofs.YtfjanffppobheaaDoor.PFnExactParseTable
