-- printed by a program of this session, a turned copy of the print of the kit
import Derived.Test.YtlikcmonejefoaaSq
import Derived.Test.YtlikcmonejefoaaPFnPartitionsx0
import Derived.Test.YtlikcmonejefoaaPFnPartitionsx1
import Derived.Test.YtlikcmonejefoaaPFnPartitionsx4
import Derived.Test.YtlikcmonejefoaaPFnPartitionsx5
import Derived.Test.YtlikcmonejefoaaPFnPartitionsx6
import Derived.Test.YtlikcmonejefoaaPFnPartitionsx7
import Derived.Test.YtlikcmonejefoaaPFnPartitionsx8
namespace Go.Proofs.Ytlikcmonejefoaa.PFnPartitions
open Go.RowKit Go.Proofs.YtlikcmonejefoaaW.PrintWords Go.Proofs.YtlikcmonejefoaaW.PrintLast Go.Proofs.YtlikcmonejefoaaW.PrintMore Go.Proofs.Ytlikcmonejefoaa.Sq
attribute [local go_sem] max2_int min2_int max_two min_two max_three min_three max_four min_four Giv.cell_twice   -- for this text's walks alone
set_option linter.unusedVariables false
set_option linter.unusedSimpArgs false

attribute [local go_sem high] eqA50
/-! ### laws_FnPartitions: function 5 -/
mutual
def laws_FnPartitions.j0 : Nat → List Int → Int → Int → Int → List (S50) → Int → List (S50) → Bool → Option (Bool)
 | 0, _, _, _, _, _, _, _, _ => none
 | k + 1, x3, x4, x5, x6, x7, x8, x9, x52 => if x52 = true then (some false) else (if x4 < 0 then (laws_FnPartitions.j1 k x3 x4 x5 x6 x7 x8 x9 true) else (if x4 > x5 then (laws_FnPartitions.j1 k x3 x4 x5 x6 x7 x8 x9 true) else (laws_FnPartitions.j1 k x3 x4 x5 x6 x7 x8 x9 (decide (x5 > (x3.length : Int))))))
def laws_FnPartitions.j1 : Nat → List Int → Int → Int → Int → List (S50) → Int → List (S50) → Bool → Option (Bool)
 | 0, _, _, _, _, _, _, _, _ => none
 | k + 1, x3, x4, x5, x6, x7, x8, x9, x65 => if x65 = true then (if (x7.length : Int) = 0 then (some (x8 == 0)) else (some false)) else ((spec_NewCracker.f k x3).bind fun bt320 => ((impl_ApplySwaps.f k bt320.1 bt320.2.1 bt320.2.2 x7).bind fun bt330 => ((impl_UndoSwaps.f k bt330.1 bt330.2.1 bt330.2.2.1 x7).bind fun bt341 => (if (bt320.1.length : Int) = (x3.length : Int) then (if (bt330.1.length : Int) = (x3.length : Int) then (laws_FnPartitions.l0 k x4 x5 x6 x7 x8 x9 bt330.2.2.2 bt341.2.2.2 x4 bt320.1 bt320.2.1 bt320.2.2 bt330.1 bt330.2.1 bt330.2.2.1 bt341.1 bt341.2.1 bt341.2.2.1) else (some false)) else (some true)))))
def laws_FnPartitions.l0 : Nat → Int → Int → Int → List (S50) → Int → List (S50) → Bool → Bool → Int → List Int → List Int → List (S74) → List Int → List Int → List (S74) → List Int → List Int → List (S74) → Option (Bool)
 | 0, _, _, _, _, _, _, _, _, _, _, _, _, _, _, _, _, _, _ => none
 | k + 1, x4, x5, x6, x7, x8, x9, x13, x15, x16, x330000, x330001, x330002, x341000, x341001, x341002, x352000, x352001, x352002 => if x16 < x5 then (laws_FnPartitions.j3 k x4 x5 x6 x7 x8 x9 x13 x15 x16 x13 x330000 x330001 x330002 x341000 x341001 x341002 x352000 x352001 x352002) else (laws_FnPartitions.j3 k x4 x5 x6 x7 x8 x9 x13 x15 x16 false x330000 x330001 x330002 x341000 x341001 x341002 x352000 x352001 x352002)
def laws_FnPartitions.j3 : Nat → Int → Int → Int → List (S50) → Int → List (S50) → Bool → Bool → Int → Bool → List Int → List Int → List (S74) → List Int → List Int → List (S74) → List Int → List Int → List (S74) → Option (Bool)
 | 0, _, _, _, _, _, _, _, _, _, _, _, _, _, _, _, _, _, _, _ => none
 | k + 1, x4, x5, x6, x7, x8, x9, x13, x15, x16, x105, x330000, x330001, x330002, x341000, x341001, x341002, x352000, x352001, x352002 => if x105 = true then (if 0 ≤ x16 then (if x16 < (x341000.length : Int) then (if ((decide ((rd x341000 x16) < x6)) != (decide (x16 < x8))) = true then (some false) else (laws_FnPartitions.l0 k x4 x5 x6 x7 x8 x9 x13 x15 (wrap64 (x16 + 1)) x330000 x330001 x330002 x341000 x341001 x341002 x352000 x352001 x352002)) else (none)) else (none)) else (laws_FnPartitions.l1 k x4 x5 x7 x8 x9 x13 x15 0 x330000 x330001 x330002 x352000 x352001 x352002)
def laws_FnPartitions.l1 : Nat → Int → Int → List (S50) → Int → List (S50) → Bool → Bool → Int → List Int → List Int → List (S74) → List Int → List Int → List (S74) → Option (Bool)
 | 0, _, _, _, _, _, _, _, _, _, _, _, _, _, _ => none
 | k + 1, x4, x5, x7, x8, x9, x13, x15, x17, x330000, x330001, x330002, x352000, x352001, x352002 => if x17 < (x7.length : Int) then (if 0 ≤ x17 then (if x17 < (x9.length : Int) then (if (!(((rd_T50 x7 x17).f0) == ((rd_T50 x9 x17).f0)) || (!(((rd_T50 x7 x17).f1) == ((rd_T50 x9 x17).f1)))) = true then (some false) else (if ((rd_T50 x7 x17).f0) ≥ ((rd_T50 x7 x17).f1) then (some false) else (if x17 > 0 then (if 0 ≤ (wrap64 (x17 - 1)) then (if (wrap64 (x17 - 1)) < (x7.length : Int) then (if ((rd_T50 x7 x17).f0) ≤ ((rd_T50 x7 (wrap64 (x17 - 1))).f0) then (some false) else (if ((rd_T50 x7 x17).f1) ≥ ((rd_T50 x7 (wrap64 (x17 - 1))).f1) then (some false) else (laws_FnPartitions.l1 k x4 x5 x7 x8 x9 x13 x15 (wrap64 (x17 + 1)) x330000 x330001 x330002 x352000 x352001 x352002))) else (none)) else (none)) else (laws_FnPartitions.l1 k x4 x5 x7 x8 x9 x13 x15 (wrap64 (x17 + 1)) x330000 x330001 x330002 x352000 x352001 x352002)))) else (none)) else (none)) else (if x13 = true then (if x15 = true then ((spec_EqualCrackers.f k x352000 x352001 x352002 x330000 x330001 x330002).bind fun t361 => (if t361 = true then (if (wrap64 (2 * (x7.length : Int))) ≤ (wrap64 (x5 - x4)) then (if x8 ≥ x4 then (some (decide (x8 ≤ x5))) else (some false)) else (some false)) else (some false))) else (some false)) else (some false))
end
def laws_FnPartitions.f (k : Nat) (l0 : List Int) : Option (Bool) := (laws_big.f l0).bind fun t305 => (if t305 = true then (some true) else ((spec_DrawPartition.f k l0).bind fun bt306 => ((impl_Partition.f k bt306.1 bt306.2.1 bt306.2.2.1 bt306.2.2.2).bind fun bt312 => ((spec_Partition.f k bt306.1 bt306.2.1 bt306.2.2.1 bt306.2.2.2).bind fun bt316 => (if (bt312.1.length : Int) = (bt316.1.length : Int) then (laws_FnPartitions.j0 k bt306.1 bt306.2.1 bt306.2.2.1 bt306.2.2.2 bt312.1 bt312.2 bt316.1 (bt312.2 != bt316.2)) else (laws_FnPartitions.j0 k bt306.1 bt306.2.1 bt306.2.2.1 bt306.2.2.2 bt312.1 bt312.2 bt316.1 true))))))
theorem laws_FnPartitions.mono_l : ∀ k, (∀ y0 y1 y2 y3 y4 y5 y6 y7, LeO (laws_FnPartitions.j0 k y0 y1 y2 y3 y4 y5 y6 y7) (laws_FnPartitions.j0 (k + 1) y0 y1 y2 y3 y4 y5 y6 y7)) ∧ (∀ y0 y1 y2 y3 y4 y5 y6 y7, LeO (laws_FnPartitions.j1 k y0 y1 y2 y3 y4 y5 y6 y7) (laws_FnPartitions.j1 (k + 1) y0 y1 y2 y3 y4 y5 y6 y7)) ∧ (∀ y0 y1 y2 y3 y4 y5 y6 y7 y8 y9 y10 y11 y12 y13 y14 y15 y16 y17, LeO (laws_FnPartitions.l0 k y0 y1 y2 y3 y4 y5 y6 y7 y8 y9 y10 y11 y12 y13 y14 y15 y16 y17) (laws_FnPartitions.l0 (k + 1) y0 y1 y2 y3 y4 y5 y6 y7 y8 y9 y10 y11 y12 y13 y14 y15 y16 y17)) ∧ (∀ y0 y1 y2 y3 y4 y5 y6 y7 y8 y9 y10 y11 y12 y13 y14 y15 y16 y17 y18, LeO (laws_FnPartitions.j3 k y0 y1 y2 y3 y4 y5 y6 y7 y8 y9 y10 y11 y12 y13 y14 y15 y16 y17 y18) (laws_FnPartitions.j3 (k + 1) y0 y1 y2 y3 y4 y5 y6 y7 y8 y9 y10 y11 y12 y13 y14 y15 y16 y17 y18)) ∧ (∀ y0 y1 y2 y3 y4 y5 y6 y7 y8 y9 y10 y11 y12 y13, LeO (laws_FnPartitions.l1 k y0 y1 y2 y3 y4 y5 y6 y7 y8 y9 y10 y11 y12 y13) (laws_FnPartitions.l1 (k + 1) y0 y1 y2 y3 y4 y5 y6 y7 y8 y9 y10 y11 y12 y13))
 | 0 => ⟨fun _ _ _ _ _ _ _ _ r h => by simp [laws_FnPartitions.j0] at h, fun _ _ _ _ _ _ _ _ r h => by simp [laws_FnPartitions.j1] at h, fun _ _ _ _ _ _ _ _ _ _ _ _ _ _ _ _ _ _ r h => by simp [laws_FnPartitions.l0] at h, fun _ _ _ _ _ _ _ _ _ _ _ _ _ _ _ _ _ _ _ r h => by simp [laws_FnPartitions.j3] at h, fun _ _ _ _ _ _ _ _ _ _ _ _ _ _ r h => by simp [laws_FnPartitions.l1] at h⟩
 | k + 1 => by
  obtain ⟨ih0, ih1, ih2, ih3, ih4⟩ := laws_FnPartitions.mono_l k
  refine ⟨?_, ?_, ?_, ?_, ?_⟩
  ·intro y0 y1 y2 y3 y4 y5 y6 y7
   unfold laws_FnPartitions.j0
   repeat' first
   | (with_reducible exact ih0 _ _ _ _ _ _ _ _)
   | (with_reducible exact ih1 _ _ _ _ _ _ _ _)
   | (with_reducible exact ih2 _ _ _ _ _ _ _ _ _ _ _ _ _ _ _ _ _ _)
   | (with_reducible exact ih3 _ _ _ _ _ _ _ _ _ _ _ _ _ _ _ _ _ _ _)
   | (with_reducible exact ih4 _ _ _ _ _ _ _ _ _ _ _ _ _ _)
   | (with_reducible exact impl_ApplySwaps.mono _ _ _ _ _)
   | (with_reducible exact impl_Partition.mono _ _ _ _ _)
   | (with_reducible exact impl_UndoSwaps.mono _ _ _ _ _)
   | (with_reducible exact spec_DrawPartition.mono _ _)
   | (with_reducible exact spec_EqualCrackers.mono _ _ _ _ _ _ _)
   | (with_reducible exact spec_NewCracker.mono _ _)
   | (with_reducible exact spec_Partition.mono _ _ _ _ _)
   | (with_reducible exact LeO.refl _)
   | (with_reducible exact LeO.none _)
   | (with_reducible refine LeO.ite ?_ ?_)
   | (with_reducible refine LeO.bind ?_ (fun _ => ?_))
   | exact ih0 _ _ _ _ _ _ _ _
   | exact ih1 _ _ _ _ _ _ _ _
   | exact ih2 _ _ _ _ _ _ _ _ _ _ _ _ _ _ _ _ _ _
   | exact ih3 _ _ _ _ _ _ _ _ _ _ _ _ _ _ _ _ _ _ _
   | exact ih4 _ _ _ _ _ _ _ _ _ _ _ _ _ _
   | exact impl_ApplySwaps.mono _ _ _ _ _
   | exact impl_Partition.mono _ _ _ _ _
   | exact impl_UndoSwaps.mono _ _ _ _ _
   | exact spec_DrawPartition.mono _ _
   | exact spec_EqualCrackers.mono _ _ _ _ _ _ _
   | exact spec_NewCracker.mono _ _
   | exact spec_Partition.mono _ _ _ _ _
   | exact LeO.none _
   | refine LeO.ite ?_ ?_
   | refine LeO.bind ?_ (fun _ => ?_)
  ·intro y0 y1 y2 y3 y4 y5 y6 y7
   unfold laws_FnPartitions.j1
   repeat' first
   | (with_reducible exact ih0 _ _ _ _ _ _ _ _)
   | (with_reducible exact ih1 _ _ _ _ _ _ _ _)
   | (with_reducible exact ih2 _ _ _ _ _ _ _ _ _ _ _ _ _ _ _ _ _ _)
   | (with_reducible exact ih3 _ _ _ _ _ _ _ _ _ _ _ _ _ _ _ _ _ _ _)
   | (with_reducible exact ih4 _ _ _ _ _ _ _ _ _ _ _ _ _ _)
   | (with_reducible exact impl_ApplySwaps.mono _ _ _ _ _)
   | (with_reducible exact impl_Partition.mono _ _ _ _ _)
   | (with_reducible exact impl_UndoSwaps.mono _ _ _ _ _)
   | (with_reducible exact spec_DrawPartition.mono _ _)
   | (with_reducible exact spec_EqualCrackers.mono _ _ _ _ _ _ _)
   | (with_reducible exact spec_NewCracker.mono _ _)
   | (with_reducible exact spec_Partition.mono _ _ _ _ _)
   | (with_reducible exact LeO.refl _)
   | (with_reducible exact LeO.none _)
   | (with_reducible refine LeO.ite ?_ ?_)
   | (with_reducible refine LeO.bind ?_ (fun _ => ?_))
   | exact ih0 _ _ _ _ _ _ _ _
   | exact ih1 _ _ _ _ _ _ _ _
   | exact ih2 _ _ _ _ _ _ _ _ _ _ _ _ _ _ _ _ _ _
   | exact ih3 _ _ _ _ _ _ _ _ _ _ _ _ _ _ _ _ _ _ _
   | exact ih4 _ _ _ _ _ _ _ _ _ _ _ _ _ _
   | exact impl_ApplySwaps.mono _ _ _ _ _
   | exact impl_Partition.mono _ _ _ _ _
   | exact impl_UndoSwaps.mono _ _ _ _ _
   | exact spec_DrawPartition.mono _ _
   | exact spec_EqualCrackers.mono _ _ _ _ _ _ _
   | exact spec_NewCracker.mono _ _
   | exact spec_Partition.mono _ _ _ _ _
   | exact LeO.none _
   | refine LeO.ite ?_ ?_
   | refine LeO.bind ?_ (fun _ => ?_)
  ·intro y0 y1 y2 y3 y4 y5 y6 y7 y8 y9 y10 y11 y12 y13 y14 y15 y16 y17
   unfold laws_FnPartitions.l0
   repeat' first
   | (with_reducible exact ih0 _ _ _ _ _ _ _ _)
   | (with_reducible exact ih1 _ _ _ _ _ _ _ _)
   | (with_reducible exact ih2 _ _ _ _ _ _ _ _ _ _ _ _ _ _ _ _ _ _)
   | (with_reducible exact ih3 _ _ _ _ _ _ _ _ _ _ _ _ _ _ _ _ _ _ _)
   | (with_reducible exact ih4 _ _ _ _ _ _ _ _ _ _ _ _ _ _)
   | (with_reducible exact impl_ApplySwaps.mono _ _ _ _ _)
   | (with_reducible exact impl_Partition.mono _ _ _ _ _)
   | (with_reducible exact impl_UndoSwaps.mono _ _ _ _ _)
   | (with_reducible exact spec_DrawPartition.mono _ _)
   | (with_reducible exact spec_EqualCrackers.mono _ _ _ _ _ _ _)
   | (with_reducible exact spec_NewCracker.mono _ _)
   | (with_reducible exact spec_Partition.mono _ _ _ _ _)
   | (with_reducible exact LeO.refl _)
   | (with_reducible exact LeO.none _)
   | (with_reducible refine LeO.ite ?_ ?_)
   | (with_reducible refine LeO.bind ?_ (fun _ => ?_))
   | exact ih0 _ _ _ _ _ _ _ _
   | exact ih1 _ _ _ _ _ _ _ _
   | exact ih2 _ _ _ _ _ _ _ _ _ _ _ _ _ _ _ _ _ _
   | exact ih3 _ _ _ _ _ _ _ _ _ _ _ _ _ _ _ _ _ _ _
   | exact ih4 _ _ _ _ _ _ _ _ _ _ _ _ _ _
   | exact impl_ApplySwaps.mono _ _ _ _ _
   | exact impl_Partition.mono _ _ _ _ _
   | exact impl_UndoSwaps.mono _ _ _ _ _
   | exact spec_DrawPartition.mono _ _
   | exact spec_EqualCrackers.mono _ _ _ _ _ _ _
   | exact spec_NewCracker.mono _ _
   | exact spec_Partition.mono _ _ _ _ _
   | exact LeO.none _
   | refine LeO.ite ?_ ?_
   | refine LeO.bind ?_ (fun _ => ?_)
  ·intro y0 y1 y2 y3 y4 y5 y6 y7 y8 y9 y10 y11 y12 y13 y14 y15 y16 y17 y18
   unfold laws_FnPartitions.j3
   repeat' first
   | (with_reducible exact ih0 _ _ _ _ _ _ _ _)
   | (with_reducible exact ih1 _ _ _ _ _ _ _ _)
   | (with_reducible exact ih2 _ _ _ _ _ _ _ _ _ _ _ _ _ _ _ _ _ _)
   | (with_reducible exact ih3 _ _ _ _ _ _ _ _ _ _ _ _ _ _ _ _ _ _ _)
   | (with_reducible exact ih4 _ _ _ _ _ _ _ _ _ _ _ _ _ _)
   | (with_reducible exact impl_ApplySwaps.mono _ _ _ _ _)
   | (with_reducible exact impl_Partition.mono _ _ _ _ _)
   | (with_reducible exact impl_UndoSwaps.mono _ _ _ _ _)
   | (with_reducible exact spec_DrawPartition.mono _ _)
   | (with_reducible exact spec_EqualCrackers.mono _ _ _ _ _ _ _)
   | (with_reducible exact spec_NewCracker.mono _ _)
   | (with_reducible exact spec_Partition.mono _ _ _ _ _)
   | (with_reducible exact LeO.refl _)
   | (with_reducible exact LeO.none _)
   | (with_reducible refine LeO.ite ?_ ?_)
   | (with_reducible refine LeO.bind ?_ (fun _ => ?_))
   | exact ih0 _ _ _ _ _ _ _ _
   | exact ih1 _ _ _ _ _ _ _ _
   | exact ih2 _ _ _ _ _ _ _ _ _ _ _ _ _ _ _ _ _ _
   | exact ih3 _ _ _ _ _ _ _ _ _ _ _ _ _ _ _ _ _ _ _
   | exact ih4 _ _ _ _ _ _ _ _ _ _ _ _ _ _
   | exact impl_ApplySwaps.mono _ _ _ _ _
   | exact impl_Partition.mono _ _ _ _ _
   | exact impl_UndoSwaps.mono _ _ _ _ _
   | exact spec_DrawPartition.mono _ _
   | exact spec_EqualCrackers.mono _ _ _ _ _ _ _
   | exact spec_NewCracker.mono _ _
   | exact spec_Partition.mono _ _ _ _ _
   | exact LeO.none _
   | refine LeO.ite ?_ ?_
   | refine LeO.bind ?_ (fun _ => ?_)
  ·intro y0 y1 y2 y3 y4 y5 y6 y7 y8 y9 y10 y11 y12 y13
   unfold laws_FnPartitions.l1
   repeat' first
   | (with_reducible exact ih0 _ _ _ _ _ _ _ _)
   | (with_reducible exact ih1 _ _ _ _ _ _ _ _)
   | (with_reducible exact ih2 _ _ _ _ _ _ _ _ _ _ _ _ _ _ _ _ _ _)
   | (with_reducible exact ih3 _ _ _ _ _ _ _ _ _ _ _ _ _ _ _ _ _ _ _)
   | (with_reducible exact ih4 _ _ _ _ _ _ _ _ _ _ _ _ _ _)
   | (with_reducible exact impl_ApplySwaps.mono _ _ _ _ _)
   | (with_reducible exact impl_Partition.mono _ _ _ _ _)
   | (with_reducible exact impl_UndoSwaps.mono _ _ _ _ _)
   | (with_reducible exact spec_DrawPartition.mono _ _)
   | (with_reducible exact spec_EqualCrackers.mono _ _ _ _ _ _ _)
   | (with_reducible exact spec_NewCracker.mono _ _)
   | (with_reducible exact spec_Partition.mono _ _ _ _ _)
   | (with_reducible exact LeO.refl _)
   | (with_reducible exact LeO.none _)
   | (with_reducible refine LeO.ite ?_ ?_)
   | (with_reducible refine LeO.bind ?_ (fun _ => ?_))
   | exact ih0 _ _ _ _ _ _ _ _
   | exact ih1 _ _ _ _ _ _ _ _
   | exact ih2 _ _ _ _ _ _ _ _ _ _ _ _ _ _ _ _ _ _
   | exact ih3 _ _ _ _ _ _ _ _ _ _ _ _ _ _ _ _ _ _ _
   | exact ih4 _ _ _ _ _ _ _ _ _ _ _ _ _ _
   | exact impl_ApplySwaps.mono _ _ _ _ _
   | exact impl_Partition.mono _ _ _ _ _
   | exact impl_UndoSwaps.mono _ _ _ _ _
   | exact spec_DrawPartition.mono _ _
   | exact spec_EqualCrackers.mono _ _ _ _ _ _ _
   | exact spec_NewCracker.mono _ _
   | exact spec_Partition.mono _ _ _ _ _
   | exact LeO.none _
   | refine LeO.ite ?_ ?_
   | refine LeO.bind ?_ (fun _ => ?_)
theorem laws_FnPartitions.mono : ∀ a0 k, LeO (laws_FnPartitions.f k a0) (laws_FnPartitions.f (k + 1) a0) := by
 intro a0 k
 obtain ⟨ih0,ih1,ih2,ih3,ih4⟩:= laws_FnPartitions.mono_l k
 unfold laws_FnPartitions.f
 repeat' first
  |(with_reducible exact ih0 _ _ _ _ _ _ _ _)
  |(with_reducible exact ih1 _ _ _ _ _ _ _ _)
  |(with_reducible exact ih2 _ _ _ _ _ _ _ _ _ _ _ _ _ _ _ _ _ _)
  |(with_reducible exact ih3 _ _ _ _ _ _ _ _ _ _ _ _ _ _ _ _ _ _ _)
  |(with_reducible exact ih4 _ _ _ _ _ _ _ _ _ _ _ _ _ _)
  |(with_reducible exact impl_ApplySwaps.mono _ _ _ _ _)
  |(with_reducible exact impl_Partition.mono _ _ _ _ _)
  |(with_reducible exact impl_UndoSwaps.mono _ _ _ _ _)
  |(with_reducible exact spec_DrawPartition.mono _ _)
  |(with_reducible exact spec_EqualCrackers.mono _ _ _ _ _ _ _)
  |(with_reducible exact spec_NewCracker.mono _ _)
  |(with_reducible exact spec_Partition.mono _ _ _ _ _)
  |(with_reducible exact LeO.refl _)
  |(with_reducible exact LeO.none _)
  |(with_reducible refine LeO.ite ?_ ?_)
  |(with_reducible refine LeO.bind ?_ (fun _ => ?_))
  |exact ih0 _ _ _ _ _ _ _ _
  |exact ih1 _ _ _ _ _ _ _ _
  |exact ih2 _ _ _ _ _ _ _ _ _ _ _ _ _ _ _ _ _ _
  |exact ih3 _ _ _ _ _ _ _ _ _ _ _ _ _ _ _ _ _ _ _
  |exact ih4 _ _ _ _ _ _ _ _ _ _ _ _ _ _
  |exact impl_ApplySwaps.mono _ _ _ _ _
  |exact impl_Partition.mono _ _ _ _ _
  |exact impl_UndoSwaps.mono _ _ _ _ _
  |exact spec_DrawPartition.mono _ _
  |exact spec_EqualCrackers.mono _ _ _ _ _ _ _
  |exact spec_NewCracker.mono _ _
  |exact spec_Partition.mono _ _ _ _ _
  |exact LeO.none _
  |refine LeO.ite ?_ ?_
  |refine LeO.bind ?_ (fun _ => ?_)
set_option maxHeartbeats 8000000 in
set_option maxRecDepth 100000 in
theorem laws_FnPartitions.calls (k : Nat) (A0 : Option Addr) (c0 : Nat) (l0 : List Int) (r : Bool) (w : World) (hr0 : Kd.C (Kd.int .u8) w A0 l0.length l0) (hc0 : l0.length ≤ c0) (HRT : Aside0 (r = true)) (h : laws_FnPartitions.f k l0 = some r) :
  Calls Try.prog 5 #[.slice A0 l0.length c0] w fun e w' => e = .returned (.bool r) ∧ Below w.heap.size w w' := by
 have hu31:= Try.underlying31
 have hu50:= Try.underlying50
 have HR0:= mk hr0
 have HC0:= mk hc0
 clear hr0 hc0
 have HB:= mk (Below.refl w.heap.size w)
 have H : ((laws_big.f l0).bind fun t305 => (if t305 = true then (some true) else ((spec_DrawPartition.f k l0).bind fun bt306 => ((impl_Partition.f k bt306.1 bt306.2.1 bt306.2.2.1 bt306.2.2.2).bind fun bt312 => ((spec_Partition.f k bt306.1 bt306.2.1 bt306.2.2.1 bt306.2.2.2).bind fun bt316 => (if (bt312.1.length : Int) = (bt316.1.length : Int) then (laws_FnPartitions.j0 k bt306.1 bt306.2.1 bt306.2.2.1 bt306.2.2.2 bt312.1 bt312.2 bt316.1 (bt312.2 != bt316.2)) else (laws_FnPartitions.j0 k bt306.1 bt306.2.1 bt306.2.2.1 bt306.2.2.2 bt312.1 bt312.2 bt316.1 true))))))) = some r:= h
 clear h
 replace H:= Option.bind_eq_some_iff.mp H
 obtain ⟨t305,A20,H⟩:= H
 replace H : (if t305 = true then (some true) else ((spec_DrawPartition.f k l0).bind fun bt306 => ((impl_Partition.f k bt306.1 bt306.2.1 bt306.2.2.1 bt306.2.2.2).bind fun bt312 => ((spec_Partition.f k bt306.1 bt306.2.1 bt306.2.2.1 bt306.2.2.2).bind fun bt316 => (if (bt312.1.length : Int) = (bt316.1.length : Int) then (laws_FnPartitions.j0 k bt306.1 bt306.2.1 bt306.2.2.1 bt306.2.2.2 bt312.1 bt312.2 bt316.1 (bt312.2 != bt316.2)) else (laws_FnPartitions.j0 k bt306.1 bt306.2.1 bt306.2.2.1 bt306.2.2.2 bt312.1 bt312.2 bt316.1 true)))))) = some r:= H
 have A2:= mk A20
 clear A20
 by_cases c3 : t305 = true
 ·subst c3
  have H1 : (some true) = some r:= by rw [if_pos rfl] at H;exact H
  clear H
  have H:= H1
  clear H1
  obtain rfl:= Option.some.inj H
  go_enter Try.func5,Try.ntmps5
  go_wp2_with (first|(go_at_call 19;(with_reducible refine (laws_big.calls _ _ l0 true _ ?side1 ?side2 A2.out).mono ?_);(case side1 => exact uc HR0.out);(case side2 => exact HC0.out);rintro e w' ⟨rfl,⟨nd,rfl⟩⟩;(try first|exact ⟨rfl,_,World.drewN_drewN _ _ _⟩|exact ⟨rfl,_,Eq.trans (World.drewN_drewN _ _ _) (congrArg (World.drewN _) (Nat.add_assoc _ _ _))⟩)))
  repeat (go_quiet (first|(go_at_call 19;(with_reducible refine (laws_big.calls _ _ l0 true _ ?side1 ?side2 A2.out).mono ?_);(case side1 => exact uc HR0.out);(case side2 => exact HC0.out);rintro e w' ⟨rfl,⟨nd,rfl⟩⟩;(try first|exact ⟨rfl,_,World.drewN_drewN _ _ _⟩|exact ⟨rfl,_,Eq.trans (World.drewN_drewN _ _ _) (congrArg (World.drewN _) (Nat.add_assoc _ _ _))⟩)));try go_wp2_with (first|(go_at_call 19;(with_reducible refine (laws_big.calls _ _ l0 true _ ?side1 ?side2 A2.out).mono ?_);(case side1 => exact uc HR0.out);(case side2 => exact HC0.out);rintro e w' ⟨rfl,⟨nd,rfl⟩⟩;(try first|exact ⟨rfl,_,World.drewN_drewN _ _ _⟩|exact ⟨rfl,_,Eq.trans (World.drewN_drewN _ _ _) (congrArg (World.drewN _) (Nat.add_assoc _ _ _))⟩))))
  go_ret
  exact ⟨by first|rfl|(simp [errW_none,errW_some] <;> rfl)|(simp [*,errW_none,errW_some] <;> rfl),by repeat (first|(with_reducible first|exact HB.out|apply below_alloc|apply pw_below_drewN|apply below_drew1)|exact HB.out)⟩
 ·replace c3:= Bool.eq_false_iff.mpr c3
  subst c3
  have H1 : ((spec_DrawPartition.f k l0).bind fun bt306 => ((impl_Partition.f k bt306.1 bt306.2.1 bt306.2.2.1 bt306.2.2.2).bind fun bt312 => ((spec_Partition.f k bt306.1 bt306.2.1 bt306.2.2.1 bt306.2.2.2).bind fun bt316 => (if (bt312.1.length : Int) = (bt316.1.length : Int) then (laws_FnPartitions.j0 k bt306.1 bt306.2.1 bt306.2.2.1 bt306.2.2.2 bt312.1 bt312.2 bt316.1 (bt312.2 != bt316.2)) else (laws_FnPartitions.j0 k bt306.1 bt306.2.1 bt306.2.2.1 bt306.2.2.2 bt312.1 bt312.2 bt316.1 true))))) = some r:= by rw [if_neg (show ¬ (false = true) by decide)] at H;exact H
  clear H
  have H:= H1
  clear H1
  replace H:= Option.bind_eq_some_iff.mp H
  obtain ⟨⟨t306,t307,t308,t309⟩,A40,H⟩:= H
  replace H : ((impl_Partition.f k t306 t307 t308 t309).bind fun bt312 => ((spec_Partition.f k t306 t307 t308 t309).bind fun bt316 => (if (bt312.1.length : Int) = (bt316.1.length : Int) then (laws_FnPartitions.j0 k t306 t307 t308 t309 bt312.1 bt312.2 bt316.1 (bt312.2 != bt316.2)) else (laws_FnPartitions.j0 k t306 t307 t308 t309 bt312.1 bt312.2 bt316.1 true)))) = some r:= H
  have A4:= mk A40
  clear A40
  replace H:= Option.bind_eq_some_iff.mp H
  obtain ⟨⟨t312,t313⟩,A50,H⟩:= H
  replace H : ((spec_Partition.f k t306 t307 t308 t309).bind fun bt316 => (if (t312.length : Int) = (bt316.1.length : Int) then (laws_FnPartitions.j0 k t306 t307 t308 t309 t312 t313 bt316.1 (t313 != bt316.2)) else (laws_FnPartitions.j0 k t306 t307 t308 t309 t312 t313 bt316.1 true))) = some r:= H
  have A5:= mk A50
  clear A50
  replace H:= Option.bind_eq_some_iff.mp H
  obtain ⟨⟨t316,t317⟩,A60,H⟩:= H
  replace H : (if (t312.length : Int) = (t316.length : Int) then (laws_FnPartitions.j0 k t306 t307 t308 t309 t312 t313 t316 (t313 != t317)) else (laws_FnPartitions.j0 k t306 t307 t308 t309 t312 t313 t316 true)) = some r:= H
  have A6:= mk A60
  clear A60
  have HC7:= mk H
  clear H
  go_enter Try.func5,Try.ntmps5
  go_upto_region 6 with (first|(go_at_call 19;(with_reducible refine (laws_big.calls _ _ l0 false _ ?side1 ?side2 A2.out).mono ?_);(case side1 => exact uc HR0.out);(case side2 => exact HC0.out);rintro e w' ⟨rfl,⟨nd,rfl⟩⟩;(try first|exact ⟨rfl,_,World.drewN_drewN _ _ _⟩|exact ⟨rfl,_,Eq.trans (World.drewN_drewN _ _ _) (congrArg (World.drewN _) (Nat.add_assoc _ _ _))⟩))|(go_at_call 20;(with_reducible refine (spec_DrawPartition.calls k _ _ l0 t306 t307 t308 t309 _ ?side1 ?side2 A4.out).mono ?_);(case side1 => exact uc HR0.out);(case side2 => exact HC0.out);rintro e w8 ⟨v310,rfl,ho0,hb⟩;have n0_:= mk (Kd.R_lower ho0 (below_size (by repeat (first|(with_reducible first|exact HB.out|apply below_alloc|apply pw_below_drewN|apply below_drew1)|exact HB.out))));have n1_:= mk (below_step (by repeat (first|(with_reducible first|exact HB.out|apply below_alloc|apply pw_below_drewN|apply below_drew1)|exact HB.out)) hb);clear HB;have HO311:= n0_;have HB:= n1_;clear n0_ n1_;(try clear hb);(try clear hb2);(try clear hk);(try clear hi);(try clear ho0);obtain ⟨Ao9,co9,eo9⟩:= Kd.R_slice HO311.out;subst eo9)|(go_at_call 21;(with_reducible refine (impl_Partition.calls k _ _ t306 t307 t308 t309 t312 t313 _ ?side1 ?side2 A5.out).mono ?_);(case side1 => exact uc (Kd.R_reads' HO311.out).2.2);(case side2 => exact (Kd.R_reads' HO311.out).2.1);rintro e w10 ⟨v314,rfl,ho0,hb⟩;have n0_:= mk (Kd.R_below (up HO311.out) hb);have n1_:= mk (Kd.R_lower ho0 (below_size (by repeat (first|(with_reducible first|exact HB.out|apply below_alloc|apply pw_below_drewN|apply below_drew1)|exact HB.out))));have n2_:= mk (below_step (by repeat (first|(with_reducible first|exact HB.out|apply below_alloc|apply pw_below_drewN|apply below_drew1)|exact HB.out)) hb);clear HO311;clear HB;have HO311:= n0_;have HO315:= n1_;have HB:= n2_;clear n0_ n1_ n2_;(try clear hb);(try clear hb2);(try clear hk);(try clear hi);(try clear ho0))|(go_at_call 22;(with_reducible refine (spec_Partition.calls k _ _ t306 t307 t308 t309 t316 t317 _ ?side1 ?side2 A6.out).mono ?_);(case side1 => exact uc (Kd.R_reads' HO311.out).2.2);(case side2 => exact (Kd.R_reads' HO311.out).2.1);rintro e w11 ⟨v318,rfl,ho0,hb⟩;have n0_:= mk (Kd.R_below (up HO311.out) hb);have n1_:= mk (Kd.R_elder' (up HO315.out) (Kd.R_base ho0) hb);have n2_:= mk (Kd.R_lower (Kd.R_new' ho0 (Kd.R_lt (up HO315.out))) (below_size (by repeat (first|(with_reducible first|exact HB.out|apply below_alloc|apply pw_below_drewN|apply below_drew1)|exact HB.out))));have n3_:= mk (below_step (by repeat (first|(with_reducible first|exact HB.out|apply below_alloc|apply pw_below_drewN|apply below_drew1)|exact HB.out)) hb);clear HO311;clear HO315;clear HB;have HO311:= n0_;have HO315:= n1_;have HO319:= n2_;have HB:= n3_;clear n0_ n1_ n2_ n3_;(try clear hb);(try clear hb2);(try clear hk);(try clear hi);(try clear ho0)))
  repeat (go_quiet (first|(go_at_call 19;(with_reducible refine (laws_big.calls _ _ l0 false _ ?side1 ?side2 A2.out).mono ?_);(case side1 => exact uc HR0.out);(case side2 => exact HC0.out);rintro e w' ⟨rfl,⟨nd,rfl⟩⟩;(try first|exact ⟨rfl,_,World.drewN_drewN _ _ _⟩|exact ⟨rfl,_,Eq.trans (World.drewN_drewN _ _ _) (congrArg (World.drewN _) (Nat.add_assoc _ _ _))⟩))|(go_at_call 20;(with_reducible refine (spec_DrawPartition.calls k _ _ l0 t306 t307 t308 t309 _ ?side1 ?side2 A4.out).mono ?_);(case side1 => exact uc HR0.out);(case side2 => exact HC0.out);rintro e w8 ⟨v310,rfl,ho0,hb⟩;have n0_:= mk (Kd.R_lower ho0 (below_size (by repeat (first|(with_reducible first|exact HB.out|apply below_alloc|apply pw_below_drewN|apply below_drew1)|exact HB.out))));have n1_:= mk (below_step (by repeat (first|(with_reducible first|exact HB.out|apply below_alloc|apply pw_below_drewN|apply below_drew1)|exact HB.out)) hb);clear HB;have HO311:= n0_;have HB:= n1_;clear n0_ n1_;(try clear hb);(try clear hb2);(try clear hk);(try clear hi);(try clear ho0);obtain ⟨Ao9,co9,eo9⟩:= Kd.R_slice HO311.out;subst eo9)|(go_at_call 21;(with_reducible refine (impl_Partition.calls k _ _ t306 t307 t308 t309 t312 t313 _ ?side1 ?side2 A5.out).mono ?_);(case side1 => exact uc (Kd.R_reads' HO311.out).2.2);(case side2 => exact (Kd.R_reads' HO311.out).2.1);rintro e w10 ⟨v314,rfl,ho0,hb⟩;have n0_:= mk (Kd.R_below (up HO311.out) hb);have n1_:= mk (Kd.R_lower ho0 (below_size (by repeat (first|(with_reducible first|exact HB.out|apply below_alloc|apply pw_below_drewN|apply below_drew1)|exact HB.out))));have n2_:= mk (below_step (by repeat (first|(with_reducible first|exact HB.out|apply below_alloc|apply pw_below_drewN|apply below_drew1)|exact HB.out)) hb);clear HO311;clear HB;have HO311:= n0_;have HO315:= n1_;have HB:= n2_;clear n0_ n1_ n2_;(try clear hb);(try clear hb2);(try clear hk);(try clear hi);(try clear ho0))|(go_at_call 22;(with_reducible refine (spec_Partition.calls k _ _ t306 t307 t308 t309 t316 t317 _ ?side1 ?side2 A6.out).mono ?_);(case side1 => exact uc (Kd.R_reads' HO311.out).2.2);(case side2 => exact (Kd.R_reads' HO311.out).2.1);rintro e w11 ⟨v318,rfl,ho0,hb⟩;have n0_:= mk (Kd.R_below (up HO311.out) hb);have n1_:= mk (Kd.R_elder' (up HO315.out) (Kd.R_base ho0) hb);have n2_:= mk (Kd.R_lower (Kd.R_new' ho0 (Kd.R_lt (up HO315.out))) (below_size (by repeat (first|(with_reducible first|exact HB.out|apply below_alloc|apply pw_below_drewN|apply below_drew1)|exact HB.out))));have n3_:= mk (below_step (by repeat (first|(with_reducible first|exact HB.out|apply below_alloc|apply pw_below_drewN|apply below_drew1)|exact HB.out)) hb);clear HO311;clear HO315;clear HB;have HO311:= n0_;have HO315:= n1_;have HO319:= n2_;have HB:= n3_;clear n0_ n1_ n2_ n3_;(try clear hb);(try clear hb2);(try clear hk);(try clear hi);(try clear ho0)));go_upto_region 6 with (first|(go_at_call 19;(with_reducible refine (laws_big.calls _ _ l0 false _ ?side1 ?side2 A2.out).mono ?_);(case side1 => exact uc HR0.out);(case side2 => exact HC0.out);rintro e w' ⟨rfl,⟨nd,rfl⟩⟩;(try first|exact ⟨rfl,_,World.drewN_drewN _ _ _⟩|exact ⟨rfl,_,Eq.trans (World.drewN_drewN _ _ _) (congrArg (World.drewN _) (Nat.add_assoc _ _ _))⟩))|(go_at_call 20;(with_reducible refine (spec_DrawPartition.calls k _ _ l0 t306 t307 t308 t309 _ ?side1 ?side2 A4.out).mono ?_);(case side1 => exact uc HR0.out);(case side2 => exact HC0.out);rintro e w8 ⟨v310,rfl,ho0,hb⟩;have n0_:= mk (Kd.R_lower ho0 (below_size (by repeat (first|(with_reducible first|exact HB.out|apply below_alloc|apply pw_below_drewN|apply below_drew1)|exact HB.out))));have n1_:= mk (below_step (by repeat (first|(with_reducible first|exact HB.out|apply below_alloc|apply pw_below_drewN|apply below_drew1)|exact HB.out)) hb);clear HB;have HO311:= n0_;have HB:= n1_;clear n0_ n1_;(try clear hb);(try clear hb2);(try clear hk);(try clear hi);(try clear ho0);obtain ⟨Ao9,co9,eo9⟩:= Kd.R_slice HO311.out;subst eo9)|(go_at_call 21;(with_reducible refine (impl_Partition.calls k _ _ t306 t307 t308 t309 t312 t313 _ ?side1 ?side2 A5.out).mono ?_);(case side1 => exact uc (Kd.R_reads' HO311.out).2.2);(case side2 => exact (Kd.R_reads' HO311.out).2.1);rintro e w10 ⟨v314,rfl,ho0,hb⟩;have n0_:= mk (Kd.R_below (up HO311.out) hb);have n1_:= mk (Kd.R_lower ho0 (below_size (by repeat (first|(with_reducible first|exact HB.out|apply below_alloc|apply pw_below_drewN|apply below_drew1)|exact HB.out))));have n2_:= mk (below_step (by repeat (first|(with_reducible first|exact HB.out|apply below_alloc|apply pw_below_drewN|apply below_drew1)|exact HB.out)) hb);clear HO311;clear HB;have HO311:= n0_;have HO315:= n1_;have HB:= n2_;clear n0_ n1_ n2_;(try clear hb);(try clear hb2);(try clear hk);(try clear hi);(try clear ho0))|(go_at_call 22;(with_reducible refine (spec_Partition.calls k _ _ t306 t307 t308 t309 t316 t317 _ ?side1 ?side2 A6.out).mono ?_);(case side1 => exact uc (Kd.R_reads' HO311.out).2.2);(case side2 => exact (Kd.R_reads' HO311.out).2.1);rintro e w11 ⟨v318,rfl,ho0,hb⟩;have n0_:= mk (Kd.R_below (up HO311.out) hb);have n1_:= mk (Kd.R_elder' (up HO315.out) (Kd.R_base ho0) hb);have n2_:= mk (Kd.R_lower (Kd.R_new' ho0 (Kd.R_lt (up HO315.out))) (below_size (by repeat (first|(with_reducible first|exact HB.out|apply below_alloc|apply pw_below_drewN|apply below_drew1)|exact HB.out))));have n3_:= mk (below_step (by repeat (first|(with_reducible first|exact HB.out|apply below_alloc|apply pw_below_drewN|apply below_drew1)|exact HB.out)) hb);clear HO311;clear HO315;clear HB;have HO311:= n0_;have HO315:= n1_;have HO319:= n2_;have HB:= n3_;clear n0_ n1_ n2_ n3_;(try clear hb);(try clear hb2);(try clear hk);(try clear hi);(try clear ho0))))
  (try simp only [Act.put,List.setIfInBounds_toArray,List.set_cons_zero,List.set_cons_succ])
  go_cut [52] (fun v52 wc => ∃ (kq : Nat) (x52_6 : Bool),v52 = .bool x52_6 ∧ Aside0 (laws_FnPartitions.j0 kq t306 t307 t308 t309 t312 t313 t316 x52_6 = some r) ∧ Aside0 (kq ≤ k) ∧ Aside0 (Kd.R (Kd.int .i64) 3 wc w.heap.size (fun _ => True) (.slice Ao9 t306.length co9) t306) ∧ Aside0 (Kd.R k50 50 wc w.heap.size (fun k_ => some k_ ≠ (v318 : Value).ownBlock) v314 t312) ∧ Aside0 (Kd.R k50 50 wc w.heap.size (fun k_ => some k_ ≠ (v314 : Value).ownBlock) v318 t316) ∧ Aside0 (Below w.heap.size w wc))
  case first =>
   have H:= HC7.out
   clear HC7
   by_cases c12 : (t312.length : Int) = (t316.length : Int)
   ·rw [if_pos c12] at H
    have c12b0 : ((t312.length : Int) == (t316.length : Int)) = true:= beq_iff_eq.mpr c12
    have c12b1 : ((t312.length : Int) != (t316.length : Int)) = false:= bne_eq_false_iff_eq.mpr c12
    have c12b2 : (t312.length == t316.length) = true:= by first|simpa using c12|(simp at c12 ⊢;omega)
    clear c12
    (first|rw [c12b0]|(simp only [i64_w,i32_w];rw [c12b0])|skip)
    have H':= mk H
    clear H
    obtain ⟨Ao13,co13,eo13⟩:= Kd.R_slice HO315.out
    subst eo13
    obtain ⟨Ao14,co14,eo14⟩:= Kd.R_slice HO319.out
    subst eo14
    go_wp2
    repeat (go_quiet (fail);try go_wp2)
    go_meet
    case rel => exact ⟨_,((t313 != t317)),(by first|rfl|(simp;done)|(simp [*];done)),H',⟨by first|omega|exact Nat.le_refl _⟩,⟨up HO311.out⟩,⟨by exact up (Kd.R_mono HO315.out (fun _ hk => hk.2))⟩,⟨by exact up (Kd.R_mono HO319.out (fun _ hk => hk.2))⟩,⟨by repeat (first|(with_reducible first|exact HB.out|apply below_alloc|apply pw_below_drewN|apply below_drew1)|exact HB.out)⟩⟩
   ·rw [if_neg c12] at H
    have c12b0 : ((t312.length : Int) == (t316.length : Int)) = false:= beq_eq_false_iff_ne.mpr c12
    have c12b1 : ((t312.length : Int) != (t316.length : Int)) = true:= bne_iff_ne.mpr c12
    have c12b2 : (t312.length == t316.length) = false:= by first|simpa using c12|(simp at c12 ⊢;omega)
    (first|rw [c12b0]|(simp only [i64_w,i32_w];rw [c12b0])|skip)
    have H':= mk H
    clear H
    obtain ⟨Ao15,co15,eo15⟩:= Kd.R_slice HO315.out
    subst eo15
    obtain ⟨Ao16,co16,eo16⟩:= Kd.R_slice HO319.out
    subst eo16
    go_wp2
    repeat (go_quiet (fail);try go_wp2)
    go_meet
    case rel => exact ⟨_,(true),(by first|rfl|(simp;done)|(simp [*];done)),H',⟨by first|omega|exact Nat.le_refl _⟩,⟨up HO311.out⟩,⟨by exact up (Kd.R_mono HO315.out (fun _ hk => hk.2))⟩,⟨by exact up (Kd.R_mono HO319.out (fun _ hk => hk.2))⟩,⟨by repeat (first|(with_reducible first|exact HB.out|apply below_alloc|apply pw_below_drewN|apply below_drew1)|exact HB.out)⟩⟩
  case rest =>
   clear HC7
   try clear c1
   try clear p2
   try clear c3
   try clear c5
   try clear c12
   try clear c12b0
   try clear c12b1
   try clear c12b2
   obtain ⟨kq,x52_6,rfl,HA,HJ6,HO_3,HO_7,HO_9,HB⟩:= hcut
   cases kq with
  |zero => exact absurd HA.out (by simp [laws_FnPartitions.j0])
  |succ kj6 =>
    have H:= HA.out
    clear HA
    simp only [laws_FnPartitions.j0] at H
    by_cases c17 : x52_6 = true
    ·subst c17
     have H1 : (some false) = some r:= by rw [if_pos rfl] at H;exact H
     clear H
     have H:= H1
     clear H1
     exact absurd ((Option.some.inj H).trans HRT.out) (by decide)
    ·replace c17:= Bool.eq_false_iff.mpr c17
     subst c17
     have H1 : (if t307 < 0 then (laws_FnPartitions.j1 kj6 t306 t307 t308 t309 t312 t313 t316 true) else (if t307 > t308 then (laws_FnPartitions.j1 kj6 t306 t307 t308 t309 t312 t313 t316 true) else (laws_FnPartitions.j1 kj6 t306 t307 t308 t309 t312 t313 t316 (decide (t308 > (t306.length : Int)))))) = some r:= by rw [if_neg (show ¬ (false = true) by decide)] at H;exact H
     clear H
     have H:= H1
     clear H1
     have HC18:= mk H
     clear H
     go_upto_region 8 with (fail)
     repeat (go_quiet (fail);go_upto_region 8 with (fail))
     go_cut [65] (fun v65 wc => ∃ (kq : Nat) (x65_17 : Bool),v65 = .bool x65_17 ∧ Aside0 (laws_FnPartitions.j1 kq t306 t307 t308 t309 t312 t313 t316 x65_17 = some r) ∧ Aside0 (kq ≤ kj6) ∧ Aside0 (Kd.R (Kd.int .i64) 3 wc w.heap.size (fun _ => True) (.slice Ao9 t306.length co9) t306) ∧ Aside0 (Kd.R k50 50 wc w.heap.size (fun k_ => some k_ ≠ (v318 : Value).ownBlock) v314 t312) ∧ Aside0 (Kd.R k50 50 wc w.heap.size (fun k_ => some k_ ≠ (v314 : Value).ownBlock) v318 t316) ∧ Aside0 (Below w.heap.size w wc))
     case first =>
      have H:= HC18.out
      clear HC18
      by_cases c19 : t307 < 0
      ·rw [if_pos c19] at H
       have c19b0 : decide (t307 < 0) = true:= decide_eq_true c19
       clear c19
       (first|rw [c19b0]|(simp only [i64_w,i32_w];rw [c19b0])|skip)
       have H':= mk H
       clear H
       go_wp2
       repeat (go_quiet (fail);try go_wp2)
       go_meet
       case rel => exact ⟨_,(true),(by first|rfl|(simp;done)|(simp [*];done)),H',⟨by have:= HJ6.out;first|omega|exact Nat.le_refl _⟩,⟨up HO_3.out⟩,⟨up HO_7.out⟩,⟨up HO_9.out⟩,⟨by repeat (first|(with_reducible first|exact HB.out|apply below_alloc|apply pw_below_drewN|apply below_drew1)|exact HB.out)⟩⟩
      ·rw [if_neg c19] at H
       have c19b0 : decide (t307 < 0) = false:= decide_eq_false c19
       clear c19
       (first|rw [c19b0]|(simp only [i64_w,i32_w];rw [c19b0])|skip)
       by_cases c20 : t307 > t308
       ·rw [if_pos c20] at H
        have c20b0 : decide (t308 < t307) = true:= decide_eq_true c20
        clear c20
        have H':= mk H
        clear H
        go_wp2
        repeat (go_quiet (fail);try go_wp2)
        go_meet
        case rel => exact ⟨_,(true),(by first|rfl|(simp;done)|(simp [*];done)),H',⟨by have:= HJ6.out;first|omega|exact Nat.le_refl _⟩,⟨up HO_3.out⟩,⟨up HO_7.out⟩,⟨up HO_9.out⟩,⟨by repeat (first|(with_reducible first|exact HB.out|apply below_alloc|apply pw_below_drewN|apply below_drew1)|exact HB.out)⟩⟩
       ·rw [if_neg c20] at H
        have c20b0 : decide (t308 < t307) = false:= decide_eq_false c20
        clear c20
        have H':= mk H
        clear H
        go_wp2
        repeat (go_quiet (fail);try go_wp2)
        go_meet
        case rel => exact ⟨_,(decide (t308 > (t306.length : Int))),(by first|rfl|(simp;done)|(simp [*];done)),H',⟨by have:= HJ6.out;first|omega|exact Nat.le_refl _⟩,⟨up HO_3.out⟩,⟨up HO_7.out⟩,⟨up HO_9.out⟩,⟨by repeat (first|(with_reducible first|exact HB.out|apply below_alloc|apply pw_below_drewN|apply below_drew1)|exact HB.out)⟩⟩
     case rest =>
      clear HC18
      try clear c1
      try clear c2
      try clear p2
      try clear c3
      try clear c5
      try clear c12
      try clear c12b0
      try clear c12b1
      try clear c12b2
      try clear c17
      try clear c19
      try clear c19b0
      try clear c20
      try clear c20b0
      try clear p2
      obtain ⟨kq,x65_17,rfl,HA,HJ17,HO_3,HO_7,HO_9,HB⟩:= hcut
      cases kq with
     |zero => exact absurd HA.out (by simp [laws_FnPartitions.j1])
     |succ kj17 =>
       have H:= HA.out
       clear HA
       simp only [laws_FnPartitions.j1] at H
       by_cases c21 : x65_17 = true
       ·subst c21
        have H1 : (if (t312.length : Int) = 0 then (some (t313 == 0)) else (some false)) = some r:= by rw [if_pos rfl] at H;exact H
        clear H
        have H:= H1
        clear H1
        by_cases c22 : (t312.length : Int) = 0
        ·rw [if_pos c22] at H
         have c22b0 : ((t312.length : Int) == 0) = true:= beq_iff_eq.mpr c22
         have c22b1 : ((t312.length : Int) != 0) = false:= bne_eq_false_iff_eq.mpr c22
         clear c22
         obtain rfl:= Option.some.inj H
         obtain ⟨Ao23,co23,eo23⟩:= Kd.R_slice HO_7.out
         subst eo23
         go_wp2
         repeat (go_quiet (fail);try go_wp2)
         go_ret
         exact ⟨by first|rfl|(simp [errW_none,errW_some] <;> rfl)|(simp [*,errW_none,errW_some] <;> rfl),by repeat (first|(with_reducible first|exact HB.out|apply below_alloc|apply pw_below_drewN|apply below_drew1)|exact HB.out)⟩
        ·rw [if_neg c22] at H
         have c22b0 : ((t312.length : Int) == 0) = false:= beq_eq_false_iff_ne.mpr c22
         have c22b1 : ((t312.length : Int) != 0) = true:= bne_iff_ne.mpr c22
         have c22b2 : ¬ (t312 = []):= fun h_ => c22 (by rw [h_];rfl)
         exact absurd ((Option.some.inj H).trans HRT.out) (by decide)
       ·replace c21:= Bool.eq_false_iff.mpr c21
        subst c21
        have H1 : ((spec_NewCracker.f kj17 t306).bind fun bt320 => ((impl_ApplySwaps.f kj17 bt320.1 bt320.2.1 bt320.2.2 t312).bind fun bt330 => ((impl_UndoSwaps.f kj17 bt330.1 bt330.2.1 bt330.2.2.1 t312).bind fun bt341 => (if (bt320.1.length : Int) = (t306.length : Int) then (if (bt330.1.length : Int) = (t306.length : Int) then (laws_FnPartitions.l0 kj17 t307 t308 t309 t312 t313 t316 bt330.2.2.2 bt341.2.2.2 t307 bt320.1 bt320.2.1 bt320.2.2 bt330.1 bt330.2.1 bt330.2.2.1 bt341.1 bt341.2.1 bt341.2.2.1) else (some false)) else (some true))))) = some r:= by rw [if_neg (show ¬ (false = true) by decide)] at H;exact H
        clear H
        have H:= H1
        clear H1
        replace H:= Option.bind_eq_some_iff.mp H
        obtain ⟨⟨t320,t323,t326⟩,A240,H⟩:= H
        replace H : ((impl_ApplySwaps.f kj17 t320 t323 t326 t312).bind fun bt330 => ((impl_UndoSwaps.f kj17 bt330.1 bt330.2.1 bt330.2.2.1 t312).bind fun bt341 => (if (t320.length : Int) = (t306.length : Int) then (if (bt330.1.length : Int) = (t306.length : Int) then (laws_FnPartitions.l0 kj17 t307 t308 t309 t312 t313 t316 bt330.2.2.2 bt341.2.2.2 t307 t320 t323 t326 bt330.1 bt330.2.1 bt330.2.2.1 bt341.1 bt341.2.1 bt341.2.2.1) else (some false)) else (some true)))) = some r:= H
        have A24:= mk A240
        clear A240
        replace H:= Option.bind_eq_some_iff.mp H
        obtain ⟨⟨t330,t333,t336,t339⟩,A250,H⟩:= H
        replace H : ((impl_UndoSwaps.f kj17 t330 t333 t336 t312).bind fun bt341 => (if (t320.length : Int) = (t306.length : Int) then (if (t330.length : Int) = (t306.length : Int) then (laws_FnPartitions.l0 kj17 t307 t308 t309 t312 t313 t316 t339 bt341.2.2.2 t307 t320 t323 t326 t330 t333 t336 bt341.1 bt341.2.1 bt341.2.2.1) else (some false)) else (some true))) = some r:= H
        have A25:= mk A250
        clear A250
        replace H:= Option.bind_eq_some_iff.mp H
        obtain ⟨⟨t341,t344,t347,t350⟩,A260,H⟩:= H
        replace H : (if (t320.length : Int) = (t306.length : Int) then (if (t330.length : Int) = (t306.length : Int) then (laws_FnPartitions.l0 kj17 t307 t308 t309 t312 t313 t316 t339 t350 t307 t320 t323 t326 t330 t333 t336 t341 t344 t347) else (some false)) else (some true)) = some r:= H
        have A26:= mk A260
        clear A260
        by_cases c27 : (t320.length : Int) = (t306.length : Int)
        ·rw [if_pos c27] at H
         have c27b0 : ((t320.length : Int) == (t306.length : Int)) = true:= beq_iff_eq.mpr c27
         have c27b1 : ((t320.length : Int) != (t306.length : Int)) = false:= bne_eq_false_iff_eq.mpr c27
         have c27b2 : (t320.length == t306.length) = true:= by first|simpa using c27|(simp at c27 ⊢;omega)
         clear c27
         by_cases c28 : (t330.length : Int) = (t306.length : Int)
         ·rw [if_pos c28] at H
          have c28b0 : ((t330.length : Int) == (t306.length : Int)) = true:= beq_iff_eq.mpr c28
          have c28b1 : ((t330.length : Int) != (t306.length : Int)) = false:= bne_eq_false_iff_eq.mpr c28
          have c28b2 : (t330.length == t306.length) = true:= by first|simpa using c28|(simp at c28 ⊢;omega)
          clear c28
          have H':= mk H
          clear H
          go_wp2_with (first|(go_at_call 23;(with_reducible refine (spec_NewCracker.calls kj17 _ _ t306 t320 t323 t326 _ ?side1 ?side2 A24.out).mono ?_);(case side1 => exact uc (Kd.R_reads' HO_3.out).2.2);(case side2 => exact (Kd.R_reads' HO_3.out).2.1);rintro e w29 ⟨v321,v324,v327,rfl,ho0,ho1,ho2,hb⟩;have n0_:= mk (Kd.R_mono (Kd.R_told (Kd.R_told (Kd.R_old (up HO_3.out) hb) (Kd.R_base ho0)) (Kd.R_base ho1)) (fun _ h_ => h_.1));have n1_:= mk (Kd.R_below (up HO_7.out) hb);have n2_:= mk (Kd.R_below (up HO_9.out) hb);have n3_:= mk (Kd.R_lower (Kd.R_new' ho0 (Kd.R_lt (up HO_3.out))) (below_size (by repeat (first|(with_reducible first|exact HB.out|apply below_alloc|apply pw_below_drewN|apply below_drew1)|exact HB.out))));have n4_:= mk (Kd.R_lower (Kd.R_new' ho1 (Kd.R_lt (up HO_3.out))) (below_size (by repeat (first|(with_reducible first|exact HB.out|apply below_alloc|apply pw_below_drewN|apply below_drew1)|exact HB.out))));have n5_:= mk (Kd.R_lower ho2 (below_size (by repeat (first|(with_reducible first|exact HB.out|apply below_alloc|apply pw_below_drewN|apply below_drew1)|exact HB.out))));have n6_:= mk (below_step (by repeat (first|(with_reducible first|exact HB.out|apply below_alloc|apply pw_below_drewN|apply below_drew1)|exact HB.out)) hb);clear HO_3;clear HO_7;clear HO_9;clear HB;have HO_3:= n0_;have HO_7:= n1_;have HO_9:= n2_;have HO322:= n3_;have HO325:= n4_;have HO328:= n5_;have HB:= n6_;clear n0_ n1_ n2_ n3_ n4_ n5_ n6_;(try clear hb);(try clear hb2);(try clear hk);(try clear hi);(try clear ho0);(try clear ho1);(try clear ho2))|((with_reducible refine gate_dst (N:= 11) rfl ?_);(try (refine gate_guard (by rfl) ?_;dsimp only));refine box_event ?hg (N:= 11) ?hd (cs:= #[.slice none 0 0,.slice none 0 0,.slice none 0 0]) (t:= 31) ?hr ?_;(case hd => rfl);(case hg => rfl);(case hr => first|(go_simp;done)|(go_simp;rfl));intro gb329 hg w30 hbox hb;have n0_:= mk (Kd.R_below (up HO_3.out) hb);have n1_:= mk (Kd.R_below (up HO_7.out) hb);have n2_:= mk (Kd.R_below (up HO_9.out) hb);have n3_:= mk (Kd.R_below (up HO322.out) hb);have n4_:= mk (Kd.R_below (up HO325.out) hb);have n5_:= mk (Kd.R_below (up HO328.out) hb);have n6_:= mk (below_step (by repeat (first|(with_reducible first|exact HB.out|apply below_alloc|apply pw_below_drewN|apply below_drew1)|exact HB.out)) hb);have n7_:= mk (hbox);have n8_:= mk ((by rw [hg];exact (below_size (by repeat (first|(with_reducible first|exact HB.out|apply below_alloc|apply pw_below_drewN|apply below_drew1)|exact HB.out))) : w.heap.size ≤ gb329));have n9_:= mk ((by rw [hg];exact (below_size (by repeat (first|(with_reducible first|exact HB.out|apply below_alloc|apply pw_below_drewN|apply below_drew1)|exact HB.out))) : w.heap.size ≤ gb329));clear HO_3;clear HO_7;clear HO_9;clear HO322;clear HO325;clear HO328;clear HB;have HO_3:= n0_;have HO_7:= n1_;have HO_9:= n2_;have HO322:= n3_;have HO325:= n4_;have HO328:= n5_;have HB:= n6_;have BK329:= n7_;have GW329:= n8_;have GE329:= n9_;clear n0_ n1_ n2_ n3_ n4_ n5_ n6_ n7_ n8_ n9_;clear hb hbox hg;obtain ⟨Ao31,co31,eo31⟩:= Kd.R_slice HO322.out;subst eo31;have hcz32_0 : w30.cell? ⟨gb329,0,none⟩ = some (.slice none 0 0):= (blk_cell BK329.out 0).trans rfl;have hcz32_1 : w30.cell? ⟨gb329,1,none⟩ = some (.slice none 0 0):= (blk_cell BK329.out 1).trans rfl;have hcz32_2 : w30.cell? ⟨gb329,2,none⟩ = some (.slice none 0 0):= (blk_cell BK329.out 2).trans rfl;have hfz32_0:= blk_frozen BK329.out 0;have hfz32_1:= blk_frozen BK329.out 1;have hfz32_2:= blk_frozen BK329.out 2;obtain ⟨Ao33,co33,eo33⟩:= Kd.R_slice HO325.out;subst eo33;obtain ⟨Ao34,co34,eo34⟩:= Kd.R_slice HO328.out;subst eo34;obtain ⟨Ao35,co35,eo35⟩:= Kd.R_slice HO_7.out;subst eo35)|(go_at_call 11;(with_reducible refine (impl_ApplySwaps.calls kj17 _ _ t320 _ _ t323 _ _ t326 _ _ t312 t330 t333 t336 t339 _ ?side1 ?side2 ?side3 ?side4 ?side5 ?side6 ?side7 ?side8 A25.out).mono ?_);(case side1 => refine (Kd.R_reads' (e:= 3) (base:= w.heap.size) (ok:= fun k_ => (some k_ ≠ (.slice Ao33 t323.length co33 : Value).ownBlock ∧ some k_ ≠ (.slice Ao9 t306.length co9 : Value).ownBlock)) (n:= t320.length) (c:= co31) ?_).2.2;exact (by exact up ((Kd.R_mono (Kd.R_far (p:= ⟨gb329,2,none⟩) (Kd.R_far (p:= ⟨gb329,1,none⟩) (Kd.R_far (p:= ⟨gb329,0,none⟩) (Kd.R_types HO322.out BK329.out (by decide)) (fun _ hk => hk.2) (.slice Ao31 t320.length co31)) (fun _ hk => hk.2) (.slice Ao33 t323.length co33)) (fun _ hk => hk.2) (.slice Ao34 t326.length co34)) (fun _ h_ => h_.1)))));(case side2 => exact (Kd.R_reads' HO322.out).2.1);(case side3 => refine (Kd.R_reads' (e:= 3) (base:= w.heap.size) (ok:= fun k_ => (some k_ ≠ (.slice Ao31 t320.length co31 : Value).ownBlock ∧ some k_ ≠ (.slice Ao9 t306.length co9 : Value).ownBlock)) (n:= t323.length) (c:= co33) ?_).2.2;exact (by exact up ((Kd.R_mono (Kd.R_far (p:= ⟨gb329,2,none⟩) (Kd.R_far (p:= ⟨gb329,1,none⟩) (Kd.R_far (p:= ⟨gb329,0,none⟩) (Kd.R_types HO325.out BK329.out (by decide)) (fun _ hk => hk.2) (.slice Ao31 t320.length co31)) (fun _ hk => hk.2) (.slice Ao33 t323.length co33)) (fun _ hk => hk.2) (.slice Ao34 t326.length co34)) (fun _ h_ => h_.1)))));(case side4 => exact (Kd.R_reads' HO325.out).2.1);(case side5 => refine (Kd.R_reads' (e:= 74) (base:= w.heap.size) (ok:= fun k_ => True) (n:= t326.length) (c:= co34) ?_).2.2;exact (by exact up ((Kd.R_mono (Kd.R_far (p:= ⟨gb329,2,none⟩) (Kd.R_far (p:= ⟨gb329,1,none⟩) (Kd.R_far (p:= ⟨gb329,0,none⟩) (Kd.R_types HO328.out BK329.out (by decide)) (fun _ hk => hk.2) (.slice Ao31 t320.length co31)) (fun _ hk => hk.2) (.slice Ao33 t323.length co33)) (fun _ hk => hk.2) (.slice Ao34 t326.length co34)) (fun _ h_ => h_.1)))));(case side6 => exact (Kd.R_reads' HO328.out).2.1);(case side7 => refine (Kd.R_reads' (e:= 50) (base:= w.heap.size) (ok:= fun k_ => some k_ ≠ (v318 : Value).ownBlock) (n:= t312.length) (c:= co35) ?_).2.2;exact (by exact up ((Kd.R_mono (Kd.R_far (p:= ⟨gb329,2,none⟩) (Kd.R_far (p:= ⟨gb329,1,none⟩) (Kd.R_far (p:= ⟨gb329,0,none⟩) (Kd.R_types HO_7.out BK329.out (by decide)) (fun _ hk => hk.2) (.slice Ao31 t320.length co31)) (fun _ hk => hk.2) (.slice Ao33 t323.length co33)) (fun _ hk => hk.2) (.slice Ao34 t326.length co34)) (fun _ h_ => h_.1)))));(case side8 => exact (Kd.R_reads' HO_7.out).2.1);rintro e w36 ⟨v331,v334,v337,rfl,ho0,ho1,ho2,hb⟩;have n0_:= mk (Kd.R_mono (Kd.R_told (Kd.R_told (Kd.R_old (by exact up ((Kd.R_mono (Kd.R_far (p:= ⟨gb329,2,none⟩) (Kd.R_far (p:= ⟨gb329,1,none⟩) (Kd.R_far (p:= ⟨gb329,0,none⟩) (Kd.R_types HO_3.out BK329.out (by decide)) (fun _ hk => hk.2) (.slice Ao31 t320.length co31)) (fun _ hk => hk.2) (.slice Ao33 t323.length co33)) (fun _ hk => hk.2) (.slice Ao34 t326.length co34)) (fun _ h_ => h_.1)))) hb) (Kd.R_base ho0)) (Kd.R_base ho1)) (fun _ h_ => h_.1));have n1_:= mk (Kd.R_below (by exact up ((Kd.R_mono (Kd.R_far (p:= ⟨gb329,2,none⟩) (Kd.R_far (p:= ⟨gb329,1,none⟩) (Kd.R_far (p:= ⟨gb329,0,none⟩) (Kd.R_types HO_7.out BK329.out (by decide)) (fun _ hk => hk.2) (.slice Ao31 t320.length co31)) (fun _ hk => hk.2) (.slice Ao33 t323.length co33)) (fun _ hk => hk.2) (.slice Ao34 t326.length co34)) (fun _ h_ => h_.1)))) hb);have n2_:= mk (Kd.R_below (by exact up ((Kd.R_mono (Kd.R_far (p:= ⟨gb329,2,none⟩) (Kd.R_far (p:= ⟨gb329,1,none⟩) (Kd.R_far (p:= ⟨gb329,0,none⟩) (Kd.R_types HO_9.out BK329.out (by decide)) (fun _ hk => hk.2) (.slice Ao31 t320.length co31)) (fun _ hk => hk.2) (.slice Ao33 t323.length co33)) (fun _ hk => hk.2) (.slice Ao34 t326.length co34)) (fun _ h_ => h_.1)))) hb);have n3_:= mk (Kd.R_mono (Kd.R_told (Kd.R_told (Kd.R_old (by exact up ((Kd.R_mono (Kd.R_far (p:= ⟨gb329,2,none⟩) (Kd.R_far (p:= ⟨gb329,1,none⟩) (Kd.R_far (p:= ⟨gb329,0,none⟩) (Kd.R_types HO322.out BK329.out (by decide)) (fun _ hk => hk.2) (.slice Ao31 t320.length co31)) (fun _ hk => hk.2) (.slice Ao33 t323.length co33)) (fun _ hk => hk.2) (.slice Ao34 t326.length co34)) (fun _ h_ => h_.1)))) hb) (Kd.R_base ho0)) (Kd.R_base ho1)) (fun _ h_ => h_.1));have n4_:= mk (Kd.R_mono (Kd.R_told (Kd.R_told (Kd.R_old (by exact up ((Kd.R_mono (Kd.R_far (p:= ⟨gb329,2,none⟩) (Kd.R_far (p:= ⟨gb329,1,none⟩) (Kd.R_far (p:= ⟨gb329,0,none⟩) (Kd.R_types HO325.out BK329.out (by decide)) (fun _ hk => hk.2) (.slice Ao31 t320.length co31)) (fun _ hk => hk.2) (.slice Ao33 t323.length co33)) (fun _ hk => hk.2) (.slice Ao34 t326.length co34)) (fun _ h_ => h_.1)))) hb) (Kd.R_base ho0)) (Kd.R_base ho1)) (fun _ h_ => h_.1));have n5_:= mk (Kd.R_elder' (by exact up ((Kd.R_mono (Kd.R_far (p:= ⟨gb329,2,none⟩) (Kd.R_far (p:= ⟨gb329,1,none⟩) (Kd.R_far (p:= ⟨gb329,0,none⟩) (Kd.R_types HO328.out BK329.out (by decide)) (fun _ hk => hk.2) (.slice Ao31 t320.length co31)) (fun _ hk => hk.2) (.slice Ao33 t323.length co33)) (fun _ hk => hk.2) (.slice Ao34 t326.length co34)) (fun _ h_ => h_.1)))) (Kd.R_base ho2) hb);have n6_:= mk (Kd.R_lower (Kd.R_new' (Kd.R_new' (Kd.R_new' ho0 (Kd.R_lt (by exact up ((Kd.R_mono (Kd.R_far (p:= ⟨gb329,2,none⟩) (Kd.R_far (p:= ⟨gb329,1,none⟩) (Kd.R_far (p:= ⟨gb329,0,none⟩) (Kd.R_types HO_3.out BK329.out (by decide)) (fun _ hk => hk.2) (.slice Ao31 t320.length co31)) (fun _ hk => hk.2) (.slice Ao33 t323.length co33)) (fun _ hk => hk.2) (.slice Ao34 t326.length co34)) (fun _ h_ => h_.1)))))) (Kd.R_lt (by exact up ((Kd.R_mono (Kd.R_far (p:= ⟨gb329,2,none⟩) (Kd.R_far (p:= ⟨gb329,1,none⟩) (Kd.R_far (p:= ⟨gb329,0,none⟩) (Kd.R_types HO322.out BK329.out (by decide)) (fun _ hk => hk.2) (.slice Ao31 t320.length co31)) (fun _ hk => hk.2) (.slice Ao33 t323.length co33)) (fun _ hk => hk.2) (.slice Ao34 t326.length co34)) (fun _ h_ => h_.1)))))) (Kd.R_lt (by exact up ((Kd.R_mono (Kd.R_far (p:= ⟨gb329,2,none⟩) (Kd.R_far (p:= ⟨gb329,1,none⟩) (Kd.R_far (p:= ⟨gb329,0,none⟩) (Kd.R_types HO325.out BK329.out (by decide)) (fun _ hk => hk.2) (.slice Ao31 t320.length co31)) (fun _ hk => hk.2) (.slice Ao33 t323.length co33)) (fun _ hk => hk.2) (.slice Ao34 t326.length co34)) (fun _ h_ => h_.1)))))) (below_size (by repeat (first|(with_reducible first|exact HB.out|apply below_alloc|apply pw_below_drewN|apply below_drew1|refine below_set ?_ GE329.out)|exact HB.out))));have n7_:= mk (Kd.R_lower (Kd.R_new' (Kd.R_new' (Kd.R_new' ho1 (Kd.R_lt (by exact up ((Kd.R_mono (Kd.R_far (p:= ⟨gb329,2,none⟩) (Kd.R_far (p:= ⟨gb329,1,none⟩) (Kd.R_far (p:= ⟨gb329,0,none⟩) (Kd.R_types HO_3.out BK329.out (by decide)) (fun _ hk => hk.2) (.slice Ao31 t320.length co31)) (fun _ hk => hk.2) (.slice Ao33 t323.length co33)) (fun _ hk => hk.2) (.slice Ao34 t326.length co34)) (fun _ h_ => h_.1)))))) (Kd.R_lt (by exact up ((Kd.R_mono (Kd.R_far (p:= ⟨gb329,2,none⟩) (Kd.R_far (p:= ⟨gb329,1,none⟩) (Kd.R_far (p:= ⟨gb329,0,none⟩) (Kd.R_types HO322.out BK329.out (by decide)) (fun _ hk => hk.2) (.slice Ao31 t320.length co31)) (fun _ hk => hk.2) (.slice Ao33 t323.length co33)) (fun _ hk => hk.2) (.slice Ao34 t326.length co34)) (fun _ h_ => h_.1)))))) (Kd.R_lt (by exact up ((Kd.R_mono (Kd.R_far (p:= ⟨gb329,2,none⟩) (Kd.R_far (p:= ⟨gb329,1,none⟩) (Kd.R_far (p:= ⟨gb329,0,none⟩) (Kd.R_types HO325.out BK329.out (by decide)) (fun _ hk => hk.2) (.slice Ao31 t320.length co31)) (fun _ hk => hk.2) (.slice Ao33 t323.length co33)) (fun _ hk => hk.2) (.slice Ao34 t326.length co34)) (fun _ h_ => h_.1)))))) (below_size (by repeat (first|(with_reducible first|exact HB.out|apply below_alloc|apply pw_below_drewN|apply below_drew1|refine below_set ?_ GE329.out)|exact HB.out))));have n8_:= mk (Kd.R_lower (Kd.R_new' ho2 (Kd.R_lt (by exact up ((Kd.R_mono (Kd.R_far (p:= ⟨gb329,2,none⟩) (Kd.R_far (p:= ⟨gb329,1,none⟩) (Kd.R_far (p:= ⟨gb329,0,none⟩) (Kd.R_types HO328.out BK329.out (by decide)) (fun _ hk => hk.2) (.slice Ao31 t320.length co31)) (fun _ hk => hk.2) (.slice Ao33 t323.length co33)) (fun _ hk => hk.2) (.slice Ao34 t326.length co34)) (fun _ h_ => h_.1)))))) (below_size (by repeat (first|(with_reducible first|exact HB.out|apply below_alloc|apply pw_below_drewN|apply below_drew1|refine below_set ?_ GE329.out)|exact HB.out))));have n9_:= mk (blk_below (g:= gb329) (o:= .cells #[.slice Ao31 t320.length co31,.slice Ao33 t323.length co33,.slice Ao34 t326.length co34] 31 (0,0)) (by (with_reducible repeat (first|refine blk_drewN ?_ _|refine blk_drew ?_|refine blk_alloc ?_ _));refine blk_put (cs:= #[.slice Ao31 t320.length co31,.slice Ao33 t323.length co33,.slice none 0 0]) ?_ 2 _ rfl;(with_reducible repeat (first|refine blk_drewN ?_ _|refine blk_drew ?_|refine blk_alloc ?_ _));refine blk_put (cs:= #[.slice Ao31 t320.length co31,.slice none 0 0,.slice none 0 0]) ?_ 1 _ rfl;(with_reducible repeat (first|refine blk_drewN ?_ _|refine blk_drew ?_|refine blk_alloc ?_ _));refine blk_put (cs:= #[.slice none 0 0,.slice none 0 0,.slice none 0 0]) ?_ 0 _ rfl;(with_reducible repeat (first|refine blk_drewN ?_ _|refine blk_drew ?_|refine blk_alloc ?_ _));exact BK329.out) hb);have n10_:= mk (below_step (by repeat (first|(with_reducible first|exact HB.out|apply below_alloc|apply pw_below_drewN|apply below_drew1|refine below_set ?_ GE329.out)|exact HB.out)) hb);clear HO_3;clear HO_7;clear HO_9;clear HO322;clear HO325;clear HO328;clear BK329;clear HB;have HO_3:= n0_;have HO_7:= n1_;have HO_9:= n2_;have HO322:= n3_;have HO325:= n4_;have HO328:= n5_;have HO332:= n6_;have HO335:= n7_;have HO338:= n8_;have BK329:= n9_;have HB:= n10_;clear n0_ n1_ n2_ n3_ n4_ n5_ n6_ n7_ n8_ n9_ n10_;(try clear hb);(try clear hb2);(try clear hk);(try clear hi);(try clear ho0);(try clear ho1);(try clear ho2))|((with_reducible refine gate_dst (N:= 12) rfl ?_);(try (refine gate_guard (by rfl) ?_;dsimp only));refine box_event ?hg (N:= 12) ?hd (cs:= #[.slice none 0 0,.slice none 0 0,.slice none 0 0]) (t:= 31) ?hr ?_;(case hd => rfl);(case hg => rfl);(case hr => first|(go_simp;done)|(go_simp;rfl));intro gb340 hg w37 hbox hb;have n0_:= mk (Kd.R_below (up HO_3.out) hb);have n1_:= mk (Kd.R_below (up HO_7.out) hb);have n2_:= mk (Kd.R_below (up HO_9.out) hb);have n3_:= mk (Kd.R_below (up HO322.out) hb);have n4_:= mk (Kd.R_below (up HO325.out) hb);have n5_:= mk (Kd.R_below (up HO328.out) hb);have n6_:= mk (Kd.R_below (up HO332.out) hb);have n7_:= mk (Kd.R_below (up HO335.out) hb);have n8_:= mk (Kd.R_below (up HO338.out) hb);have n9_:= mk (blk_below (g:= gb329) (o:= .cells #[.slice Ao31 t320.length co31,.slice Ao33 t323.length co33,.slice Ao34 t326.length co34] 31 (0,0)) (ub BK329.out) hb);have n10_:= mk (below_step (by repeat (first|(with_reducible first|exact HB.out|apply below_alloc|apply pw_below_drewN|apply below_drew1|refine below_set ?_ GE329.out)|exact HB.out)) hb);have n11_:= mk (hbox);have n12_:= mk ((by rw [hg];exact (below_size (by repeat (first|(with_reducible first|exact HB.out|apply below_alloc|apply pw_below_drewN|apply below_drew1|refine below_set ?_ GE329.out)|exact HB.out))) : w.heap.size ≤ gb340));have n13_:= mk ((by rw [hg];exact (below_size (by repeat (first|(with_reducible first|exact HB.out|apply below_alloc|apply pw_below_drewN|apply below_drew1|refine below_set ?_ GE329.out)|exact HB.out))) : w.heap.size ≤ gb340));have n14_:= mk ((by rw [hg];exact Nat.ne_of_lt (blk_lt (g:= gb329) (o:= .cells #[.slice Ao31 t320.length co31,.slice Ao33 t323.length co33,.slice Ao34 t326.length co34] 31 (0,0)) (ub BK329.out)) : gb329 ≠ gb340));have n15_:= mk ((by rw [hg];exact Nat.ne_of_gt (blk_lt (g:= gb329) (o:= .cells #[.slice Ao31 t320.length co31,.slice Ao33 t323.length co33,.slice Ao34 t326.length co34] 31 (0,0)) (ub BK329.out)) : gb340 ≠ gb329));clear HO_3;clear HO_7;clear HO_9;clear HO322;clear HO325;clear HO328;clear HO332;clear HO335;clear HO338;clear BK329;clear HB;have HO_3:= n0_;have HO_7:= n1_;have HO_9:= n2_;have HO322:= n3_;have HO325:= n4_;have HO328:= n5_;have HO332:= n6_;have HO335:= n7_;have HO338:= n8_;have BK329:= n9_;have HB:= n10_;have BK340:= n11_;have GW340:= n12_;have GE340:= n13_;have NB329_340:= n14_;have NB340_329:= n15_;clear n0_ n1_ n2_ n3_ n4_ n5_ n6_ n7_ n8_ n9_ n10_ n11_ n12_ n13_ n14_ n15_;clear hb hbox hg;obtain ⟨Ao38,co38,eo38⟩:= Kd.R_slice HO332.out;subst eo38;have hnb39:= NB340_329.out;have hnc39:= NB329_340.out;have hcz40_0 : w37.cell? ⟨gb340,0,none⟩ = some (.slice none 0 0):= (blk_cell BK340.out 0).trans rfl;have hcz40_1 : w37.cell? ⟨gb340,1,none⟩ = some (.slice none 0 0):= (blk_cell BK340.out 1).trans rfl;have hcz40_2 : w37.cell? ⟨gb340,2,none⟩ = some (.slice none 0 0):= (blk_cell BK340.out 2).trans rfl;have hfz40_0:= blk_frozen BK340.out 0;have hfz40_1:= blk_frozen BK340.out 1;have hfz40_2:= blk_frozen BK340.out 2;obtain ⟨Ao41,co41,eo41⟩:= Kd.R_slice HO335.out;subst eo41;obtain ⟨Ao42,co42,eo42⟩:= Kd.R_slice HO338.out;subst eo42)|(go_at_call 18;(with_reducible refine (impl_UndoSwaps.calls kj17 _ _ t330 _ _ t333 _ _ t336 _ _ t312 t341 t344 t347 t350 _ ?side1 ?side2 ?side3 ?side4 ?side5 ?side6 ?side7 ?side8 A26.out).mono ?_);(case side1 => refine (Kd.R_reads' (e:= 3) (base:= w.heap.size) (ok:= fun k_ => (((some k_ ≠ (.slice Ao41 t333.length co41 : Value).ownBlock ∧ some k_ ≠ (.slice Ao9 t306.length co9 : Value).ownBlock) ∧ some k_ ≠ (.slice Ao31 t320.length co31 : Value).ownBlock) ∧ some k_ ≠ (.slice Ao33 t323.length co33 : Value).ownBlock)) (n:= t330.length) (c:= co38) ?_).2.2;exact (by exact up ((Kd.R_mono (Kd.R_far (p:= ⟨gb340,2,none⟩) (Kd.R_far (p:= ⟨gb340,1,none⟩) (Kd.R_far (p:= ⟨gb340,0,none⟩) (Kd.R_types HO332.out BK340.out (by decide)) (fun _ hk => hk.2) (.slice Ao38 t330.length co38)) (fun _ hk => hk.2) (.slice Ao41 t333.length co41)) (fun _ hk => hk.2) (.slice Ao42 t336.length co42)) (fun _ h_ => h_.1)))));(case side2 => exact (Kd.R_reads' HO332.out).2.1);(case side3 => refine (Kd.R_reads' (e:= 3) (base:= w.heap.size) (ok:= fun k_ => (((some k_ ≠ (.slice Ao38 t330.length co38 : Value).ownBlock ∧ some k_ ≠ (.slice Ao9 t306.length co9 : Value).ownBlock) ∧ some k_ ≠ (.slice Ao31 t320.length co31 : Value).ownBlock) ∧ some k_ ≠ (.slice Ao33 t323.length co33 : Value).ownBlock)) (n:= t333.length) (c:= co41) ?_).2.2;exact (by exact up ((Kd.R_mono (Kd.R_far (p:= ⟨gb340,2,none⟩) (Kd.R_far (p:= ⟨gb340,1,none⟩) (Kd.R_far (p:= ⟨gb340,0,none⟩) (Kd.R_types HO335.out BK340.out (by decide)) (fun _ hk => hk.2) (.slice Ao38 t330.length co38)) (fun _ hk => hk.2) (.slice Ao41 t333.length co41)) (fun _ hk => hk.2) (.slice Ao42 t336.length co42)) (fun _ h_ => h_.1)))));(case side4 => exact (Kd.R_reads' HO335.out).2.1);(case side5 => refine (Kd.R_reads' (e:= 74) (base:= w.heap.size) (ok:= fun k_ => (True ∧ some k_ ≠ (.slice Ao34 t326.length co34 : Value).ownBlock)) (n:= t336.length) (c:= co42) ?_).2.2;exact (by exact up ((Kd.R_mono (Kd.R_far (p:= ⟨gb340,2,none⟩) (Kd.R_far (p:= ⟨gb340,1,none⟩) (Kd.R_far (p:= ⟨gb340,0,none⟩) (Kd.R_types HO338.out BK340.out (by decide)) (fun _ hk => hk.2) (.slice Ao38 t330.length co38)) (fun _ hk => hk.2) (.slice Ao41 t333.length co41)) (fun _ hk => hk.2) (.slice Ao42 t336.length co42)) (fun _ h_ => h_.1)))));(case side6 => exact (Kd.R_reads' HO338.out).2.1);(case side7 => refine (Kd.R_reads' (e:= 50) (base:= w.heap.size) (ok:= fun k_ => some k_ ≠ (v318 : Value).ownBlock) (n:= t312.length) (c:= co35) ?_).2.2;exact (by exact up ((Kd.R_mono (Kd.R_far (p:= ⟨gb340,2,none⟩) (Kd.R_far (p:= ⟨gb340,1,none⟩) (Kd.R_far (p:= ⟨gb340,0,none⟩) (Kd.R_types HO_7.out BK340.out (by decide)) (fun _ hk => hk.2) (.slice Ao38 t330.length co38)) (fun _ hk => hk.2) (.slice Ao41 t333.length co41)) (fun _ hk => hk.2) (.slice Ao42 t336.length co42)) (fun _ h_ => h_.1)))));(case side8 => exact (Kd.R_reads' HO_7.out).2.1);rintro e w43 ⟨v342,v345,v348,rfl,ho0,ho1,ho2,hb⟩;have n0_:= mk (Kd.R_mono (Kd.R_told (Kd.R_told (Kd.R_old (by exact up ((Kd.R_mono (Kd.R_far (p:= ⟨gb340,2,none⟩) (Kd.R_far (p:= ⟨gb340,1,none⟩) (Kd.R_far (p:= ⟨gb340,0,none⟩) (Kd.R_types HO_3.out BK340.out (by decide)) (fun _ hk => hk.2) (.slice Ao38 t330.length co38)) (fun _ hk => hk.2) (.slice Ao41 t333.length co41)) (fun _ hk => hk.2) (.slice Ao42 t336.length co42)) (fun _ h_ => h_.1)))) hb) (Kd.R_base ho0)) (Kd.R_base ho1)) (fun _ h_ => h_.1));have n1_:= mk (Kd.R_below (by exact up ((Kd.R_mono (Kd.R_far (p:= ⟨gb340,2,none⟩) (Kd.R_far (p:= ⟨gb340,1,none⟩) (Kd.R_far (p:= ⟨gb340,0,none⟩) (Kd.R_types HO_7.out BK340.out (by decide)) (fun _ hk => hk.2) (.slice Ao38 t330.length co38)) (fun _ hk => hk.2) (.slice Ao41 t333.length co41)) (fun _ hk => hk.2) (.slice Ao42 t336.length co42)) (fun _ h_ => h_.1)))) hb);have n2_:= mk (Kd.R_below (by exact up ((Kd.R_mono (Kd.R_far (p:= ⟨gb340,2,none⟩) (Kd.R_far (p:= ⟨gb340,1,none⟩) (Kd.R_far (p:= ⟨gb340,0,none⟩) (Kd.R_types HO_9.out BK340.out (by decide)) (fun _ hk => hk.2) (.slice Ao38 t330.length co38)) (fun _ hk => hk.2) (.slice Ao41 t333.length co41)) (fun _ hk => hk.2) (.slice Ao42 t336.length co42)) (fun _ h_ => h_.1)))) hb);have n3_:= mk (Kd.R_mono (Kd.R_told (Kd.R_told (Kd.R_old (by exact up ((Kd.R_mono (Kd.R_far (p:= ⟨gb340,2,none⟩) (Kd.R_far (p:= ⟨gb340,1,none⟩) (Kd.R_far (p:= ⟨gb340,0,none⟩) (Kd.R_types HO322.out BK340.out (by decide)) (fun _ hk => hk.2) (.slice Ao38 t330.length co38)) (fun _ hk => hk.2) (.slice Ao41 t333.length co41)) (fun _ hk => hk.2) (.slice Ao42 t336.length co42)) (fun _ h_ => h_.1)))) hb) (Kd.R_base ho0)) (Kd.R_base ho1)) (fun _ h_ => h_.1));have n4_:= mk (Kd.R_mono (Kd.R_told (Kd.R_told (Kd.R_old (by exact up ((Kd.R_mono (Kd.R_far (p:= ⟨gb340,2,none⟩) (Kd.R_far (p:= ⟨gb340,1,none⟩) (Kd.R_far (p:= ⟨gb340,0,none⟩) (Kd.R_types HO325.out BK340.out (by decide)) (fun _ hk => hk.2) (.slice Ao38 t330.length co38)) (fun _ hk => hk.2) (.slice Ao41 t333.length co41)) (fun _ hk => hk.2) (.slice Ao42 t336.length co42)) (fun _ h_ => h_.1)))) hb) (Kd.R_base ho0)) (Kd.R_base ho1)) (fun _ h_ => h_.1));have n5_:= mk (Kd.R_elder' (by exact up ((Kd.R_mono (Kd.R_far (p:= ⟨gb340,2,none⟩) (Kd.R_far (p:= ⟨gb340,1,none⟩) (Kd.R_far (p:= ⟨gb340,0,none⟩) (Kd.R_types HO328.out BK340.out (by decide)) (fun _ hk => hk.2) (.slice Ao38 t330.length co38)) (fun _ hk => hk.2) (.slice Ao41 t333.length co41)) (fun _ hk => hk.2) (.slice Ao42 t336.length co42)) (fun _ h_ => h_.1)))) (Kd.R_base ho2) hb);have n6_:= mk (Kd.R_mono (Kd.R_told (Kd.R_told (Kd.R_old (by exact up ((Kd.R_mono (Kd.R_far (p:= ⟨gb340,2,none⟩) (Kd.R_far (p:= ⟨gb340,1,none⟩) (Kd.R_far (p:= ⟨gb340,0,none⟩) (Kd.R_types HO332.out BK340.out (by decide)) (fun _ hk => hk.2) (.slice Ao38 t330.length co38)) (fun _ hk => hk.2) (.slice Ao41 t333.length co41)) (fun _ hk => hk.2) (.slice Ao42 t336.length co42)) (fun _ h_ => h_.1)))) hb) (Kd.R_base ho0)) (Kd.R_base ho1)) (fun _ h_ => h_.1));have n7_:= mk (Kd.R_mono (Kd.R_told (Kd.R_told (Kd.R_old (by exact up ((Kd.R_mono (Kd.R_far (p:= ⟨gb340,2,none⟩) (Kd.R_far (p:= ⟨gb340,1,none⟩) (Kd.R_far (p:= ⟨gb340,0,none⟩) (Kd.R_types HO335.out BK340.out (by decide)) (fun _ hk => hk.2) (.slice Ao38 t330.length co38)) (fun _ hk => hk.2) (.slice Ao41 t333.length co41)) (fun _ hk => hk.2) (.slice Ao42 t336.length co42)) (fun _ h_ => h_.1)))) hb) (Kd.R_base ho0)) (Kd.R_base ho1)) (fun _ h_ => h_.1));have n8_:= mk (Kd.R_elder' (by exact up ((Kd.R_mono (Kd.R_far (p:= ⟨gb340,2,none⟩) (Kd.R_far (p:= ⟨gb340,1,none⟩) (Kd.R_far (p:= ⟨gb340,0,none⟩) (Kd.R_types HO338.out BK340.out (by decide)) (fun _ hk => hk.2) (.slice Ao38 t330.length co38)) (fun _ hk => hk.2) (.slice Ao41 t333.length co41)) (fun _ hk => hk.2) (.slice Ao42 t336.length co42)) (fun _ h_ => h_.1)))) (Kd.R_base ho2) hb);have n9_:= mk (Kd.R_lower (Kd.R_new' (Kd.R_new' (Kd.R_new' (Kd.R_new' (Kd.R_new' ho0 (Kd.R_lt (by exact up ((Kd.R_mono (Kd.R_far (p:= ⟨gb340,2,none⟩) (Kd.R_far (p:= ⟨gb340,1,none⟩) (Kd.R_far (p:= ⟨gb340,0,none⟩) (Kd.R_types HO_3.out BK340.out (by decide)) (fun _ hk => hk.2) (.slice Ao38 t330.length co38)) (fun _ hk => hk.2) (.slice Ao41 t333.length co41)) (fun _ hk => hk.2) (.slice Ao42 t336.length co42)) (fun _ h_ => h_.1)))))) (Kd.R_lt (by exact up ((Kd.R_mono (Kd.R_far (p:= ⟨gb340,2,none⟩) (Kd.R_far (p:= ⟨gb340,1,none⟩) (Kd.R_far (p:= ⟨gb340,0,none⟩) (Kd.R_types HO322.out BK340.out (by decide)) (fun _ hk => hk.2) (.slice Ao38 t330.length co38)) (fun _ hk => hk.2) (.slice Ao41 t333.length co41)) (fun _ hk => hk.2) (.slice Ao42 t336.length co42)) (fun _ h_ => h_.1)))))) (Kd.R_lt (by exact up ((Kd.R_mono (Kd.R_far (p:= ⟨gb340,2,none⟩) (Kd.R_far (p:= ⟨gb340,1,none⟩) (Kd.R_far (p:= ⟨gb340,0,none⟩) (Kd.R_types HO325.out BK340.out (by decide)) (fun _ hk => hk.2) (.slice Ao38 t330.length co38)) (fun _ hk => hk.2) (.slice Ao41 t333.length co41)) (fun _ hk => hk.2) (.slice Ao42 t336.length co42)) (fun _ h_ => h_.1)))))) (Kd.R_lt (by exact up ((Kd.R_mono (Kd.R_far (p:= ⟨gb340,2,none⟩) (Kd.R_far (p:= ⟨gb340,1,none⟩) (Kd.R_far (p:= ⟨gb340,0,none⟩) (Kd.R_types HO332.out BK340.out (by decide)) (fun _ hk => hk.2) (.slice Ao38 t330.length co38)) (fun _ hk => hk.2) (.slice Ao41 t333.length co41)) (fun _ hk => hk.2) (.slice Ao42 t336.length co42)) (fun _ h_ => h_.1)))))) (Kd.R_lt (by exact up ((Kd.R_mono (Kd.R_far (p:= ⟨gb340,2,none⟩) (Kd.R_far (p:= ⟨gb340,1,none⟩) (Kd.R_far (p:= ⟨gb340,0,none⟩) (Kd.R_types HO335.out BK340.out (by decide)) (fun _ hk => hk.2) (.slice Ao38 t330.length co38)) (fun _ hk => hk.2) (.slice Ao41 t333.length co41)) (fun _ hk => hk.2) (.slice Ao42 t336.length co42)) (fun _ h_ => h_.1)))))) (below_size (by repeat (first|(with_reducible first|exact HB.out|apply below_alloc|apply pw_below_drewN|apply below_drew1|refine below_set ?_ GE329.out|refine below_set ?_ GE340.out)|exact HB.out))));have n10_:= mk (Kd.R_lower (Kd.R_new' (Kd.R_new' (Kd.R_new' (Kd.R_new' (Kd.R_new' ho1 (Kd.R_lt (by exact up ((Kd.R_mono (Kd.R_far (p:= ⟨gb340,2,none⟩) (Kd.R_far (p:= ⟨gb340,1,none⟩) (Kd.R_far (p:= ⟨gb340,0,none⟩) (Kd.R_types HO_3.out BK340.out (by decide)) (fun _ hk => hk.2) (.slice Ao38 t330.length co38)) (fun _ hk => hk.2) (.slice Ao41 t333.length co41)) (fun _ hk => hk.2) (.slice Ao42 t336.length co42)) (fun _ h_ => h_.1)))))) (Kd.R_lt (by exact up ((Kd.R_mono (Kd.R_far (p:= ⟨gb340,2,none⟩) (Kd.R_far (p:= ⟨gb340,1,none⟩) (Kd.R_far (p:= ⟨gb340,0,none⟩) (Kd.R_types HO322.out BK340.out (by decide)) (fun _ hk => hk.2) (.slice Ao38 t330.length co38)) (fun _ hk => hk.2) (.slice Ao41 t333.length co41)) (fun _ hk => hk.2) (.slice Ao42 t336.length co42)) (fun _ h_ => h_.1)))))) (Kd.R_lt (by exact up ((Kd.R_mono (Kd.R_far (p:= ⟨gb340,2,none⟩) (Kd.R_far (p:= ⟨gb340,1,none⟩) (Kd.R_far (p:= ⟨gb340,0,none⟩) (Kd.R_types HO325.out BK340.out (by decide)) (fun _ hk => hk.2) (.slice Ao38 t330.length co38)) (fun _ hk => hk.2) (.slice Ao41 t333.length co41)) (fun _ hk => hk.2) (.slice Ao42 t336.length co42)) (fun _ h_ => h_.1)))))) (Kd.R_lt (by exact up ((Kd.R_mono (Kd.R_far (p:= ⟨gb340,2,none⟩) (Kd.R_far (p:= ⟨gb340,1,none⟩) (Kd.R_far (p:= ⟨gb340,0,none⟩) (Kd.R_types HO332.out BK340.out (by decide)) (fun _ hk => hk.2) (.slice Ao38 t330.length co38)) (fun _ hk => hk.2) (.slice Ao41 t333.length co41)) (fun _ hk => hk.2) (.slice Ao42 t336.length co42)) (fun _ h_ => h_.1)))))) (Kd.R_lt (by exact up ((Kd.R_mono (Kd.R_far (p:= ⟨gb340,2,none⟩) (Kd.R_far (p:= ⟨gb340,1,none⟩) (Kd.R_far (p:= ⟨gb340,0,none⟩) (Kd.R_types HO335.out BK340.out (by decide)) (fun _ hk => hk.2) (.slice Ao38 t330.length co38)) (fun _ hk => hk.2) (.slice Ao41 t333.length co41)) (fun _ hk => hk.2) (.slice Ao42 t336.length co42)) (fun _ h_ => h_.1)))))) (below_size (by repeat (first|(with_reducible first|exact HB.out|apply below_alloc|apply pw_below_drewN|apply below_drew1|refine below_set ?_ GE329.out|refine below_set ?_ GE340.out)|exact HB.out))));have n11_:= mk (Kd.R_lower (Kd.R_new' (Kd.R_new' ho2 (Kd.R_lt (by exact up ((Kd.R_mono (Kd.R_far (p:= ⟨gb340,2,none⟩) (Kd.R_far (p:= ⟨gb340,1,none⟩) (Kd.R_far (p:= ⟨gb340,0,none⟩) (Kd.R_types HO328.out BK340.out (by decide)) (fun _ hk => hk.2) (.slice Ao38 t330.length co38)) (fun _ hk => hk.2) (.slice Ao41 t333.length co41)) (fun _ hk => hk.2) (.slice Ao42 t336.length co42)) (fun _ h_ => h_.1)))))) (Kd.R_lt (by exact up ((Kd.R_mono (Kd.R_far (p:= ⟨gb340,2,none⟩) (Kd.R_far (p:= ⟨gb340,1,none⟩) (Kd.R_far (p:= ⟨gb340,0,none⟩) (Kd.R_types HO338.out BK340.out (by decide)) (fun _ hk => hk.2) (.slice Ao38 t330.length co38)) (fun _ hk => hk.2) (.slice Ao41 t333.length co41)) (fun _ hk => hk.2) (.slice Ao42 t336.length co42)) (fun _ h_ => h_.1)))))) (below_size (by repeat (first|(with_reducible first|exact HB.out|apply below_alloc|apply pw_below_drewN|apply below_drew1|refine below_set ?_ GE329.out|refine below_set ?_ GE340.out)|exact HB.out))));have n12_:= mk (blk_below (g:= gb329) (o:= .cells #[.slice Ao31 t320.length co31,.slice Ao33 t323.length co33,.slice Ao34 t326.length co34] 31 (0,0)) (by (with_reducible repeat (first|refine blk_drewN ?_ _|refine blk_drew ?_|refine blk_alloc ?_ _));refine blk_far ?_ NB329_340.out _;(with_reducible repeat (first|refine blk_drewN ?_ _|refine blk_drew ?_|refine blk_alloc ?_ _));refine blk_far ?_ NB329_340.out _;(with_reducible repeat (first|refine blk_drewN ?_ _|refine blk_drew ?_|refine blk_alloc ?_ _));refine blk_far ?_ NB329_340.out _;(with_reducible repeat (first|refine blk_drewN ?_ _|refine blk_drew ?_|refine blk_alloc ?_ _));exact BK329.out) hb);have n13_:= mk (blk_below (g:= gb340) (o:= .cells #[.slice Ao38 t330.length co38,.slice Ao41 t333.length co41,.slice Ao42 t336.length co42] 31 (0,0)) (by (with_reducible repeat (first|refine blk_drewN ?_ _|refine blk_drew ?_|refine blk_alloc ?_ _));refine blk_put (cs:= #[.slice Ao38 t330.length co38,.slice Ao41 t333.length co41,.slice none 0 0]) ?_ 2 _ rfl;(with_reducible repeat (first|refine blk_drewN ?_ _|refine blk_drew ?_|refine blk_alloc ?_ _));refine blk_put (cs:= #[.slice Ao38 t330.length co38,.slice none 0 0,.slice none 0 0]) ?_ 1 _ rfl;(with_reducible repeat (first|refine blk_drewN ?_ _|refine blk_drew ?_|refine blk_alloc ?_ _));refine blk_put (cs:= #[.slice none 0 0,.slice none 0 0,.slice none 0 0]) ?_ 0 _ rfl;(with_reducible repeat (first|refine blk_drewN ?_ _|refine blk_drew ?_|refine blk_alloc ?_ _));exact BK340.out) hb);have n14_:= mk (below_step (by repeat (first|(with_reducible first|exact HB.out|apply below_alloc|apply pw_below_drewN|apply below_drew1|refine below_set ?_ GE329.out|refine below_set ?_ GE340.out)|exact HB.out)) hb);clear HO_3;clear HO_7;clear HO_9;clear HO322;clear HO325;clear HO328;clear HO332;clear HO335;clear HO338;clear BK329;clear BK340;clear HB;have HO_3:= n0_;have HO_7:= n1_;have HO_9:= n2_;have HO322:= n3_;have HO325:= n4_;have HO328:= n5_;have HO332:= n6_;have HO335:= n7_;have HO338:= n8_;have HO343:= n9_;have HO346:= n10_;have HO349:= n11_;have BK329:= n12_;have BK340:= n13_;have HB:= n14_;clear n0_ n1_ n2_ n3_ n4_ n5_ n6_ n7_ n8_ n9_ n10_ n11_ n12_ n13_ n14_;(try clear hb);(try clear hb2);(try clear hk);(try clear hi);(try clear ho0);(try clear ho1);(try clear ho2))|((with_reducible refine gate_dst (N:= 14) rfl ?_);(try (refine gate_guard (by rfl) ?_;dsimp only));refine box_event ?hg (N:= 14) ?hd (cs:= #[.slice none 0 0,.slice none 0 0,.slice none 0 0]) (t:= 31) ?hr ?_;(case hd => rfl);(case hg => rfl);(case hr => first|(go_simp;done)|(go_simp;rfl));intro gb351 hg w44 hbox hb;have n0_:= mk (Kd.R_below (up HO_3.out) hb);have n1_:= mk (Kd.R_below (up HO_7.out) hb);have n2_:= mk (Kd.R_below (up HO_9.out) hb);have n3_:= mk (Kd.R_below (up HO322.out) hb);have n4_:= mk (Kd.R_below (up HO325.out) hb);have n5_:= mk (Kd.R_below (up HO328.out) hb);have n6_:= mk (Kd.R_below (up HO332.out) hb);have n7_:= mk (Kd.R_below (up HO335.out) hb);have n8_:= mk (Kd.R_below (up HO338.out) hb);have n9_:= mk (Kd.R_below (up HO343.out) hb);have n10_:= mk (Kd.R_below (up HO346.out) hb);have n11_:= mk (Kd.R_below (up HO349.out) hb);have n12_:= mk (blk_below (g:= gb329) (o:= .cells #[.slice Ao31 t320.length co31,.slice Ao33 t323.length co33,.slice Ao34 t326.length co34] 31 (0,0)) (ub BK329.out) hb);have n13_:= mk (blk_below (g:= gb340) (o:= .cells #[.slice Ao38 t330.length co38,.slice Ao41 t333.length co41,.slice Ao42 t336.length co42] 31 (0,0)) (ub BK340.out) hb);have n14_:= mk (below_step (by repeat (first|(with_reducible first|exact HB.out|apply below_alloc|apply pw_below_drewN|apply below_drew1|refine below_set ?_ GE329.out|refine below_set ?_ GE340.out)|exact HB.out)) hb);have n15_:= mk (hbox);have n16_:= mk ((by rw [hg];exact (below_size (by repeat (first|(with_reducible first|exact HB.out|apply below_alloc|apply pw_below_drewN|apply below_drew1|refine below_set ?_ GE329.out|refine below_set ?_ GE340.out)|exact HB.out))) : w.heap.size ≤ gb351));have n17_:= mk ((by rw [hg];exact (below_size (by repeat (first|(with_reducible first|exact HB.out|apply below_alloc|apply pw_below_drewN|apply below_drew1|refine below_set ?_ GE329.out|refine below_set ?_ GE340.out)|exact HB.out))) : w.heap.size ≤ gb351));have n18_:= mk ((by rw [hg];exact Nat.ne_of_lt (blk_lt (g:= gb329) (o:= .cells #[.slice Ao31 t320.length co31,.slice Ao33 t323.length co33,.slice Ao34 t326.length co34] 31 (0,0)) (ub BK329.out)) : gb329 ≠ gb351));have n19_:= mk ((by rw [hg];exact Nat.ne_of_gt (blk_lt (g:= gb329) (o:= .cells #[.slice Ao31 t320.length co31,.slice Ao33 t323.length co33,.slice Ao34 t326.length co34] 31 (0,0)) (ub BK329.out)) : gb351 ≠ gb329));have n20_:= mk ((by rw [hg];exact Nat.ne_of_lt (blk_lt (g:= gb340) (o:= .cells #[.slice Ao38 t330.length co38,.slice Ao41 t333.length co41,.slice Ao42 t336.length co42] 31 (0,0)) (ub BK340.out)) : gb340 ≠ gb351));have n21_:= mk ((by rw [hg];exact Nat.ne_of_gt (blk_lt (g:= gb340) (o:= .cells #[.slice Ao38 t330.length co38,.slice Ao41 t333.length co41,.slice Ao42 t336.length co42] 31 (0,0)) (ub BK340.out)) : gb351 ≠ gb340));clear HO_3;clear HO_7;clear HO_9;clear HO322;clear HO325;clear HO328;clear HO332;clear HO335;clear HO338;clear HO343;clear HO346;clear HO349;clear BK329;clear BK340;clear HB;have HO_3:= n0_;have HO_7:= n1_;have HO_9:= n2_;have HO322:= n3_;have HO325:= n4_;have HO328:= n5_;have HO332:= n6_;have HO335:= n7_;have HO338:= n8_;have HO343:= n9_;have HO346:= n10_;have HO349:= n11_;have BK329:= n12_;have BK340:= n13_;have HB:= n14_;have BK351:= n15_;have GW351:= n16_;have GE351:= n17_;have NB329_351:= n18_;have NB351_329:= n19_;have NB340_351:= n20_;have NB351_340:= n21_;clear n0_ n1_ n2_ n3_ n4_ n5_ n6_ n7_ n8_ n9_ n10_ n11_ n12_ n13_ n14_ n15_ n16_ n17_ n18_ n19_ n20_ n21_;clear hb hbox hg;obtain ⟨Ao45,co45,eo45⟩:= Kd.R_slice HO343.out;subst eo45;have hnb46:= NB351_329.out;have hnc46:= NB329_351.out;have hnb47:= NB351_340.out;have hnc47:= NB340_351.out;have hcz48_0 : w44.cell? ⟨gb351,0,none⟩ = some (.slice none 0 0):= (blk_cell BK351.out 0).trans rfl;have hcz48_1 : w44.cell? ⟨gb351,1,none⟩ = some (.slice none 0 0):= (blk_cell BK351.out 1).trans rfl;have hcz48_2 : w44.cell? ⟨gb351,2,none⟩ = some (.slice none 0 0):= (blk_cell BK351.out 2).trans rfl;have hfz48_0:= blk_frozen BK351.out 0;have hfz48_1:= blk_frozen BK351.out 1;have hfz48_2:= blk_frozen BK351.out 2;obtain ⟨Ao49,co49,eo49⟩:= Kd.R_slice HO346.out;subst eo49;obtain ⟨Ao50,co50,eo50⟩:= Kd.R_slice HO349.out;subst eo50;have hcz51_0 : w44.cell? ⟨gb329,0,none⟩ = some (.slice Ao31 t320.length co31):= (blk_cell BK329.out 0).trans rfl;have hcz51_1 : w44.cell? ⟨gb329,1,none⟩ = some (.slice Ao33 t323.length co33):= (blk_cell BK329.out 1).trans rfl;have hcz51_2 : w44.cell? ⟨gb329,2,none⟩ = some (.slice Ao34 t326.length co34):= (blk_cell BK329.out 2).trans rfl;have hfz51_0:= blk_frozen BK329.out 0;have hfz51_1:= blk_frozen BK329.out 1;have hfz51_2:= blk_frozen BK329.out 2;have hcz52_0 : w44.cell? ⟨gb340,0,none⟩ = some (.slice Ao38 t330.length co38):= (blk_cell BK340.out 0).trans rfl;have hcz52_1 : w44.cell? ⟨gb340,1,none⟩ = some (.slice Ao41 t333.length co41):= (blk_cell BK340.out 1).trans rfl;have hcz52_2 : w44.cell? ⟨gb340,2,none⟩ = some (.slice Ao42 t336.length co42):= (blk_cell BK340.out 2).trans rfl;have hfz52_0:= blk_frozen BK340.out 0;have hfz52_1:= blk_frozen BK340.out 1;have hfz52_2:= blk_frozen BK340.out 2))
          go_loopg [16] kj17 (fun kq v16 w' => ∃ (x16_3 : Int),v16 = .int .i64 x16_3 ∧ Aside0 (laws_FnPartitions.l0 kq t307 t308 t309 t312 t313 t316 t339 t350 x16_3 t320 t323 t326 t330 t333 t336 t341 t344 t347 = some r) ∧ Aside0 (kq ≤ kj17) ∧ Aside0 (Kd.R k50 50 w' w.heap.size (fun k_ => some k_ ≠ (v318 : Value).ownBlock) (.slice Ao35 t312.length co35) t312) ∧ Aside0 (Kd.R k50 50 w' w.heap.size (fun k_ => some k_ ≠ ((.slice Ao35 t312.length co35) : Value).ownBlock) v318 t316) ∧ Aside0 (Kd.R (Kd.int .i64) 3 w' w.heap.size (fun k_ => some k_ ≠ ((.slice Ao33 t323.length co33) : Value).ownBlock ∧ some k_ ≠ ((.slice Ao38 t330.length co38) : Value).ownBlock ∧ some k_ ≠ ((.slice Ao41 t333.length co41) : Value).ownBlock ∧ some k_ ≠ ((.slice Ao45 t341.length co45) : Value).ownBlock ∧ some k_ ≠ ((.slice Ao49 t344.length co49) : Value).ownBlock) (.slice Ao31 t320.length co31) t320) ∧ Aside0 (Kd.R (Kd.int .i64) 3 w' w.heap.size (fun k_ => some k_ ≠ ((.slice Ao31 t320.length co31) : Value).ownBlock ∧ some k_ ≠ ((.slice Ao38 t330.length co38) : Value).ownBlock ∧ some k_ ≠ ((.slice Ao41 t333.length co41) : Value).ownBlock ∧ some k_ ≠ ((.slice Ao45 t341.length co45) : Value).ownBlock ∧ some k_ ≠ ((.slice Ao49 t344.length co49) : Value).ownBlock) (.slice Ao33 t323.length co33) t323) ∧ Aside0 (Kd.R k74 74 w' w.heap.size (fun k_ => some k_ ≠ ((.slice Ao42 t336.length co42) : Value).ownBlock ∧ some k_ ≠ ((.slice Ao50 t347.length co50) : Value).ownBlock) (.slice Ao34 t326.length co34) t326) ∧ Aside0 (Kd.R (Kd.int .i64) 3 w' w.heap.size (fun k_ => some k_ ≠ ((.slice Ao31 t320.length co31) : Value).ownBlock ∧ some k_ ≠ ((.slice Ao33 t323.length co33) : Value).ownBlock ∧ some k_ ≠ ((.slice Ao41 t333.length co41) : Value).ownBlock ∧ some k_ ≠ ((.slice Ao45 t341.length co45) : Value).ownBlock ∧ some k_ ≠ ((.slice Ao49 t344.length co49) : Value).ownBlock) (.slice Ao38 t330.length co38) t330) ∧ Aside0 (Kd.R (Kd.int .i64) 3 w' w.heap.size (fun k_ => some k_ ≠ ((.slice Ao31 t320.length co31) : Value).ownBlock ∧ some k_ ≠ ((.slice Ao33 t323.length co33) : Value).ownBlock ∧ some k_ ≠ ((.slice Ao38 t330.length co38) : Value).ownBlock ∧ some k_ ≠ ((.slice Ao45 t341.length co45) : Value).ownBlock ∧ some k_ ≠ ((.slice Ao49 t344.length co49) : Value).ownBlock) (.slice Ao41 t333.length co41) t333) ∧ Aside0 (Kd.R k74 74 w' w.heap.size (fun k_ => some k_ ≠ ((.slice Ao34 t326.length co34) : Value).ownBlock ∧ some k_ ≠ ((.slice Ao50 t347.length co50) : Value).ownBlock) (.slice Ao42 t336.length co42) t336) ∧ Aside0 (Kd.R (Kd.int .i64) 3 w' w.heap.size (fun k_ => some k_ ≠ ((.slice Ao31 t320.length co31) : Value).ownBlock ∧ some k_ ≠ ((.slice Ao33 t323.length co33) : Value).ownBlock ∧ some k_ ≠ ((.slice Ao38 t330.length co38) : Value).ownBlock ∧ some k_ ≠ ((.slice Ao41 t333.length co41) : Value).ownBlock ∧ some k_ ≠ ((.slice Ao49 t344.length co49) : Value).ownBlock) (.slice Ao45 t341.length co45) t341) ∧ Aside0 (Kd.R (Kd.int .i64) 3 w' w.heap.size (fun k_ => some k_ ≠ ((.slice Ao31 t320.length co31) : Value).ownBlock ∧ some k_ ≠ ((.slice Ao33 t323.length co33) : Value).ownBlock ∧ some k_ ≠ ((.slice Ao38 t330.length co38) : Value).ownBlock ∧ some k_ ≠ ((.slice Ao41 t333.length co41) : Value).ownBlock ∧ some k_ ≠ ((.slice Ao45 t341.length co45) : Value).ownBlock) (.slice Ao49 t344.length co49) t344) ∧ Aside0 (Kd.R k74 74 w' w.heap.size (fun k_ => some k_ ≠ ((.slice Ao34 t326.length co34) : Value).ownBlock ∧ some k_ ≠ ((.slice Ao42 t336.length co42) : Value).ownBlock) (.slice Ao50 t347.length co50) t347) ∧ Aside0 (w'.heap[gb329]? = some (.cells #[(.slice Ao31 t320.length co31),(.slice Ao33 t323.length co33),(.slice Ao34 t326.length co34)] 31 (0,0))) ∧ Aside0 (w'.heap[gb340]? = some (.cells #[(.slice Ao38 t330.length co38),(.slice Ao41 t333.length co41),(.slice Ao42 t336.length co42)] 31 (0,0))) ∧ Aside0 (w'.heap[gb351]? = some (.cells #[(.slice Ao45 t341.length co45),(.slice Ao49 t344.length co49),(.slice Ao50 t347.length co50)] 31 (0,0))) ∧ Aside0 (Below w.heap.size w w'))
          case atStart => exact ⟨(t307),(by first|rfl|(simp;done)|(simp [*];done)),H',⟨Nat.le_refl _⟩,⟨by exact up (Kd.R_mono (Kd.R_far (p:= ⟨gb351,2,none⟩) (Kd.R_far (p:= ⟨gb351,1,none⟩) (Kd.R_far (p:= ⟨gb351,0,none⟩) (Kd.R_types HO_7.out BK351.out (by decide)) (fun _ hk => hk.2) (.slice Ao45 t341.length co45)) (fun _ hk => hk.2) (.slice Ao49 t344.length co49)) (fun _ hk => hk.2) (.slice Ao50 t347.length co50)) (fun _ hk => hk.1))⟩,⟨by exact up (Kd.R_mono (Kd.R_far (p:= ⟨gb351,2,none⟩) (Kd.R_far (p:= ⟨gb351,1,none⟩) (Kd.R_far (p:= ⟨gb351,0,none⟩) (Kd.R_types HO_9.out BK351.out (by decide)) (fun _ hk => hk.2) (.slice Ao45 t341.length co45)) (fun _ hk => hk.2) (.slice Ao49 t344.length co49)) (fun _ hk => hk.2) (.slice Ao50 t347.length co50)) (fun _ hk => hk.1))⟩,⟨by exact up (Kd.R_mono (Kd.R_far (p:= ⟨gb351,2,none⟩) (Kd.R_far (p:= ⟨gb351,1,none⟩) (Kd.R_far (p:= ⟨gb351,0,none⟩) (Kd.R_types HO322.out BK351.out (by decide)) (fun _ hk => hk.2) (.slice Ao45 t341.length co45)) (fun _ hk => hk.2) (.slice Ao49 t344.length co49)) (fun _ hk => hk.2) (.slice Ao50 t347.length co50)) (fun _ hk => by first|exact ⟨hk.1.1.1.1.1.1,⟨hk.1.1.1.1.2,⟨hk.1.1.1.2,⟨hk.1.1.2,hk.1.2⟩⟩⟩⟩|(revert hk;simp only [and_imp];intros;(repeat' (refine And.intro ?_ ?_)) <;> assumption)))⟩,⟨by exact up (Kd.R_mono (Kd.R_far (p:= ⟨gb351,2,none⟩) (Kd.R_far (p:= ⟨gb351,1,none⟩) (Kd.R_far (p:= ⟨gb351,0,none⟩) (Kd.R_types HO325.out BK351.out (by decide)) (fun _ hk => hk.2) (.slice Ao45 t341.length co45)) (fun _ hk => hk.2) (.slice Ao49 t344.length co49)) (fun _ hk => hk.2) (.slice Ao50 t347.length co50)) (fun _ hk => by first|exact ⟨hk.1.1.1.1.1.1,⟨hk.1.1.1.1.2,⟨hk.1.1.1.2,⟨hk.1.1.2,hk.1.2⟩⟩⟩⟩|(revert hk;simp only [and_imp];intros;(repeat' (refine And.intro ?_ ?_)) <;> assumption)))⟩,⟨by exact up (Kd.R_mono (Kd.R_far (p:= ⟨gb351,2,none⟩) (Kd.R_far (p:= ⟨gb351,1,none⟩) (Kd.R_far (p:= ⟨gb351,0,none⟩) (Kd.R_types HO328.out BK351.out (by decide)) (fun _ hk => hk.2) (.slice Ao45 t341.length co45)) (fun _ hk => hk.2) (.slice Ao49 t344.length co49)) (fun _ hk => hk.2) (.slice Ao50 t347.length co50)) (fun _ hk => by first|exact ⟨hk.1.1.2,hk.1.2⟩|(revert hk;simp only [and_imp];intros;(repeat' (refine And.intro ?_ ?_)) <;> assumption)))⟩,⟨by exact up (Kd.R_mono (Kd.R_far (p:= ⟨gb351,2,none⟩) (Kd.R_far (p:= ⟨gb351,1,none⟩) (Kd.R_far (p:= ⟨gb351,0,none⟩) (Kd.R_types HO332.out BK351.out (by decide)) (fun _ hk => hk.2) (.slice Ao45 t341.length co45)) (fun _ hk => hk.2) (.slice Ao49 t344.length co49)) (fun _ hk => hk.2) (.slice Ao50 t347.length co50)) (fun _ hk => by first|exact ⟨hk.1.1.1.1.2,⟨hk.1.1.1.2,⟨hk.1.1.1.1.1.1,⟨hk.1.1.2,hk.1.2⟩⟩⟩⟩|(revert hk;simp only [and_imp];intros;(repeat' (refine And.intro ?_ ?_)) <;> assumption)))⟩,⟨by exact up (Kd.R_mono (Kd.R_far (p:= ⟨gb351,2,none⟩) (Kd.R_far (p:= ⟨gb351,1,none⟩) (Kd.R_far (p:= ⟨gb351,0,none⟩) (Kd.R_types HO335.out BK351.out (by decide)) (fun _ hk => hk.2) (.slice Ao45 t341.length co45)) (fun _ hk => hk.2) (.slice Ao49 t344.length co49)) (fun _ hk => hk.2) (.slice Ao50 t347.length co50)) (fun _ hk => by first|exact ⟨hk.1.1.1.1.2,⟨hk.1.1.1.2,⟨hk.1.1.1.1.1.1,⟨hk.1.1.2,hk.1.2⟩⟩⟩⟩|(revert hk;simp only [and_imp];intros;(repeat' (refine And.intro ?_ ?_)) <;> assumption)))⟩,⟨by exact up (Kd.R_mono (Kd.R_far (p:= ⟨gb351,2,none⟩) (Kd.R_far (p:= ⟨gb351,1,none⟩) (Kd.R_far (p:= ⟨gb351,0,none⟩) (Kd.R_types HO338.out BK351.out (by decide)) (fun _ hk => hk.2) (.slice Ao45 t341.length co45)) (fun _ hk => hk.2) (.slice Ao49 t344.length co49)) (fun _ hk => hk.2) (.slice Ao50 t347.length co50)) (fun _ hk => by first|exact ⟨hk.1.1.2,hk.1.2⟩|(revert hk;simp only [and_imp];intros;(repeat' (refine And.intro ?_ ?_)) <;> assumption)))⟩,⟨by exact up (Kd.R_mono (Kd.R_far (p:= ⟨gb351,2,none⟩) (Kd.R_far (p:= ⟨gb351,1,none⟩) (Kd.R_far (p:= ⟨gb351,0,none⟩) (Kd.R_types HO343.out BK351.out (by decide)) (fun _ hk => hk.2) (.slice Ao45 t341.length co45)) (fun _ hk => hk.2) (.slice Ao49 t344.length co49)) (fun _ hk => hk.2) (.slice Ao50 t347.length co50)) (fun _ hk => by first|exact ⟨hk.1.1.1.1.2,⟨hk.1.1.1.2,⟨hk.1.1.2,⟨hk.1.2,hk.1.1.1.1.1.1⟩⟩⟩⟩|(revert hk;simp only [and_imp];intros;(repeat' (refine And.intro ?_ ?_)) <;> assumption)))⟩,⟨by exact up (Kd.R_mono (Kd.R_far (p:= ⟨gb351,2,none⟩) (Kd.R_far (p:= ⟨gb351,1,none⟩) (Kd.R_far (p:= ⟨gb351,0,none⟩) (Kd.R_types HO346.out BK351.out (by decide)) (fun _ hk => hk.2) (.slice Ao45 t341.length co45)) (fun _ hk => hk.2) (.slice Ao49 t344.length co49)) (fun _ hk => hk.2) (.slice Ao50 t347.length co50)) (fun _ hk => by first|exact ⟨hk.1.1.1.1.2,⟨hk.1.1.1.2,⟨hk.1.1.2,⟨hk.1.2,hk.1.1.1.1.1.1⟩⟩⟩⟩|(revert hk;simp only [and_imp];intros;(repeat' (refine And.intro ?_ ?_)) <;> assumption)))⟩,⟨by exact up (Kd.R_mono (Kd.R_far (p:= ⟨gb351,2,none⟩) (Kd.R_far (p:= ⟨gb351,1,none⟩) (Kd.R_far (p:= ⟨gb351,0,none⟩) (Kd.R_types HO349.out BK351.out (by decide)) (fun _ hk => hk.2) (.slice Ao45 t341.length co45)) (fun _ hk => hk.2) (.slice Ao49 t344.length co49)) (fun _ hk => hk.2) (.slice Ao50 t347.length co50)) (fun _ hk => by first|exact ⟨hk.1.1.2,hk.1.2⟩|(revert hk;simp only [and_imp];intros;(repeat' (refine And.intro ?_ ?_)) <;> assumption)))⟩,⟨by (with_reducible repeat (first|refine blk_drewN ?_ _|refine blk_drew ?_|refine blk_alloc ?_ _));refine blk_far ?_ NB329_351.out _;(with_reducible repeat (first|refine blk_drewN ?_ _|refine blk_drew ?_|refine blk_alloc ?_ _));refine blk_far ?_ NB329_351.out _;(with_reducible repeat (first|refine blk_drewN ?_ _|refine blk_drew ?_|refine blk_alloc ?_ _));refine blk_far ?_ NB329_351.out _;(with_reducible repeat (first|refine blk_drewN ?_ _|refine blk_drew ?_|refine blk_alloc ?_ _));exact BK329.out⟩,⟨by (with_reducible repeat (first|refine blk_drewN ?_ _|refine blk_drew ?_|refine blk_alloc ?_ _));refine blk_far ?_ NB340_351.out _;(with_reducible repeat (first|refine blk_drewN ?_ _|refine blk_drew ?_|refine blk_alloc ?_ _));refine blk_far ?_ NB340_351.out _;(with_reducible repeat (first|refine blk_drewN ?_ _|refine blk_drew ?_|refine blk_alloc ?_ _));refine blk_far ?_ NB340_351.out _;(with_reducible repeat (first|refine blk_drewN ?_ _|refine blk_drew ?_|refine blk_alloc ?_ _));exact BK340.out⟩,⟨by (with_reducible repeat (first|refine blk_drewN ?_ _|refine blk_drew ?_|refine blk_alloc ?_ _));refine blk_put (cs:= #[.slice Ao45 t341.length co45,.slice Ao49 t344.length co49,.slice none 0 0]) ?_ 2 _ rfl;(with_reducible repeat (first|refine blk_drewN ?_ _|refine blk_drew ?_|refine blk_alloc ?_ _));refine blk_put (cs:= #[.slice Ao45 t341.length co45,.slice none 0 0,.slice none 0 0]) ?_ 1 _ rfl;(with_reducible repeat (first|refine blk_drewN ?_ _|refine blk_drew ?_|refine blk_alloc ?_ _));refine blk_put (cs:= #[.slice none 0 0,.slice none 0 0,.slice none 0 0]) ?_ 0 _ rfl;(with_reducible repeat (first|refine blk_drewN ?_ _|refine blk_drew ?_|refine blk_alloc ?_ _));exact BK351.out⟩,⟨by repeat (first|(with_reducible first|exact HB.out|apply below_alloc|apply pw_below_drewN|apply below_drew1|refine below_set ?_ GE329.out|refine below_set ?_ GE340.out|refine below_set ?_ GE351.out)|exact HB.out)⟩⟩
          case round =>
           clear H'
           try clear c1
           try clear c2
           try clear p2
           try clear c3
           try clear c4
           try clear c5
           try clear c12
           try clear c12b0
           try clear c12b1
           try clear c12b2
           try clear c17
           try clear c19
           try clear c19b0
           try clear c20
           try clear c20b0
           try clear c21
           try clear c22
           try clear c22b0
           try clear c22b1
           try clear c22b2
           try clear c27
           try clear c27b0
           try clear c27b1
           try clear c27b2
           try clear c28
           try clear c28b0
           try clear c28b1
           try clear c28b2
           try clear c39
           try clear c46
           try clear c47
           try clear hcz32_0
           try clear hcz32_1
           try clear hcz32_2
           try clear hcz40_0
           try clear hcz40_1
           try clear hcz40_2
           try clear hcz48_0
           try clear hcz48_1
           try clear hcz48_2
           try clear hcz51_0
           try clear hcz51_1
           try clear hcz51_2
           try clear hcz52_0
           try clear hcz52_1
           try clear hcz52_2
           try clear hfz32_0
           try clear hfz32_1
           try clear hfz32_2
           try clear hfz40_0
           try clear hfz40_1
           try clear hfz40_2
           try clear hfz48_0
           try clear hfz48_1
           try clear hfz48_2
           try clear hfz51_0
           try clear hfz51_1
           try clear hfz51_2
           try clear hfz52_0
           try clear hfz52_1
           try clear hfz52_2
           try clear p2
           obtain ⟨x16_3,rfl,HA,HK3,HO_7,HO_9,HO_330000,HO_330001,HO_330002,HO_341000,HO_341001,HO_341002,HO_352000,HO_352001,HO_352002,BK329,BK340,BK351,HB⟩:= hrel
           cases gk with
          |zero => exact absurd HA.out (by simp [laws_FnPartitions.l0])
          |succ k3 =>
            have H:= HA.out
            clear HA
            simp only [laws_FnPartitions.l0] at H
            have HC53:= mk H
            clear H
            go_upto_region 18 with (fail)
            repeat (go_quiet (fail);go_upto_region 18 with (fail))
            go_cut [105] (fun v105 wc => ∃ (kq : Nat) (x105_52 : Bool),v105 = .bool x105_52 ∧ Aside0 (laws_FnPartitions.j3 kq t307 t308 t309 t312 t313 t316 t339 t350 x16_3 x105_52 t320 t323 t326 t330 t333 t336 t341 t344 t347 = some r) ∧ Aside0 (kq ≤ k3) ∧ Aside0 (Kd.R k50 50 wc w.heap.size (fun k_ => some k_ ≠ (v318 : Value).ownBlock) (.slice Ao35 t312.length co35) t312) ∧ Aside0 (Kd.R k50 50 wc w.heap.size (fun k_ => some k_ ≠ ((.slice Ao35 t312.length co35) : Value).ownBlock) v318 t316) ∧ Aside0 (Kd.R (Kd.int .i64) 3 wc w.heap.size (fun k_ => some k_ ≠ ((.slice Ao33 t323.length co33) : Value).ownBlock ∧ some k_ ≠ ((.slice Ao38 t330.length co38) : Value).ownBlock ∧ some k_ ≠ ((.slice Ao41 t333.length co41) : Value).ownBlock ∧ some k_ ≠ ((.slice Ao45 t341.length co45) : Value).ownBlock ∧ some k_ ≠ ((.slice Ao49 t344.length co49) : Value).ownBlock) (.slice Ao31 t320.length co31) t320) ∧ Aside0 (Kd.R (Kd.int .i64) 3 wc w.heap.size (fun k_ => some k_ ≠ ((.slice Ao31 t320.length co31) : Value).ownBlock ∧ some k_ ≠ ((.slice Ao38 t330.length co38) : Value).ownBlock ∧ some k_ ≠ ((.slice Ao41 t333.length co41) : Value).ownBlock ∧ some k_ ≠ ((.slice Ao45 t341.length co45) : Value).ownBlock ∧ some k_ ≠ ((.slice Ao49 t344.length co49) : Value).ownBlock) (.slice Ao33 t323.length co33) t323) ∧ Aside0 (Kd.R k74 74 wc w.heap.size (fun k_ => some k_ ≠ ((.slice Ao42 t336.length co42) : Value).ownBlock ∧ some k_ ≠ ((.slice Ao50 t347.length co50) : Value).ownBlock) (.slice Ao34 t326.length co34) t326) ∧ Aside0 (Kd.R (Kd.int .i64) 3 wc w.heap.size (fun k_ => some k_ ≠ ((.slice Ao31 t320.length co31) : Value).ownBlock ∧ some k_ ≠ ((.slice Ao33 t323.length co33) : Value).ownBlock ∧ some k_ ≠ ((.slice Ao41 t333.length co41) : Value).ownBlock ∧ some k_ ≠ ((.slice Ao45 t341.length co45) : Value).ownBlock ∧ some k_ ≠ ((.slice Ao49 t344.length co49) : Value).ownBlock) (.slice Ao38 t330.length co38) t330) ∧ Aside0 (Kd.R (Kd.int .i64) 3 wc w.heap.size (fun k_ => some k_ ≠ ((.slice Ao31 t320.length co31) : Value).ownBlock ∧ some k_ ≠ ((.slice Ao33 t323.length co33) : Value).ownBlock ∧ some k_ ≠ ((.slice Ao38 t330.length co38) : Value).ownBlock ∧ some k_ ≠ ((.slice Ao45 t341.length co45) : Value).ownBlock ∧ some k_ ≠ ((.slice Ao49 t344.length co49) : Value).ownBlock) (.slice Ao41 t333.length co41) t333) ∧ Aside0 (Kd.R k74 74 wc w.heap.size (fun k_ => some k_ ≠ ((.slice Ao34 t326.length co34) : Value).ownBlock ∧ some k_ ≠ ((.slice Ao50 t347.length co50) : Value).ownBlock) (.slice Ao42 t336.length co42) t336) ∧ Aside0 (Kd.R (Kd.int .i64) 3 wc w.heap.size (fun k_ => some k_ ≠ ((.slice Ao31 t320.length co31) : Value).ownBlock ∧ some k_ ≠ ((.slice Ao33 t323.length co33) : Value).ownBlock ∧ some k_ ≠ ((.slice Ao38 t330.length co38) : Value).ownBlock ∧ some k_ ≠ ((.slice Ao41 t333.length co41) : Value).ownBlock ∧ some k_ ≠ ((.slice Ao49 t344.length co49) : Value).ownBlock) (.slice Ao45 t341.length co45) t341) ∧ Aside0 (Kd.R (Kd.int .i64) 3 wc w.heap.size (fun k_ => some k_ ≠ ((.slice Ao31 t320.length co31) : Value).ownBlock ∧ some k_ ≠ ((.slice Ao33 t323.length co33) : Value).ownBlock ∧ some k_ ≠ ((.slice Ao38 t330.length co38) : Value).ownBlock ∧ some k_ ≠ ((.slice Ao41 t333.length co41) : Value).ownBlock ∧ some k_ ≠ ((.slice Ao45 t341.length co45) : Value).ownBlock) (.slice Ao49 t344.length co49) t344) ∧ Aside0 (Kd.R k74 74 wc w.heap.size (fun k_ => some k_ ≠ ((.slice Ao34 t326.length co34) : Value).ownBlock ∧ some k_ ≠ ((.slice Ao42 t336.length co42) : Value).ownBlock) (.slice Ao50 t347.length co50) t347) ∧ Aside0 (wc.heap[gb329]? = some (.cells #[(.slice Ao31 t320.length co31),(.slice Ao33 t323.length co33),(.slice Ao34 t326.length co34)] 31 (0,0))) ∧ Aside0 (wc.heap[gb340]? = some (.cells #[(.slice Ao38 t330.length co38),(.slice Ao41 t333.length co41),(.slice Ao42 t336.length co42)] 31 (0,0))) ∧ Aside0 (wc.heap[gb351]? = some (.cells #[(.slice Ao45 t341.length co45),(.slice Ao49 t344.length co49),(.slice Ao50 t347.length co50)] 31 (0,0))) ∧ Aside0 (Below w.heap.size w wc))
            case first =>
             have H:= HC53.out
             clear HC53
             by_cases c54 : x16_3 < t308
             ·rw [if_pos c54] at H
              have c54b0 : decide (x16_3 < t308) = true:= decide_eq_true c54
              clear c54
              (first|rw [c54b0]|(simp only [i64_w,i32_w];rw [c54b0])|skip)
              have H':= mk H
              clear H
              go_wp2
              repeat (go_quiet (fail);try go_wp2)
              go_meet
              case rel => exact ⟨_,(t339),(by first|rfl|(simp;done)|(simp [*];done)),H',⟨by have:= HJ6.out;have:= HJ17.out;have:= HK3.out;first|omega|exact Nat.le_refl _⟩,⟨up HO_7.out⟩,⟨up HO_9.out⟩,⟨up HO_330000.out⟩,⟨up HO_330001.out⟩,⟨up HO_330002.out⟩,⟨up HO_341000.out⟩,⟨up HO_341001.out⟩,⟨up HO_341002.out⟩,⟨up HO_352000.out⟩,⟨up HO_352001.out⟩,⟨up HO_352002.out⟩,⟨ub BK329.out⟩,⟨ub BK340.out⟩,⟨ub BK351.out⟩,⟨by repeat (first|(with_reducible first|exact HB.out|apply below_alloc|apply pw_below_drewN|apply below_drew1|refine below_set ?_ GE329.out|refine below_set ?_ GE340.out|refine below_set ?_ GE351.out)|exact HB.out)⟩⟩
             ·rw [if_neg c54] at H
              have c54b0 : decide (x16_3 < t308) = false:= decide_eq_false c54
              clear c54
              (first|rw [c54b0]|(simp only [i64_w,i32_w];rw [c54b0])|skip)
              have H':= mk H
              clear H
              go_wp2
              repeat (go_quiet (fail);try go_wp2)
              go_meet
              case rel => exact ⟨_,(false),(by first|rfl|(simp;done)|(simp [*];done)),H',⟨by have:= HJ6.out;have:= HJ17.out;have:= HK3.out;first|omega|exact Nat.le_refl _⟩,⟨up HO_7.out⟩,⟨up HO_9.out⟩,⟨up HO_330000.out⟩,⟨up HO_330001.out⟩,⟨up HO_330002.out⟩,⟨up HO_341000.out⟩,⟨up HO_341001.out⟩,⟨up HO_341002.out⟩,⟨up HO_352000.out⟩,⟨up HO_352001.out⟩,⟨up HO_352002.out⟩,⟨ub BK329.out⟩,⟨ub BK340.out⟩,⟨ub BK351.out⟩,⟨by repeat (first|(with_reducible first|exact HB.out|apply below_alloc|apply pw_below_drewN|apply below_drew1|refine below_set ?_ GE329.out|refine below_set ?_ GE340.out|refine below_set ?_ GE351.out)|exact HB.out)⟩⟩
            case rest =>
             clear HC53
             try clear c1
             try clear c2
             try clear p2
             try clear c3
             try clear c4
             try clear c5
             try clear c12
             try clear c12b0
             try clear c12b1
             try clear c12b2
             try clear c17
             try clear c19
             try clear c19b0
             try clear c20
             try clear c20b0
             try clear c21
             try clear c22
             try clear c22b0
             try clear c22b1
             try clear c22b2
             try clear c27
             try clear c27b0
             try clear c27b1
             try clear c27b2
             try clear c28
             try clear c28b0
             try clear c28b1
             try clear c28b2
             try clear c39
             try clear c46
             try clear c47
             try clear c54
             try clear c54b0
             try clear hcz32_0
             try clear hcz32_1
             try clear hcz32_2
             try clear hcz40_0
             try clear hcz40_1
             try clear hcz40_2
             try clear hcz48_0
             try clear hcz48_1
             try clear hcz48_2
             try clear hcz51_0
             try clear hcz51_1
             try clear hcz51_2
             try clear hcz52_0
             try clear hcz52_1
             try clear hcz52_2
             try clear hfz32_0
             try clear hfz32_1
             try clear hfz32_2
             try clear hfz40_0
             try clear hfz40_1
             try clear hfz40_2
             try clear hfz48_0
             try clear hfz48_1
             try clear hfz48_2
             try clear hfz51_0
             try clear hfz51_1
             try clear hfz51_2
             try clear hfz52_0
             try clear hfz52_1
             try clear hfz52_2
             try clear p2
             obtain ⟨kq,x105_52,rfl,HA,HJ52,HO_7,HO_9,HO_330000,HO_330001,HO_330002,HO_341000,HO_341001,HO_341002,HO_352000,HO_352001,HO_352002,BK329,BK340,BK351,HB⟩:= hcut
             cases kq with
            |zero => exact absurd HA.out (by simp [laws_FnPartitions.j3])
            |succ kj52 =>
              have H:= HA.out
              clear HA
              simp only [laws_FnPartitions.j3] at H
              by_cases c55 : x105_52 = true
              ·subst c55
               have H1 : (if 0 ≤ x16_3 then (if x16_3 < (t330.length : Int) then (if ((decide ((rd t330 x16_3) < t309)) != (decide (x16_3 < t313))) = true then (some false) else (laws_FnPartitions.l0 kj52 t307 t308 t309 t312 t313 t316 t339 t350 (wrap64 (x16_3 + 1)) t320 t323 t326 t330 t333 t336 t341 t344 t347)) else (none)) else (none)) = some r:= by rw [if_pos rfl] at H;exact H
               clear H
               have H:= H1
               clear H1
               by_cases c56 : 0 ≤ x16_3
               ·rw [if_pos c56] at H
                have c56b0 : decide (0 ≤ x16_3) = true:= decide_eq_true c56
                clear c56
                by_cases c57 : x16_3 < (t330.length : Int)
                ·rw [if_pos c57] at H
                 have c57b0 : decide (x16_3 < (t330.length : Int)) = true:= decide_eq_true c57
                 clear c57
                 by_cases c58 : ((decide ((rd t330 x16_3) < t309)) != (decide (x16_3 < t313))) = true
                 ·rw [if_pos c58] at H
                  have c58b0 : ((decide ((rd t330 x16_3) < t309)) != (decide (x16_3 < t313))) = true:= c58
                  (try (have c58b1 : decide ((decide ((rd t330 x16_3) < t309)) = (decide (x16_3 < t313))) = false:= by simpa using c58))
                  (try (have c58b2 : ((decide ((rd t330 x16_3) < t309)) == (decide (x16_3 < t313))) = false:= by simpa using c58))
                  (try (have c58b3 : ¬ ((decide ((rd t330 x16_3) < t309)) = (decide (x16_3 < t313))):= by simpa using c58))
                  clear c58
                  exact absurd ((Option.some.inj H).trans HRT.out) (by decide)
                 ·rw [if_neg c58] at H
                  have c58b0 : ((decide ((rd t330 x16_3) < t309)) != (decide (x16_3 < t313))) = false:= by simpa using c58
                  (try (have c58b1 : decide ((decide ((rd t330 x16_3) < t309)) = (decide (x16_3 < t313))) = true:= by simpa using c58))
                  (try (have c58b2 : ((decide ((rd t330 x16_3) < t309)) == (decide (x16_3 < t313))) = true:= by simpa using c58))
                  clear c58
                  have H':= mk H
                  clear H
                  have hnb59:= NB340_329.out
                  have hnc59:= NB329_340.out
                  have hnb60:= NB340_351.out
                  have hnc60:= NB351_340.out
                  have hcz61_0 : wc.cell? ⟨gb340,0,none⟩ = some (.slice Ao38 t330.length co38):= (blk_cell BK340.out 0).trans rfl
                  have hcz61_1 : wc.cell? ⟨gb340,1,none⟩ = some (.slice Ao41 t333.length co41):= (blk_cell BK340.out 1).trans rfl
                  have hcz61_2 : wc.cell? ⟨gb340,2,none⟩ = some (.slice Ao42 t336.length co42):= (blk_cell BK340.out 2).trans rfl
                  have hfz61_0:= blk_frozen BK340.out 0
                  have hfz61_1:= blk_frozen BK340.out 1
                  have hfz61_2:= blk_frozen BK340.out 2
                  have p352 : 0 ≤ (x16_3 : Int):= of_decide_eq_true (by first|(with_reducible assumption)|assumption)
                  have q352 : x16_3 < (t330.length : Int):= of_decide_eq_true (by first|(with_reducible assumption)|assumption)
                  obtain ⟨ad352,e352,hx352_0⟩:= Kd.at_int (Kd.R_reads' HO_341000.out).2.2 x16_3 p352 q352
                  cases e352
                  replace p352:= eq_true p352
                  replace q352:= eq_true q352
                  go_wp2
                  repeat (go_quiet (fail);try go_wp2)
                  go_roundg kj52
                  case measure => have:= HJ6.out;have:= HJ17.out;have:= HK3.out;have:= HJ52.out;omega
                  case rel => exact ⟨(wrap64 (x16_3 + 1)),(by first|rfl|(simp;done)|(simp [*];done)),H',⟨by have:= HJ6.out;have:= HJ17.out;have:= HK3.out;have:= HJ52.out;omega⟩,⟨up HO_7.out⟩,⟨up HO_9.out⟩,⟨up HO_330000.out⟩,⟨up HO_330001.out⟩,⟨up HO_330002.out⟩,⟨up HO_341000.out⟩,⟨up HO_341001.out⟩,⟨up HO_341002.out⟩,⟨up HO_352000.out⟩,⟨up HO_352001.out⟩,⟨up HO_352002.out⟩,⟨ub BK329.out⟩,⟨ub BK340.out⟩,⟨ub BK351.out⟩,⟨by repeat (first|(with_reducible first|exact HB.out|apply below_alloc|apply pw_below_drewN|apply below_drew1|refine below_set ?_ GE329.out|refine below_set ?_ GE340.out|refine below_set ?_ GE351.out)|exact HB.out)⟩⟩
                ·rw [if_neg c57] at H
                 exact absurd H (by simp)
               ·rw [if_neg c56] at H
                exact absurd H (by simp)
              ·replace c55:= Bool.eq_false_iff.mpr c55
               subst c55
               have H1 : (laws_FnPartitions.l1 kj52 t307 t308 t312 t313 t316 t339 t350 0 t320 t323 t326 t341 t344 t347) = some r:= by rw [if_neg (show ¬ (false = true) by decide)] at H;exact H
               clear H
               have H:= H1
               clear H1
               have H':= mk H
               clear H
               go_wp2
               repeat (go_quiet (fail);try go_wp2)
               go_loopg [17] kj52 (fun kq v17 w' => ∃ (x17_5 : Int),v17 = .int .i64 x17_5 ∧ Aside0 (laws_FnPartitions.l1 kq t307 t308 t312 t313 t316 t339 t350 x17_5 t320 t323 t326 t341 t344 t347 = some r) ∧ Aside0 (kq ≤ kj52) ∧ Aside0 (Kd.R k50 50 w' w.heap.size (fun k_ => some k_ ≠ (v318 : Value).ownBlock) (.slice Ao35 t312.length co35) t312) ∧ Aside0 (Kd.R k50 50 w' w.heap.size (fun k_ => some k_ ≠ ((.slice Ao35 t312.length co35) : Value).ownBlock) v318 t316) ∧ Aside0 (Kd.R (Kd.int .i64) 3 w' w.heap.size (fun k_ => some k_ ≠ ((.slice Ao33 t323.length co33) : Value).ownBlock ∧ some k_ ≠ ((.slice Ao38 t330.length co38) : Value).ownBlock ∧ some k_ ≠ ((.slice Ao41 t333.length co41) : Value).ownBlock ∧ some k_ ≠ ((.slice Ao45 t341.length co45) : Value).ownBlock ∧ some k_ ≠ ((.slice Ao49 t344.length co49) : Value).ownBlock) (.slice Ao31 t320.length co31) t320) ∧ Aside0 (Kd.R (Kd.int .i64) 3 w' w.heap.size (fun k_ => some k_ ≠ ((.slice Ao31 t320.length co31) : Value).ownBlock ∧ some k_ ≠ ((.slice Ao38 t330.length co38) : Value).ownBlock ∧ some k_ ≠ ((.slice Ao41 t333.length co41) : Value).ownBlock ∧ some k_ ≠ ((.slice Ao45 t341.length co45) : Value).ownBlock ∧ some k_ ≠ ((.slice Ao49 t344.length co49) : Value).ownBlock) (.slice Ao33 t323.length co33) t323) ∧ Aside0 (Kd.R k74 74 w' w.heap.size (fun k_ => some k_ ≠ ((.slice Ao42 t336.length co42) : Value).ownBlock ∧ some k_ ≠ ((.slice Ao50 t347.length co50) : Value).ownBlock) (.slice Ao34 t326.length co34) t326) ∧ Aside0 (Kd.R (Kd.int .i64) 3 w' w.heap.size (fun k_ => some k_ ≠ ((.slice Ao31 t320.length co31) : Value).ownBlock ∧ some k_ ≠ ((.slice Ao33 t323.length co33) : Value).ownBlock ∧ some k_ ≠ ((.slice Ao41 t333.length co41) : Value).ownBlock ∧ some k_ ≠ ((.slice Ao45 t341.length co45) : Value).ownBlock ∧ some k_ ≠ ((.slice Ao49 t344.length co49) : Value).ownBlock) (.slice Ao38 t330.length co38) t330) ∧ Aside0 (Kd.R (Kd.int .i64) 3 w' w.heap.size (fun k_ => some k_ ≠ ((.slice Ao31 t320.length co31) : Value).ownBlock ∧ some k_ ≠ ((.slice Ao33 t323.length co33) : Value).ownBlock ∧ some k_ ≠ ((.slice Ao38 t330.length co38) : Value).ownBlock ∧ some k_ ≠ ((.slice Ao45 t341.length co45) : Value).ownBlock ∧ some k_ ≠ ((.slice Ao49 t344.length co49) : Value).ownBlock) (.slice Ao41 t333.length co41) t333) ∧ Aside0 (Kd.R k74 74 w' w.heap.size (fun k_ => some k_ ≠ ((.slice Ao34 t326.length co34) : Value).ownBlock ∧ some k_ ≠ ((.slice Ao50 t347.length co50) : Value).ownBlock) (.slice Ao42 t336.length co42) t336) ∧ Aside0 (Kd.R (Kd.int .i64) 3 w' w.heap.size (fun k_ => some k_ ≠ ((.slice Ao31 t320.length co31) : Value).ownBlock ∧ some k_ ≠ ((.slice Ao33 t323.length co33) : Value).ownBlock ∧ some k_ ≠ ((.slice Ao38 t330.length co38) : Value).ownBlock ∧ some k_ ≠ ((.slice Ao41 t333.length co41) : Value).ownBlock ∧ some k_ ≠ ((.slice Ao49 t344.length co49) : Value).ownBlock) (.slice Ao45 t341.length co45) t341) ∧ Aside0 (Kd.R (Kd.int .i64) 3 w' w.heap.size (fun k_ => some k_ ≠ ((.slice Ao31 t320.length co31) : Value).ownBlock ∧ some k_ ≠ ((.slice Ao33 t323.length co33) : Value).ownBlock ∧ some k_ ≠ ((.slice Ao38 t330.length co38) : Value).ownBlock ∧ some k_ ≠ ((.slice Ao41 t333.length co41) : Value).ownBlock ∧ some k_ ≠ ((.slice Ao45 t341.length co45) : Value).ownBlock) (.slice Ao49 t344.length co49) t344) ∧ Aside0 (Kd.R k74 74 w' w.heap.size (fun k_ => some k_ ≠ ((.slice Ao34 t326.length co34) : Value).ownBlock ∧ some k_ ≠ ((.slice Ao42 t336.length co42) : Value).ownBlock) (.slice Ao50 t347.length co50) t347) ∧ Aside0 (w'.heap[gb329]? = some (.cells #[(.slice Ao31 t320.length co31),(.slice Ao33 t323.length co33),(.slice Ao34 t326.length co34)] 31 (0,0))) ∧ Aside0 (w'.heap[gb340]? = some (.cells #[(.slice Ao38 t330.length co38),(.slice Ao41 t333.length co41),(.slice Ao42 t336.length co42)] 31 (0,0))) ∧ Aside0 (w'.heap[gb351]? = some (.cells #[(.slice Ao45 t341.length co45),(.slice Ao49 t344.length co49),(.slice Ao50 t347.length co50)] 31 (0,0))) ∧ Aside0 (Below w.heap.size w w'))
               case atStart => exact ⟨(0),(by first|rfl|(simp;done)|(simp [*];done)),H',⟨Nat.le_refl _⟩,⟨up HO_7.out⟩,⟨up HO_9.out⟩,⟨up HO_330000.out⟩,⟨up HO_330001.out⟩,⟨up HO_330002.out⟩,⟨up HO_341000.out⟩,⟨up HO_341001.out⟩,⟨up HO_341002.out⟩,⟨up HO_352000.out⟩,⟨up HO_352001.out⟩,⟨up HO_352002.out⟩,⟨ub BK329.out⟩,⟨ub BK340.out⟩,⟨ub BK351.out⟩,⟨by repeat (first|(with_reducible first|exact HB.out|apply below_alloc|apply pw_below_drewN|apply below_drew1|refine below_set ?_ GE329.out|refine below_set ?_ GE340.out|refine below_set ?_ GE351.out)|exact HB.out)⟩⟩
               case round =>
                clear H'
                try clear c1
                try clear c2
                try clear p2
                try clear c3
                try clear p3
                try clear q3
                try clear hx3
                try clear c4
                try clear c5
                try clear c6
                try clear p6
                try clear c12
                try clear c12b0
                try clear c12b1
                try clear c12b2
                try clear c17
                try clear c19
                try clear c19b0
                try clear c20
                try clear c20b0
                try clear c21
                try clear c22
                try clear c22b0
                try clear c22b1
                try clear c22b2
                try clear c27
                try clear c27b0
                try clear c27b1
                try clear c27b2
                try clear c28
                try clear c28b0
                try clear c28b1
                try clear c28b2
                try clear p35
                try clear q35
                try clear hx35
                try clear c39
                try clear c46
                try clear c47
                try clear c54
                try clear c54b0
                try clear c55
                try clear c56
                try clear c56b0
                try clear c57
                try clear c57b0
                try clear c58
                try clear c58b0
                try clear c58b1
                try clear c58b2
                try clear c59
                try clear c60
                try clear hcz32_0
                try clear hcz32_1
                try clear hcz32_2
                try clear hcz40_0
                try clear hcz40_1
                try clear hcz40_2
                try clear hcz48_0
                try clear hcz48_1
                try clear hcz48_2
                try clear hcz51_0
                try clear hcz51_1
                try clear hcz51_2
                try clear hcz52_0
                try clear hcz52_1
                try clear hcz52_2
                try clear hcz61_0
                try clear hcz61_1
                try clear hcz61_2
                try clear hfz32_0
                try clear hfz32_1
                try clear hfz32_2
                try clear hfz40_0
                try clear hfz40_1
                try clear hfz40_2
                try clear hfz48_0
                try clear hfz48_1
                try clear hfz48_2
                try clear hfz51_0
                try clear hfz51_1
                try clear hfz51_2
                try clear hfz52_0
                try clear hfz52_1
                try clear hfz52_2
                try clear hfz61_0
                try clear hfz61_1
                try clear hfz61_2
                try clear hx352_0
                try clear p2
                try clear p352
                try clear q352
                obtain ⟨x17_5,rfl,HA,HK5,HO_7,HO_9,HO_330000,HO_330001,HO_330002,HO_341000,HO_341001,HO_341002,HO_352000,HO_352001,HO_352002,BK329,BK340,BK351,HB⟩:= hrel
                cases gk with
               |zero => exact absurd HA.out (by simp [laws_FnPartitions.l1])
               |succ k5 =>
                 have H:= HA.out
                 clear HA
                 simp only [laws_FnPartitions.l1] at H
                 by_cases c62 : x17_5 < (t312.length : Int)
                 ·rw [if_pos c62] at H
                  have c62b0 : decide (x17_5 < (t312.length : Int)) = true:= decide_eq_true c62
                  clear c62
                  by_cases c63 : 0 ≤ x17_5
                  ·rw [if_pos c63] at H
                   have c63b0 : decide (0 ≤ x17_5) = true:= decide_eq_true c63
                   clear c63
                   by_cases c64 : x17_5 < (t316.length : Int)
                   ·rw [if_pos c64] at H
                    have c64b0 : decide (x17_5 < (t316.length : Int)) = true:= decide_eq_true c64
                    clear c64
                    by_cases c65 : (!(((rd_T50 t312 x17_5).f0) == ((rd_T50 t316 x17_5).f0)) || (!(((rd_T50 t312 x17_5).f1) == ((rd_T50 t316 x17_5).f1)))) = true
                    ·rw [if_pos c65] at H
                     have c65b0 : (!(((rd_T50 t312 x17_5).f0) == ((rd_T50 t316 x17_5).f0)) || (!(((rd_T50 t312 x17_5).f1) == ((rd_T50 t316 x17_5).f1)))) = true:= c65
                     clear c65
                     exact absurd ((Option.some.inj H).trans HRT.out) (by decide)
                    ·rw [if_neg c65] at H
                     have c65b0 : (!(((rd_T50 t312 x17_5).f0) == ((rd_T50 t316 x17_5).f0)) || (!(((rd_T50 t312 x17_5).f1) == ((rd_T50 t316 x17_5).f1)))) = false:= by simpa using c65
                     clear c65
                     by_cases c66 : ((rd_T50 t312 x17_5).f0) ≥ ((rd_T50 t312 x17_5).f1)
                     ·rw [if_pos c66] at H
                      have c66b0 : decide (((rd_T50 t312 x17_5).f1) ≤ ((rd_T50 t312 x17_5).f0)) = true:= decide_eq_true c66
                      clear c66
                      exact absurd ((Option.some.inj H).trans HRT.out) (by decide)
                     ·rw [if_neg c66] at H
                      have c66b0 : decide (((rd_T50 t312 x17_5).f1) ≤ ((rd_T50 t312 x17_5).f0)) = false:= decide_eq_false c66
                      clear c66
                      by_cases c67 : x17_5 > 0
                      ·rw [if_pos c67] at H
                       have c67b0 : decide (0 < x17_5) = true:= decide_eq_true c67
                       clear c67
                       obtain ⟨ji68,hji68⟩ : ∃ j_ : Int,(wrap64 (x17_5 - 1)) = j_:= ⟨_,rfl⟩
                       replace H : (if 0 ≤ (ji68) then (if (ji68) < (t312.length : Int) then (if ((rd_T50 t312 x17_5).f0) ≤ ((rd_T50 t312 (ji68)).f0) then (some false) else (if ((rd_T50 t312 x17_5).f1) ≥ ((rd_T50 t312 (ji68)).f1) then (some false) else (laws_FnPartitions.l1 k5 t307 t308 t312 t313 t316 t339 t350 (wrap64 (x17_5 + 1)) t320 t323 t326 t341 t344 t347))) else (none)) else (none)) = some r:= by first|(rw [hji68] at H;exact H)|(simp only [hji68] at H ⊢;exact H)
                       have hji68w : (IntKind.i64.wrap (x17_5 - 1)) = ji68:= (i64_w _).trans hji68
                       by_cases c69 : 0 ≤ (ji68)
                       ·rw [if_pos c69] at H
                        have c69b0 : decide (0 ≤ (ji68)) = true:= decide_eq_true c69
                        clear c69
                        by_cases c70 : (ji68) < (t312.length : Int)
                        ·rw [if_pos c70] at H
                         have c70b0 : decide ((ji68) < (t312.length : Int)) = true:= decide_eq_true c70
                         clear c70
                         by_cases c71 : ((rd_T50 t312 x17_5).f0) ≤ ((rd_T50 t312 (ji68)).f0)
                         ·rw [if_pos c71] at H
                          have c71b0 : decide (((rd_T50 t312 x17_5).f0) ≤ ((rd_T50 t312 (ji68)).f0)) = true:= decide_eq_true c71
                          clear c71
                          exact absurd ((Option.some.inj H).trans HRT.out) (by decide)
                         ·rw [if_neg c71] at H
                          have c71b0 : decide (((rd_T50 t312 x17_5).f0) ≤ ((rd_T50 t312 (ji68)).f0)) = false:= decide_eq_false c71
                          clear c71
                          by_cases c72 : ((rd_T50 t312 x17_5).f1) ≥ ((rd_T50 t312 (ji68)).f1)
                          ·rw [if_pos c72] at H
                           have c72b0 : decide (((rd_T50 t312 (ji68)).f1) ≤ ((rd_T50 t312 x17_5).f1)) = true:= decide_eq_true c72
                           clear c72
                           exact absurd ((Option.some.inj H).trans HRT.out) (by decide)
                          ·rw [if_neg c72] at H
                           have c72b0 : decide (((rd_T50 t312 (ji68)).f1) ≤ ((rd_T50 t312 x17_5).f1)) = false:= decide_eq_false c72
                           clear c72
                           have H':= mk H
                           clear H
                           have p353 : 0 ≤ (x17_5 : Int):= of_decide_eq_true (by first|(with_reducible assumption)|assumption)
                           have q353 : x17_5 < (t312.length : Int):= of_decide_eq_true (by first|(with_reducible assumption)|assumption)
                           obtain ⟨ad353,e353,hx353_0,hx353_1⟩:= at_T50 (Kd.R_reads' HO_7.out).2.2 x17_5 p353 q353
                           cases e353
                           replace p353:= eq_true p353
                           replace q353:= eq_true q353
                           obtain ⟨Ao73,co73,eo73⟩:= Kd.R_slice HO_9.out
                           subst eo73
                           have p354 : 0 ≤ (x17_5 : Int):= of_decide_eq_true (by first|(with_reducible assumption)|assumption)
                           have q354 : x17_5 < (t316.length : Int):= of_decide_eq_true (by first|(with_reducible assumption)|assumption)
                           obtain ⟨ad354,e354,hx354_0,hx354_1⟩:= at_T50 (Kd.R_reads' HO_9.out).2.2 x17_5 p354 q354
                           cases e354
                           replace p354:= eq_true p354
                           replace q354:= eq_true q354
                           have p355 : 0 ≤ (x17_5 : Int):= of_decide_eq_true (by first|(with_reducible assumption)|assumption)
                           have q355 : x17_5 < (t312.length : Int):= of_decide_eq_true (by first|(with_reducible assumption)|assumption)
                           obtain ⟨ad355,e355,hx355_0,hx355_1⟩:= at_T50 (Kd.R_reads' HO_7.out).2.2 x17_5 p355 q355
                           obtain rfl : ad353 = ad355:= (by injection e355)
                           replace p355:= eq_true p355
                           replace q355:= eq_true q355
                           have p356 : 0 ≤ (x17_5 : Int):= of_decide_eq_true (by first|(with_reducible assumption)|assumption)
                           have q356 : x17_5 < (t312.length : Int):= of_decide_eq_true (by first|(with_reducible assumption)|assumption)
                           obtain ⟨ad356,e356,hx356_0,hx356_1⟩:= at_T50 (Kd.R_reads' HO_7.out).2.2 x17_5 p356 q356
                           obtain rfl : ad353 = ad356:= (by injection e356)
                           replace p356:= eq_true p356
                           replace q356:= eq_true q356
                           have p357 : 0 ≤ (x17_5 : Int):= of_decide_eq_true (by first|(with_reducible assumption)|assumption)
                           have q357 : x17_5 < (t312.length : Int):= of_decide_eq_true (by first|(with_reducible assumption)|assumption)
                           obtain ⟨ad357,e357,hx357_0,hx357_1⟩:= at_T50 (Kd.R_reads' HO_7.out).2.2 x17_5 p357 q357
                           obtain rfl : ad353 = ad357:= (by injection e357)
                           replace p357:= eq_true p357
                           replace q357:= eq_true q357
                           have p358 : 0 ≤ ((ji68) : Int):= of_decide_eq_true (by first|(with_reducible assumption)|assumption)
                           have q358 : (ji68) < (t312.length : Int):= of_decide_eq_true (by first|(with_reducible assumption)|assumption)
                           obtain ⟨ad358,e358,hx358_0,hx358_1⟩:= at_T50 (Kd.R_reads' HO_7.out).2.2 (ji68) p358 q358
                           obtain rfl : ad353 = ad358:= (by injection e358)
                           replace p358:= eq_true p358
                           replace q358:= eq_true q358
                           have p359 : 0 ≤ (x17_5 : Int):= of_decide_eq_true (by first|(with_reducible assumption)|assumption)
                           have q359 : x17_5 < (t312.length : Int):= of_decide_eq_true (by first|(with_reducible assumption)|assumption)
                           obtain ⟨ad359,e359,hx359_0,hx359_1⟩:= at_T50 (Kd.R_reads' HO_7.out).2.2 x17_5 p359 q359
                           obtain rfl : ad353 = ad359:= (by injection e359)
                           replace p359:= eq_true p359
                           replace q359:= eq_true q359
                           have p360 : 0 ≤ ((ji68) : Int):= of_decide_eq_true (by first|(with_reducible assumption)|assumption)
                           have q360 : (ji68) < (t312.length : Int):= of_decide_eq_true (by first|(with_reducible assumption)|assumption)
                           obtain ⟨ad360,e360,hx360_0,hx360_1⟩:= at_T50 (Kd.R_reads' HO_7.out).2.2 (ji68) p360 q360
                           obtain rfl : ad353 = ad360:= (by injection e360)
                           replace p360:= eq_true p360
                           replace q360:= eq_true q360
                           go_wp2
                           repeat (go_quiet (fail);try go_wp2)
                           go_roundg k5
                           case measure => have:= HJ6.out;have:= HJ17.out;have:= HK3.out;have:= HJ52.out;have:= HK5.out;omega
                           case rel => exact ⟨(wrap64 (x17_5 + 1)),(by first|rfl|(simp;done)|(simp [*];done)),H',⟨by have:= HJ6.out;have:= HJ17.out;have:= HK3.out;have:= HJ52.out;have:= HK5.out;omega⟩,⟨up HO_7.out⟩,⟨up HO_9.out⟩,⟨up HO_330000.out⟩,⟨up HO_330001.out⟩,⟨up HO_330002.out⟩,⟨up HO_341000.out⟩,⟨up HO_341001.out⟩,⟨up HO_341002.out⟩,⟨up HO_352000.out⟩,⟨up HO_352001.out⟩,⟨up HO_352002.out⟩,⟨ub BK329.out⟩,⟨ub BK340.out⟩,⟨ub BK351.out⟩,⟨by repeat (first|(with_reducible first|exact HB.out|apply below_alloc|apply pw_below_drewN|apply below_drew1|refine below_set ?_ GE329.out|refine below_set ?_ GE340.out|refine below_set ?_ GE351.out)|exact HB.out)⟩⟩
                        ·rw [if_neg c70] at H
                         exact absurd H (by simp)
                       ·rw [if_neg c69] at H
                        exact absurd H (by simp)
                      ·rw [if_neg c67] at H
                       have c67b0 : decide (0 < x17_5) = false:= decide_eq_false c67
                       clear c67
                       have H':= mk H
                       clear H
                       have p353 : 0 ≤ (x17_5 : Int):= of_decide_eq_true (by first|(with_reducible assumption)|assumption)
                       have q353 : x17_5 < (t312.length : Int):= of_decide_eq_true (by first|(with_reducible assumption)|assumption)
                       obtain ⟨ad353,e353,hx353_0,hx353_1⟩:= at_T50 (Kd.R_reads' HO_7.out).2.2 x17_5 p353 q353
                       cases e353
                       replace p353:= eq_true p353
                       replace q353:= eq_true q353
                       obtain ⟨Ao74,co74,eo74⟩:= Kd.R_slice HO_9.out
                       subst eo74
                       have p354 : 0 ≤ (x17_5 : Int):= of_decide_eq_true (by first|(with_reducible assumption)|assumption)
                       have q354 : x17_5 < (t316.length : Int):= of_decide_eq_true (by first|(with_reducible assumption)|assumption)
                       obtain ⟨ad354,e354,hx354_0,hx354_1⟩:= at_T50 (Kd.R_reads' HO_9.out).2.2 x17_5 p354 q354
                       cases e354
                       replace p354:= eq_true p354
                       replace q354:= eq_true q354
                       have p355 : 0 ≤ (x17_5 : Int):= of_decide_eq_true (by first|(with_reducible assumption)|assumption)
                       have q355 : x17_5 < (t312.length : Int):= of_decide_eq_true (by first|(with_reducible assumption)|assumption)
                       obtain ⟨ad355,e355,hx355_0,hx355_1⟩:= at_T50 (Kd.R_reads' HO_7.out).2.2 x17_5 p355 q355
                       obtain rfl : ad353 = ad355:= (by injection e355)
                       replace p355:= eq_true p355
                       replace q355:= eq_true q355
                       have p356 : 0 ≤ (x17_5 : Int):= of_decide_eq_true (by first|(with_reducible assumption)|assumption)
                       have q356 : x17_5 < (t312.length : Int):= of_decide_eq_true (by first|(with_reducible assumption)|assumption)
                       obtain ⟨ad356,e356,hx356_0,hx356_1⟩:= at_T50 (Kd.R_reads' HO_7.out).2.2 x17_5 p356 q356
                       obtain rfl : ad353 = ad356:= (by injection e356)
                       replace p356:= eq_true p356
                       replace q356:= eq_true q356
                       go_wp2
                       repeat (go_quiet (fail);try go_wp2)
                       go_roundg k5
                       case measure => have:= HJ6.out;have:= HJ17.out;have:= HK3.out;have:= HJ52.out;have:= HK5.out;omega
                       case rel => exact ⟨(wrap64 (x17_5 + 1)),(by first|rfl|(simp;done)|(simp [*];done)),H',⟨by have:= HJ6.out;have:= HJ17.out;have:= HK3.out;have:= HJ52.out;have:= HK5.out;omega⟩,⟨up HO_7.out⟩,⟨up HO_9.out⟩,⟨up HO_330000.out⟩,⟨up HO_330001.out⟩,⟨up HO_330002.out⟩,⟨up HO_341000.out⟩,⟨up HO_341001.out⟩,⟨up HO_341002.out⟩,⟨up HO_352000.out⟩,⟨up HO_352001.out⟩,⟨up HO_352002.out⟩,⟨ub BK329.out⟩,⟨ub BK340.out⟩,⟨ub BK351.out⟩,⟨by repeat (first|(with_reducible first|exact HB.out|apply below_alloc|apply pw_below_drewN|apply below_drew1|refine below_set ?_ GE329.out|refine below_set ?_ GE340.out|refine below_set ?_ GE351.out)|exact HB.out)⟩⟩
                   ·rw [if_neg c64] at H
                    exact absurd H (by simp)
                  ·rw [if_neg c63] at H
                   exact absurd H (by simp)
                 ·rw [if_neg c62] at H
                  have c62b0 : decide (x17_5 < (t312.length : Int)) = false:= decide_eq_false c62
                  clear c62
                  by_cases c75 : t339 = true
                  ·subst c75
                   have H1 : (if t350 = true then ((spec_EqualCrackers.f k5 t341 t344 t347 t320 t323 t326).bind fun t361 => (if t361 = true then (if (wrap64 (2 * (t312.length : Int))) ≤ (wrap64 (t308 - t307)) then (if t313 ≥ t307 then (some (decide (t313 ≤ t308))) else (some false)) else (some false)) else (some false))) else (some false)) = some r:= by rw [if_pos rfl] at H;exact H
                   clear H
                   have H:= H1
                   clear H1
                   by_cases c76 : t350 = true
                   ·subst c76
                    have H1 : ((spec_EqualCrackers.f k5 t341 t344 t347 t320 t323 t326).bind fun t361 => (if t361 = true then (if (wrap64 (2 * (t312.length : Int))) ≤ (wrap64 (t308 - t307)) then (if t313 ≥ t307 then (some (decide (t313 ≤ t308))) else (some false)) else (some false)) else (some false))) = some r:= by rw [if_pos rfl] at H;exact H
                    clear H
                    have H:= H1
                    clear H1
                    replace H:= Option.bind_eq_some_iff.mp H
                    obtain ⟨t361,A770,H⟩:= H
                    replace H : (if t361 = true then (if (wrap64 (2 * (t312.length : Int))) ≤ (wrap64 (t308 - t307)) then (if t313 ≥ t307 then (some (decide (t313 ≤ t308))) else (some false)) else (some false)) else (some false)) = some r:= H
                    have A77:= mk A770
                    clear A770
                    by_cases c78 : t361 = true
                    ·subst c78
                     have H1 : (if (wrap64 (2 * (t312.length : Int))) ≤ (wrap64 (t308 - t307)) then (if t313 ≥ t307 then (some (decide (t313 ≤ t308))) else (some false)) else (some false)) = some r:= by rw [if_pos rfl] at H;exact H
                     clear H
                     have H:= H1
                     clear H1
                     by_cases c79 : (wrap64 (2 * (t312.length : Int))) ≤ (wrap64 (t308 - t307))
                     ·rw [if_pos c79] at H
                      have c79b0 : decide ((wrap64 (2 * (t312.length : Int))) ≤ (wrap64 (t308 - t307))) = true:= decide_eq_true c79
                      clear c79
                      by_cases c80 : t313 ≥ t307
                      ·rw [if_pos c80] at H
                       have c80b0 : decide (t307 ≤ t313) = true:= decide_eq_true c80
                       clear c80
                       obtain rfl:= Option.some.inj H
                       have hnb81:= NB351_329.out
                       have hnc81:= NB329_351.out
                       have hnb82:= NB351_340.out
                       have hnc82:= NB340_351.out
                       have hcz83_0 : wr.cell? ⟨gb351,0,none⟩ = some (.slice Ao45 t341.length co45):= (blk_cell BK351.out 0).trans rfl
                       have hcz83_1 : wr.cell? ⟨gb351,1,none⟩ = some (.slice Ao49 t344.length co49):= (blk_cell BK351.out 1).trans rfl
                       have hcz83_2 : wr.cell? ⟨gb351,2,none⟩ = some (.slice Ao50 t347.length co50):= (blk_cell BK351.out 2).trans rfl
                       have hfz83_0:= blk_frozen BK351.out 0
                       have hfz83_1:= blk_frozen BK351.out 1
                       have hfz83_2:= blk_frozen BK351.out 2
                       have hnb84:= NB329_340.out
                       have hnc84:= NB340_329.out
                       have hcz85_0 : wr.cell? ⟨gb329,0,none⟩ = some (.slice Ao31 t320.length co31):= (blk_cell BK329.out 0).trans rfl
                       have hcz85_1 : wr.cell? ⟨gb329,1,none⟩ = some (.slice Ao33 t323.length co33):= (blk_cell BK329.out 1).trans rfl
                       have hcz85_2 : wr.cell? ⟨gb329,2,none⟩ = some (.slice Ao34 t326.length co34):= (blk_cell BK329.out 2).trans rfl
                       have hfz85_0:= blk_frozen BK329.out 0
                       have hfz85_1:= blk_frozen BK329.out 1
                       have hfz85_2:= blk_frozen BK329.out 2
                       go_wp2_with (first|(go_at_call 24;(with_reducible refine (spec_EqualCrackers.calls k5 _ _ t341 _ _ t344 _ _ t347 _ _ t320 _ _ t323 _ _ t326 true _ ?side1 ?side2 ?side3 ?side4 ?side5 ?side6 ?side7 ?side8 ?side9 ?side10 ?side11 ?side12 A77.out).mono ?_);(case side1 => exact uc (Kd.R_reads' HO_352000.out).2.2);(case side2 => exact (Kd.R_reads' HO_352000.out).2.1);(case side3 => exact uc (Kd.R_reads' HO_352001.out).2.2);(case side4 => exact (Kd.R_reads' HO_352001.out).2.1);(case side5 => exact uc (Kd.R_reads' HO_352002.out).2.2);(case side6 => exact (Kd.R_reads' HO_352002.out).2.1);(case side7 => exact uc (Kd.R_reads' HO_330000.out).2.2);(case side8 => exact (Kd.R_reads' HO_330000.out).2.1);(case side9 => exact uc (Kd.R_reads' HO_330001.out).2.2);(case side10 => exact (Kd.R_reads' HO_330001.out).2.1);(case side11 => exact uc (Kd.R_reads' HO_330002.out).2.2);(case side12 => exact (Kd.R_reads' HO_330002.out).2.1);rintro e w86 ⟨rfl,hb⟩;have n0_:= mk (Kd.R_below (up HO_7.out) hb);have n1_:= mk (Kd.R_below (up HO_9.out) hb);have n2_:= mk (Kd.R_below (up HO_330000.out) hb);have n3_:= mk (Kd.R_below (up HO_330001.out) hb);have n4_:= mk (Kd.R_below (up HO_330002.out) hb);have n5_:= mk (Kd.R_below (up HO_341000.out) hb);have n6_:= mk (Kd.R_below (up HO_341001.out) hb);have n7_:= mk (Kd.R_below (up HO_341002.out) hb);have n8_:= mk (Kd.R_below (up HO_352000.out) hb);have n9_:= mk (Kd.R_below (up HO_352001.out) hb);have n10_:= mk (Kd.R_below (up HO_352002.out) hb);have n11_:= mk (blk_below (g:= gb329) (o:= .cells #[.slice Ao31 t320.length co31,.slice Ao33 t323.length co33,.slice Ao34 t326.length co34] 31 (0,0)) (ub BK329.out) hb);have n12_:= mk (blk_below (g:= gb340) (o:= .cells #[.slice Ao38 t330.length co38,.slice Ao41 t333.length co41,.slice Ao42 t336.length co42] 31 (0,0)) (ub BK340.out) hb);have n13_:= mk (blk_below (g:= gb351) (o:= .cells #[.slice Ao45 t341.length co45,.slice Ao49 t344.length co49,.slice Ao50 t347.length co50] 31 (0,0)) (ub BK351.out) hb);have n14_:= mk (below_step (by repeat (first|(with_reducible first|exact HB.out|apply below_alloc|apply pw_below_drewN|apply below_drew1|refine below_set ?_ GE329.out|refine below_set ?_ GE340.out|refine below_set ?_ GE351.out)|exact HB.out)) hb);clear HO_7;clear HO_9;clear HO_330000;clear HO_330001;clear HO_330002;clear HO_341000;clear HO_341001;clear HO_341002;clear HO_352000;clear HO_352001;clear HO_352002;clear BK329;clear BK340;clear BK351;clear HB;have HO_7:= n0_;have HO_9:= n1_;have HO_330000:= n2_;have HO_330001:= n3_;have HO_330002:= n4_;have HO_341000:= n5_;have HO_341001:= n6_;have HO_341002:= n7_;have HO_352000:= n8_;have HO_352001:= n9_;have HO_352002:= n10_;have BK329:= n11_;have BK340:= n12_;have BK351:= n13_;have HB:= n14_;clear n0_ n1_ n2_ n3_ n4_ n5_ n6_ n7_ n8_ n9_ n10_ n11_ n12_ n13_ n14_;(try clear hb);(try clear hb2);(try clear hk);(try clear hi)))
                       repeat (go_quiet (first|(go_at_call 24;(with_reducible refine (spec_EqualCrackers.calls k5 _ _ t341 _ _ t344 _ _ t347 _ _ t320 _ _ t323 _ _ t326 true _ ?side1 ?side2 ?side3 ?side4 ?side5 ?side6 ?side7 ?side8 ?side9 ?side10 ?side11 ?side12 A77.out).mono ?_);(case side1 => exact uc (Kd.R_reads' HO_352000.out).2.2);(case side2 => exact (Kd.R_reads' HO_352000.out).2.1);(case side3 => exact uc (Kd.R_reads' HO_352001.out).2.2);(case side4 => exact (Kd.R_reads' HO_352001.out).2.1);(case side5 => exact uc (Kd.R_reads' HO_352002.out).2.2);(case side6 => exact (Kd.R_reads' HO_352002.out).2.1);(case side7 => exact uc (Kd.R_reads' HO_330000.out).2.2);(case side8 => exact (Kd.R_reads' HO_330000.out).2.1);(case side9 => exact uc (Kd.R_reads' HO_330001.out).2.2);(case side10 => exact (Kd.R_reads' HO_330001.out).2.1);(case side11 => exact uc (Kd.R_reads' HO_330002.out).2.2);(case side12 => exact (Kd.R_reads' HO_330002.out).2.1);rintro e w86 ⟨rfl,hb⟩;have n0_:= mk (Kd.R_below (up HO_7.out) hb);have n1_:= mk (Kd.R_below (up HO_9.out) hb);have n2_:= mk (Kd.R_below (up HO_330000.out) hb);have n3_:= mk (Kd.R_below (up HO_330001.out) hb);have n4_:= mk (Kd.R_below (up HO_330002.out) hb);have n5_:= mk (Kd.R_below (up HO_341000.out) hb);have n6_:= mk (Kd.R_below (up HO_341001.out) hb);have n7_:= mk (Kd.R_below (up HO_341002.out) hb);have n8_:= mk (Kd.R_below (up HO_352000.out) hb);have n9_:= mk (Kd.R_below (up HO_352001.out) hb);have n10_:= mk (Kd.R_below (up HO_352002.out) hb);have n11_:= mk (blk_below (g:= gb329) (o:= .cells #[.slice Ao31 t320.length co31,.slice Ao33 t323.length co33,.slice Ao34 t326.length co34] 31 (0,0)) (ub BK329.out) hb);have n12_:= mk (blk_below (g:= gb340) (o:= .cells #[.slice Ao38 t330.length co38,.slice Ao41 t333.length co41,.slice Ao42 t336.length co42] 31 (0,0)) (ub BK340.out) hb);have n13_:= mk (blk_below (g:= gb351) (o:= .cells #[.slice Ao45 t341.length co45,.slice Ao49 t344.length co49,.slice Ao50 t347.length co50] 31 (0,0)) (ub BK351.out) hb);have n14_:= mk (below_step (by repeat (first|(with_reducible first|exact HB.out|apply below_alloc|apply pw_below_drewN|apply below_drew1|refine below_set ?_ GE329.out|refine below_set ?_ GE340.out|refine below_set ?_ GE351.out)|exact HB.out)) hb);clear HO_7;clear HO_9;clear HO_330000;clear HO_330001;clear HO_330002;clear HO_341000;clear HO_341001;clear HO_341002;clear HO_352000;clear HO_352001;clear HO_352002;clear BK329;clear BK340;clear BK351;clear HB;have HO_7:= n0_;have HO_9:= n1_;have HO_330000:= n2_;have HO_330001:= n3_;have HO_330002:= n4_;have HO_341000:= n5_;have HO_341001:= n6_;have HO_341002:= n7_;have HO_352000:= n8_;have HO_352001:= n9_;have HO_352002:= n10_;have BK329:= n11_;have BK340:= n12_;have BK351:= n13_;have HB:= n14_;clear n0_ n1_ n2_ n3_ n4_ n5_ n6_ n7_ n8_ n9_ n10_ n11_ n12_ n13_ n14_;(try clear hb);(try clear hb2);(try clear hk);(try clear hi)));try go_wp2_with (first|(go_at_call 24;(with_reducible refine (spec_EqualCrackers.calls k5 _ _ t341 _ _ t344 _ _ t347 _ _ t320 _ _ t323 _ _ t326 true _ ?side1 ?side2 ?side3 ?side4 ?side5 ?side6 ?side7 ?side8 ?side9 ?side10 ?side11 ?side12 A77.out).mono ?_);(case side1 => exact uc (Kd.R_reads' HO_352000.out).2.2);(case side2 => exact (Kd.R_reads' HO_352000.out).2.1);(case side3 => exact uc (Kd.R_reads' HO_352001.out).2.2);(case side4 => exact (Kd.R_reads' HO_352001.out).2.1);(case side5 => exact uc (Kd.R_reads' HO_352002.out).2.2);(case side6 => exact (Kd.R_reads' HO_352002.out).2.1);(case side7 => exact uc (Kd.R_reads' HO_330000.out).2.2);(case side8 => exact (Kd.R_reads' HO_330000.out).2.1);(case side9 => exact uc (Kd.R_reads' HO_330001.out).2.2);(case side10 => exact (Kd.R_reads' HO_330001.out).2.1);(case side11 => exact uc (Kd.R_reads' HO_330002.out).2.2);(case side12 => exact (Kd.R_reads' HO_330002.out).2.1);rintro e w86 ⟨rfl,hb⟩;have n0_:= mk (Kd.R_below (up HO_7.out) hb);have n1_:= mk (Kd.R_below (up HO_9.out) hb);have n2_:= mk (Kd.R_below (up HO_330000.out) hb);have n3_:= mk (Kd.R_below (up HO_330001.out) hb);have n4_:= mk (Kd.R_below (up HO_330002.out) hb);have n5_:= mk (Kd.R_below (up HO_341000.out) hb);have n6_:= mk (Kd.R_below (up HO_341001.out) hb);have n7_:= mk (Kd.R_below (up HO_341002.out) hb);have n8_:= mk (Kd.R_below (up HO_352000.out) hb);have n9_:= mk (Kd.R_below (up HO_352001.out) hb);have n10_:= mk (Kd.R_below (up HO_352002.out) hb);have n11_:= mk (blk_below (g:= gb329) (o:= .cells #[.slice Ao31 t320.length co31,.slice Ao33 t323.length co33,.slice Ao34 t326.length co34] 31 (0,0)) (ub BK329.out) hb);have n12_:= mk (blk_below (g:= gb340) (o:= .cells #[.slice Ao38 t330.length co38,.slice Ao41 t333.length co41,.slice Ao42 t336.length co42] 31 (0,0)) (ub BK340.out) hb);have n13_:= mk (blk_below (g:= gb351) (o:= .cells #[.slice Ao45 t341.length co45,.slice Ao49 t344.length co49,.slice Ao50 t347.length co50] 31 (0,0)) (ub BK351.out) hb);have n14_:= mk (below_step (by repeat (first|(with_reducible first|exact HB.out|apply below_alloc|apply pw_below_drewN|apply below_drew1|refine below_set ?_ GE329.out|refine below_set ?_ GE340.out|refine below_set ?_ GE351.out)|exact HB.out)) hb);clear HO_7;clear HO_9;clear HO_330000;clear HO_330001;clear HO_330002;clear HO_341000;clear HO_341001;clear HO_341002;clear HO_352000;clear HO_352001;clear HO_352002;clear BK329;clear BK340;clear BK351;clear HB;have HO_7:= n0_;have HO_9:= n1_;have HO_330000:= n2_;have HO_330001:= n3_;have HO_330002:= n4_;have HO_341000:= n5_;have HO_341001:= n6_;have HO_341002:= n7_;have HO_352000:= n8_;have HO_352001:= n9_;have HO_352002:= n10_;have BK329:= n11_;have BK340:= n12_;have BK351:= n13_;have HB:= n14_;clear n0_ n1_ n2_ n3_ n4_ n5_ n6_ n7_ n8_ n9_ n10_ n11_ n12_ n13_ n14_;(try clear hb);(try clear hb2);(try clear hk);(try clear hi))))
                       go_ret
                       exact ⟨by first|rfl|(simp [errW_none,errW_some] <;> rfl)|(simp [*,errW_none,errW_some] <;> rfl),by repeat (first|(with_reducible first|exact HB.out|apply below_alloc|apply pw_below_drewN|apply below_drew1|refine below_set ?_ GE329.out|refine below_set ?_ GE340.out|refine below_set ?_ GE351.out)|exact HB.out)⟩
                      ·rw [if_neg c80] at H
                       have c80b0 : decide (t307 ≤ t313) = false:= decide_eq_false c80
                       clear c80
                       exact absurd ((Option.some.inj H).trans HRT.out) (by decide)
                     ·rw [if_neg c79] at H
                      have c79b0 : decide ((wrap64 (2 * (t312.length : Int))) ≤ (wrap64 (t308 - t307))) = false:= decide_eq_false c79
                      clear c79
                      exact absurd ((Option.some.inj H).trans HRT.out) (by decide)
                    ·replace c78:= Bool.eq_false_iff.mpr c78
                     subst c78
                     have H1 : (some false) = some r:= by rw [if_neg (show ¬ (false = true) by decide)] at H;exact H
                     clear H
                     have H:= H1
                     clear H1
                     exact absurd ((Option.some.inj H).trans HRT.out) (by decide)
                   ·replace c76:= Bool.eq_false_iff.mpr c76
                    subst c76
                    have H1 : (some false) = some r:= by rw [if_neg (show ¬ (false = true) by decide)] at H;exact H
                    clear H
                    have H:= H1
                    clear H1
                    exact absurd ((Option.some.inj H).trans HRT.out) (by decide)
                  ·replace c75:= Bool.eq_false_iff.mpr c75
                   subst c75
                   have H1 : (some false) = some r:= by rw [if_neg (show ¬ (false = true) by decide)] at H;exact H
                   clear H
                   have H:= H1
                   clear H1
                   exact absurd ((Option.some.inj H).trans HRT.out) (by decide)
         ·rw [if_neg c28] at H
          have c28b0 : ((t330.length : Int) == (t306.length : Int)) = false:= beq_eq_false_iff_ne.mpr c28
          have c28b1 : ((t330.length : Int) != (t306.length : Int)) = true:= bne_iff_ne.mpr c28
          have c28b2 : (t330.length == t306.length) = false:= by first|simpa using c28|(simp at c28 ⊢;omega)
          exact absurd ((Option.some.inj H).trans HRT.out) (by decide)
        ·rw [if_neg c27] at H
         have c27b0 : ((t320.length : Int) == (t306.length : Int)) = false:= beq_eq_false_iff_ne.mpr c27
         have c27b1 : ((t320.length : Int) != (t306.length : Int)) = true:= bne_iff_ne.mpr c27
         have c27b2 : (t320.length == t306.length) = false:= by first|simpa using c27|(simp at c27 ⊢;omega)
         obtain rfl:= Option.some.inj H
         go_wp2_with (first|(go_at_call 23;(with_reducible refine (spec_NewCracker.calls kj17 _ _ t306 t320 t323 t326 _ ?side1 ?side2 A24.out).mono ?_);(case side1 => exact uc (Kd.R_reads' HO_3.out).2.2);(case side2 => exact (Kd.R_reads' HO_3.out).2.1);rintro e w87 ⟨v321,v324,v327,rfl,ho0,ho1,ho2,hb⟩;have n0_:= mk (Kd.R_mono (Kd.R_told (Kd.R_told (Kd.R_old (up HO_3.out) hb) (Kd.R_base ho0)) (Kd.R_base ho1)) (fun _ h_ => h_.1));have n1_:= mk (Kd.R_below (up HO_7.out) hb);have n2_:= mk (Kd.R_below (up HO_9.out) hb);have n3_:= mk (Kd.R_lower (Kd.R_new' ho0 (Kd.R_lt (up HO_3.out))) (below_size (by repeat (first|(with_reducible first|exact HB.out|apply below_alloc|apply pw_below_drewN|apply below_drew1)|exact HB.out))));have n4_:= mk (Kd.R_lower (Kd.R_new' ho1 (Kd.R_lt (up HO_3.out))) (below_size (by repeat (first|(with_reducible first|exact HB.out|apply below_alloc|apply pw_below_drewN|apply below_drew1)|exact HB.out))));have n5_:= mk (Kd.R_lower ho2 (below_size (by repeat (first|(with_reducible first|exact HB.out|apply below_alloc|apply pw_below_drewN|apply below_drew1)|exact HB.out))));have n6_:= mk (below_step (by repeat (first|(with_reducible first|exact HB.out|apply below_alloc|apply pw_below_drewN|apply below_drew1)|exact HB.out)) hb);clear HO_3;clear HO_7;clear HO_9;clear HB;have HO_3:= n0_;have HO_7:= n1_;have HO_9:= n2_;have HO322:= n3_;have HO325:= n4_;have HO328:= n5_;have HB:= n6_;clear n0_ n1_ n2_ n3_ n4_ n5_ n6_;(try clear hb);(try clear hb2);(try clear hk);(try clear hi);(try clear ho0);(try clear ho1);(try clear ho2))|((with_reducible refine gate_dst (N:= 11) rfl ?_);(try (refine gate_guard (by rfl) ?_;dsimp only));refine box_event ?hg (N:= 11) ?hd (cs:= #[.slice none 0 0,.slice none 0 0,.slice none 0 0]) (t:= 31) ?hr ?_;(case hd => rfl);(case hg => rfl);(case hr => first|(go_simp;done)|(go_simp;rfl));intro gb329 hg w88 hbox hb;have n0_:= mk (Kd.R_below (up HO_3.out) hb);have n1_:= mk (Kd.R_below (up HO_7.out) hb);have n2_:= mk (Kd.R_below (up HO_9.out) hb);have n3_:= mk (Kd.R_below (up HO322.out) hb);have n4_:= mk (Kd.R_below (up HO325.out) hb);have n5_:= mk (Kd.R_below (up HO328.out) hb);have n6_:= mk (below_step (by repeat (first|(with_reducible first|exact HB.out|apply below_alloc|apply pw_below_drewN|apply below_drew1)|exact HB.out)) hb);have n7_:= mk (hbox);have n8_:= mk ((by rw [hg];exact (below_size (by repeat (first|(with_reducible first|exact HB.out|apply below_alloc|apply pw_below_drewN|apply below_drew1)|exact HB.out))) : w.heap.size ≤ gb329));have n9_:= mk ((by rw [hg];exact (below_size (by repeat (first|(with_reducible first|exact HB.out|apply below_alloc|apply pw_below_drewN|apply below_drew1)|exact HB.out))) : w.heap.size ≤ gb329));clear HO_3;clear HO_7;clear HO_9;clear HO322;clear HO325;clear HO328;clear HB;have HO_3:= n0_;have HO_7:= n1_;have HO_9:= n2_;have HO322:= n3_;have HO325:= n4_;have HO328:= n5_;have HB:= n6_;have BK329:= n7_;have GW329:= n8_;have GE329:= n9_;clear n0_ n1_ n2_ n3_ n4_ n5_ n6_ n7_ n8_ n9_;clear hb hbox hg;obtain ⟨Ao89,co89,eo89⟩:= Kd.R_slice HO322.out;subst eo89;have hcz90_0 : w88.cell? ⟨gb329,0,none⟩ = some (.slice none 0 0):= (blk_cell BK329.out 0).trans rfl;have hcz90_1 : w88.cell? ⟨gb329,1,none⟩ = some (.slice none 0 0):= (blk_cell BK329.out 1).trans rfl;have hcz90_2 : w88.cell? ⟨gb329,2,none⟩ = some (.slice none 0 0):= (blk_cell BK329.out 2).trans rfl;have hfz90_0:= blk_frozen BK329.out 0;have hfz90_1:= blk_frozen BK329.out 1;have hfz90_2:= blk_frozen BK329.out 2;obtain ⟨Ao91,co91,eo91⟩:= Kd.R_slice HO325.out;subst eo91;obtain ⟨Ao92,co92,eo92⟩:= Kd.R_slice HO328.out;subst eo92;obtain ⟨Ao93,co93,eo93⟩:= Kd.R_slice HO_7.out;subst eo93)|(go_at_call 11;(with_reducible refine (impl_ApplySwaps.calls kj17 _ _ t320 _ _ t323 _ _ t326 _ _ t312 t330 t333 t336 t339 _ ?side1 ?side2 ?side3 ?side4 ?side5 ?side6 ?side7 ?side8 A25.out).mono ?_);(case side1 => refine (Kd.R_reads' (e:= 3) (base:= w.heap.size) (ok:= fun k_ => (some k_ ≠ (.slice Ao91 t323.length co91 : Value).ownBlock ∧ some k_ ≠ (.slice Ao9 t306.length co9 : Value).ownBlock)) (n:= t320.length) (c:= co89) ?_).2.2;exact (by exact up ((Kd.R_mono (Kd.R_far (p:= ⟨gb329,2,none⟩) (Kd.R_far (p:= ⟨gb329,1,none⟩) (Kd.R_far (p:= ⟨gb329,0,none⟩) (Kd.R_types HO322.out BK329.out (by decide)) (fun _ hk => hk.2) (.slice Ao89 t320.length co89)) (fun _ hk => hk.2) (.slice Ao91 t323.length co91)) (fun _ hk => hk.2) (.slice Ao92 t326.length co92)) (fun _ h_ => h_.1)))));(case side2 => exact (Kd.R_reads' HO322.out).2.1);(case side3 => refine (Kd.R_reads' (e:= 3) (base:= w.heap.size) (ok:= fun k_ => (some k_ ≠ (.slice Ao89 t320.length co89 : Value).ownBlock ∧ some k_ ≠ (.slice Ao9 t306.length co9 : Value).ownBlock)) (n:= t323.length) (c:= co91) ?_).2.2;exact (by exact up ((Kd.R_mono (Kd.R_far (p:= ⟨gb329,2,none⟩) (Kd.R_far (p:= ⟨gb329,1,none⟩) (Kd.R_far (p:= ⟨gb329,0,none⟩) (Kd.R_types HO325.out BK329.out (by decide)) (fun _ hk => hk.2) (.slice Ao89 t320.length co89)) (fun _ hk => hk.2) (.slice Ao91 t323.length co91)) (fun _ hk => hk.2) (.slice Ao92 t326.length co92)) (fun _ h_ => h_.1)))));(case side4 => exact (Kd.R_reads' HO325.out).2.1);(case side5 => refine (Kd.R_reads' (e:= 74) (base:= w.heap.size) (ok:= fun k_ => True) (n:= t326.length) (c:= co92) ?_).2.2;exact (by exact up ((Kd.R_mono (Kd.R_far (p:= ⟨gb329,2,none⟩) (Kd.R_far (p:= ⟨gb329,1,none⟩) (Kd.R_far (p:= ⟨gb329,0,none⟩) (Kd.R_types HO328.out BK329.out (by decide)) (fun _ hk => hk.2) (.slice Ao89 t320.length co89)) (fun _ hk => hk.2) (.slice Ao91 t323.length co91)) (fun _ hk => hk.2) (.slice Ao92 t326.length co92)) (fun _ h_ => h_.1)))));(case side6 => exact (Kd.R_reads' HO328.out).2.1);(case side7 => refine (Kd.R_reads' (e:= 50) (base:= w.heap.size) (ok:= fun k_ => some k_ ≠ (v318 : Value).ownBlock) (n:= t312.length) (c:= co93) ?_).2.2;exact (by exact up ((Kd.R_mono (Kd.R_far (p:= ⟨gb329,2,none⟩) (Kd.R_far (p:= ⟨gb329,1,none⟩) (Kd.R_far (p:= ⟨gb329,0,none⟩) (Kd.R_types HO_7.out BK329.out (by decide)) (fun _ hk => hk.2) (.slice Ao89 t320.length co89)) (fun _ hk => hk.2) (.slice Ao91 t323.length co91)) (fun _ hk => hk.2) (.slice Ao92 t326.length co92)) (fun _ h_ => h_.1)))));(case side8 => exact (Kd.R_reads' HO_7.out).2.1);rintro e w94 ⟨v331,v334,v337,rfl,ho0,ho1,ho2,hb⟩;have n0_:= mk (Kd.R_mono (Kd.R_told (Kd.R_told (Kd.R_old (by exact up ((Kd.R_mono (Kd.R_far (p:= ⟨gb329,2,none⟩) (Kd.R_far (p:= ⟨gb329,1,none⟩) (Kd.R_far (p:= ⟨gb329,0,none⟩) (Kd.R_types HO_3.out BK329.out (by decide)) (fun _ hk => hk.2) (.slice Ao89 t320.length co89)) (fun _ hk => hk.2) (.slice Ao91 t323.length co91)) (fun _ hk => hk.2) (.slice Ao92 t326.length co92)) (fun _ h_ => h_.1)))) hb) (Kd.R_base ho0)) (Kd.R_base ho1)) (fun _ h_ => h_.1));have n1_:= mk (Kd.R_below (by exact up ((Kd.R_mono (Kd.R_far (p:= ⟨gb329,2,none⟩) (Kd.R_far (p:= ⟨gb329,1,none⟩) (Kd.R_far (p:= ⟨gb329,0,none⟩) (Kd.R_types HO_7.out BK329.out (by decide)) (fun _ hk => hk.2) (.slice Ao89 t320.length co89)) (fun _ hk => hk.2) (.slice Ao91 t323.length co91)) (fun _ hk => hk.2) (.slice Ao92 t326.length co92)) (fun _ h_ => h_.1)))) hb);have n2_:= mk (Kd.R_below (by exact up ((Kd.R_mono (Kd.R_far (p:= ⟨gb329,2,none⟩) (Kd.R_far (p:= ⟨gb329,1,none⟩) (Kd.R_far (p:= ⟨gb329,0,none⟩) (Kd.R_types HO_9.out BK329.out (by decide)) (fun _ hk => hk.2) (.slice Ao89 t320.length co89)) (fun _ hk => hk.2) (.slice Ao91 t323.length co91)) (fun _ hk => hk.2) (.slice Ao92 t326.length co92)) (fun _ h_ => h_.1)))) hb);have n3_:= mk (Kd.R_mono (Kd.R_told (Kd.R_told (Kd.R_old (by exact up ((Kd.R_mono (Kd.R_far (p:= ⟨gb329,2,none⟩) (Kd.R_far (p:= ⟨gb329,1,none⟩) (Kd.R_far (p:= ⟨gb329,0,none⟩) (Kd.R_types HO322.out BK329.out (by decide)) (fun _ hk => hk.2) (.slice Ao89 t320.length co89)) (fun _ hk => hk.2) (.slice Ao91 t323.length co91)) (fun _ hk => hk.2) (.slice Ao92 t326.length co92)) (fun _ h_ => h_.1)))) hb) (Kd.R_base ho0)) (Kd.R_base ho1)) (fun _ h_ => h_.1));have n4_:= mk (Kd.R_mono (Kd.R_told (Kd.R_told (Kd.R_old (by exact up ((Kd.R_mono (Kd.R_far (p:= ⟨gb329,2,none⟩) (Kd.R_far (p:= ⟨gb329,1,none⟩) (Kd.R_far (p:= ⟨gb329,0,none⟩) (Kd.R_types HO325.out BK329.out (by decide)) (fun _ hk => hk.2) (.slice Ao89 t320.length co89)) (fun _ hk => hk.2) (.slice Ao91 t323.length co91)) (fun _ hk => hk.2) (.slice Ao92 t326.length co92)) (fun _ h_ => h_.1)))) hb) (Kd.R_base ho0)) (Kd.R_base ho1)) (fun _ h_ => h_.1));have n5_:= mk (Kd.R_elder' (by exact up ((Kd.R_mono (Kd.R_far (p:= ⟨gb329,2,none⟩) (Kd.R_far (p:= ⟨gb329,1,none⟩) (Kd.R_far (p:= ⟨gb329,0,none⟩) (Kd.R_types HO328.out BK329.out (by decide)) (fun _ hk => hk.2) (.slice Ao89 t320.length co89)) (fun _ hk => hk.2) (.slice Ao91 t323.length co91)) (fun _ hk => hk.2) (.slice Ao92 t326.length co92)) (fun _ h_ => h_.1)))) (Kd.R_base ho2) hb);have n6_:= mk (Kd.R_lower (Kd.R_new' (Kd.R_new' (Kd.R_new' ho0 (Kd.R_lt (by exact up ((Kd.R_mono (Kd.R_far (p:= ⟨gb329,2,none⟩) (Kd.R_far (p:= ⟨gb329,1,none⟩) (Kd.R_far (p:= ⟨gb329,0,none⟩) (Kd.R_types HO_3.out BK329.out (by decide)) (fun _ hk => hk.2) (.slice Ao89 t320.length co89)) (fun _ hk => hk.2) (.slice Ao91 t323.length co91)) (fun _ hk => hk.2) (.slice Ao92 t326.length co92)) (fun _ h_ => h_.1)))))) (Kd.R_lt (by exact up ((Kd.R_mono (Kd.R_far (p:= ⟨gb329,2,none⟩) (Kd.R_far (p:= ⟨gb329,1,none⟩) (Kd.R_far (p:= ⟨gb329,0,none⟩) (Kd.R_types HO322.out BK329.out (by decide)) (fun _ hk => hk.2) (.slice Ao89 t320.length co89)) (fun _ hk => hk.2) (.slice Ao91 t323.length co91)) (fun _ hk => hk.2) (.slice Ao92 t326.length co92)) (fun _ h_ => h_.1)))))) (Kd.R_lt (by exact up ((Kd.R_mono (Kd.R_far (p:= ⟨gb329,2,none⟩) (Kd.R_far (p:= ⟨gb329,1,none⟩) (Kd.R_far (p:= ⟨gb329,0,none⟩) (Kd.R_types HO325.out BK329.out (by decide)) (fun _ hk => hk.2) (.slice Ao89 t320.length co89)) (fun _ hk => hk.2) (.slice Ao91 t323.length co91)) (fun _ hk => hk.2) (.slice Ao92 t326.length co92)) (fun _ h_ => h_.1)))))) (below_size (by repeat (first|(with_reducible first|exact HB.out|apply below_alloc|apply pw_below_drewN|apply below_drew1|refine below_set ?_ GE329.out)|exact HB.out))));have n7_:= mk (Kd.R_lower (Kd.R_new' (Kd.R_new' (Kd.R_new' ho1 (Kd.R_lt (by exact up ((Kd.R_mono (Kd.R_far (p:= ⟨gb329,2,none⟩) (Kd.R_far (p:= ⟨gb329,1,none⟩) (Kd.R_far (p:= ⟨gb329,0,none⟩) (Kd.R_types HO_3.out BK329.out (by decide)) (fun _ hk => hk.2) (.slice Ao89 t320.length co89)) (fun _ hk => hk.2) (.slice Ao91 t323.length co91)) (fun _ hk => hk.2) (.slice Ao92 t326.length co92)) (fun _ h_ => h_.1)))))) (Kd.R_lt (by exact up ((Kd.R_mono (Kd.R_far (p:= ⟨gb329,2,none⟩) (Kd.R_far (p:= ⟨gb329,1,none⟩) (Kd.R_far (p:= ⟨gb329,0,none⟩) (Kd.R_types HO322.out BK329.out (by decide)) (fun _ hk => hk.2) (.slice Ao89 t320.length co89)) (fun _ hk => hk.2) (.slice Ao91 t323.length co91)) (fun _ hk => hk.2) (.slice Ao92 t326.length co92)) (fun _ h_ => h_.1)))))) (Kd.R_lt (by exact up ((Kd.R_mono (Kd.R_far (p:= ⟨gb329,2,none⟩) (Kd.R_far (p:= ⟨gb329,1,none⟩) (Kd.R_far (p:= ⟨gb329,0,none⟩) (Kd.R_types HO325.out BK329.out (by decide)) (fun _ hk => hk.2) (.slice Ao89 t320.length co89)) (fun _ hk => hk.2) (.slice Ao91 t323.length co91)) (fun _ hk => hk.2) (.slice Ao92 t326.length co92)) (fun _ h_ => h_.1)))))) (below_size (by repeat (first|(with_reducible first|exact HB.out|apply below_alloc|apply pw_below_drewN|apply below_drew1|refine below_set ?_ GE329.out)|exact HB.out))));have n8_:= mk (Kd.R_lower (Kd.R_new' ho2 (Kd.R_lt (by exact up ((Kd.R_mono (Kd.R_far (p:= ⟨gb329,2,none⟩) (Kd.R_far (p:= ⟨gb329,1,none⟩) (Kd.R_far (p:= ⟨gb329,0,none⟩) (Kd.R_types HO328.out BK329.out (by decide)) (fun _ hk => hk.2) (.slice Ao89 t320.length co89)) (fun _ hk => hk.2) (.slice Ao91 t323.length co91)) (fun _ hk => hk.2) (.slice Ao92 t326.length co92)) (fun _ h_ => h_.1)))))) (below_size (by repeat (first|(with_reducible first|exact HB.out|apply below_alloc|apply pw_below_drewN|apply below_drew1|refine below_set ?_ GE329.out)|exact HB.out))));have n9_:= mk (blk_below (g:= gb329) (o:= .cells #[.slice Ao89 t320.length co89,.slice Ao91 t323.length co91,.slice Ao92 t326.length co92] 31 (0,0)) (by (with_reducible repeat (first|refine blk_drewN ?_ _|refine blk_drew ?_|refine blk_alloc ?_ _));refine blk_put (cs:= #[.slice Ao89 t320.length co89,.slice Ao91 t323.length co91,.slice none 0 0]) ?_ 2 _ rfl;(with_reducible repeat (first|refine blk_drewN ?_ _|refine blk_drew ?_|refine blk_alloc ?_ _));refine blk_put (cs:= #[.slice Ao89 t320.length co89,.slice none 0 0,.slice none 0 0]) ?_ 1 _ rfl;(with_reducible repeat (first|refine blk_drewN ?_ _|refine blk_drew ?_|refine blk_alloc ?_ _));refine blk_put (cs:= #[.slice none 0 0,.slice none 0 0,.slice none 0 0]) ?_ 0 _ rfl;(with_reducible repeat (first|refine blk_drewN ?_ _|refine blk_drew ?_|refine blk_alloc ?_ _));exact BK329.out) hb);have n10_:= mk (below_step (by repeat (first|(with_reducible first|exact HB.out|apply below_alloc|apply pw_below_drewN|apply below_drew1|refine below_set ?_ GE329.out)|exact HB.out)) hb);clear HO_3;clear HO_7;clear HO_9;clear HO322;clear HO325;clear HO328;clear BK329;clear HB;have HO_3:= n0_;have HO_7:= n1_;have HO_9:= n2_;have HO322:= n3_;have HO325:= n4_;have HO328:= n5_;have HO332:= n6_;have HO335:= n7_;have HO338:= n8_;have BK329:= n9_;have HB:= n10_;clear n0_ n1_ n2_ n3_ n4_ n5_ n6_ n7_ n8_ n9_ n10_;(try clear hb);(try clear hb2);(try clear hk);(try clear hi);(try clear ho0);(try clear ho1);(try clear ho2))|((with_reducible refine gate_dst (N:= 12) rfl ?_);(try (refine gate_guard (by rfl) ?_;dsimp only));refine box_event ?hg (N:= 12) ?hd (cs:= #[.slice none 0 0,.slice none 0 0,.slice none 0 0]) (t:= 31) ?hr ?_;(case hd => rfl);(case hg => rfl);(case hr => first|(go_simp;done)|(go_simp;rfl));intro gb340 hg w95 hbox hb;have n0_:= mk (Kd.R_below (up HO_3.out) hb);have n1_:= mk (Kd.R_below (up HO_7.out) hb);have n2_:= mk (Kd.R_below (up HO_9.out) hb);have n3_:= mk (Kd.R_below (up HO322.out) hb);have n4_:= mk (Kd.R_below (up HO325.out) hb);have n5_:= mk (Kd.R_below (up HO328.out) hb);have n6_:= mk (Kd.R_below (up HO332.out) hb);have n7_:= mk (Kd.R_below (up HO335.out) hb);have n8_:= mk (Kd.R_below (up HO338.out) hb);have n9_:= mk (blk_below (g:= gb329) (o:= .cells #[.slice Ao89 t320.length co89,.slice Ao91 t323.length co91,.slice Ao92 t326.length co92] 31 (0,0)) (ub BK329.out) hb);have n10_:= mk (below_step (by repeat (first|(with_reducible first|exact HB.out|apply below_alloc|apply pw_below_drewN|apply below_drew1|refine below_set ?_ GE329.out)|exact HB.out)) hb);have n11_:= mk (hbox);have n12_:= mk ((by rw [hg];exact (below_size (by repeat (first|(with_reducible first|exact HB.out|apply below_alloc|apply pw_below_drewN|apply below_drew1|refine below_set ?_ GE329.out)|exact HB.out))) : w.heap.size ≤ gb340));have n13_:= mk ((by rw [hg];exact (below_size (by repeat (first|(with_reducible first|exact HB.out|apply below_alloc|apply pw_below_drewN|apply below_drew1|refine below_set ?_ GE329.out)|exact HB.out))) : w.heap.size ≤ gb340));have n14_:= mk ((by rw [hg];exact Nat.ne_of_lt (blk_lt (g:= gb329) (o:= .cells #[.slice Ao89 t320.length co89,.slice Ao91 t323.length co91,.slice Ao92 t326.length co92] 31 (0,0)) (ub BK329.out)) : gb329 ≠ gb340));have n15_:= mk ((by rw [hg];exact Nat.ne_of_gt (blk_lt (g:= gb329) (o:= .cells #[.slice Ao89 t320.length co89,.slice Ao91 t323.length co91,.slice Ao92 t326.length co92] 31 (0,0)) (ub BK329.out)) : gb340 ≠ gb329));clear HO_3;clear HO_7;clear HO_9;clear HO322;clear HO325;clear HO328;clear HO332;clear HO335;clear HO338;clear BK329;clear HB;have HO_3:= n0_;have HO_7:= n1_;have HO_9:= n2_;have HO322:= n3_;have HO325:= n4_;have HO328:= n5_;have HO332:= n6_;have HO335:= n7_;have HO338:= n8_;have BK329:= n9_;have HB:= n10_;have BK340:= n11_;have GW340:= n12_;have GE340:= n13_;have NB329_340:= n14_;have NB340_329:= n15_;clear n0_ n1_ n2_ n3_ n4_ n5_ n6_ n7_ n8_ n9_ n10_ n11_ n12_ n13_ n14_ n15_;clear hb hbox hg;obtain ⟨Ao96,co96,eo96⟩:= Kd.R_slice HO332.out;subst eo96;have hnb97:= NB340_329.out;have hnc97:= NB329_340.out;have hcz98_0 : w95.cell? ⟨gb340,0,none⟩ = some (.slice none 0 0):= (blk_cell BK340.out 0).trans rfl;have hcz98_1 : w95.cell? ⟨gb340,1,none⟩ = some (.slice none 0 0):= (blk_cell BK340.out 1).trans rfl;have hcz98_2 : w95.cell? ⟨gb340,2,none⟩ = some (.slice none 0 0):= (blk_cell BK340.out 2).trans rfl;have hfz98_0:= blk_frozen BK340.out 0;have hfz98_1:= blk_frozen BK340.out 1;have hfz98_2:= blk_frozen BK340.out 2;obtain ⟨Ao99,co99,eo99⟩:= Kd.R_slice HO335.out;subst eo99;obtain ⟨Ao100,co100,eo100⟩:= Kd.R_slice HO338.out;subst eo100)|(go_at_call 18;(with_reducible refine (impl_UndoSwaps.calls kj17 _ _ t330 _ _ t333 _ _ t336 _ _ t312 t341 t344 t347 t350 _ ?side1 ?side2 ?side3 ?side4 ?side5 ?side6 ?side7 ?side8 A26.out).mono ?_);(case side1 => refine (Kd.R_reads' (e:= 3) (base:= w.heap.size) (ok:= fun k_ => (((some k_ ≠ (.slice Ao99 t333.length co99 : Value).ownBlock ∧ some k_ ≠ (.slice Ao9 t306.length co9 : Value).ownBlock) ∧ some k_ ≠ (.slice Ao89 t320.length co89 : Value).ownBlock) ∧ some k_ ≠ (.slice Ao91 t323.length co91 : Value).ownBlock)) (n:= t330.length) (c:= co96) ?_).2.2;exact (by exact up ((Kd.R_mono (Kd.R_far (p:= ⟨gb340,2,none⟩) (Kd.R_far (p:= ⟨gb340,1,none⟩) (Kd.R_far (p:= ⟨gb340,0,none⟩) (Kd.R_types HO332.out BK340.out (by decide)) (fun _ hk => hk.2) (.slice Ao96 t330.length co96)) (fun _ hk => hk.2) (.slice Ao99 t333.length co99)) (fun _ hk => hk.2) (.slice Ao100 t336.length co100)) (fun _ h_ => h_.1)))));(case side2 => exact (Kd.R_reads' HO332.out).2.1);(case side3 => refine (Kd.R_reads' (e:= 3) (base:= w.heap.size) (ok:= fun k_ => (((some k_ ≠ (.slice Ao96 t330.length co96 : Value).ownBlock ∧ some k_ ≠ (.slice Ao9 t306.length co9 : Value).ownBlock) ∧ some k_ ≠ (.slice Ao89 t320.length co89 : Value).ownBlock) ∧ some k_ ≠ (.slice Ao91 t323.length co91 : Value).ownBlock)) (n:= t333.length) (c:= co99) ?_).2.2;exact (by exact up ((Kd.R_mono (Kd.R_far (p:= ⟨gb340,2,none⟩) (Kd.R_far (p:= ⟨gb340,1,none⟩) (Kd.R_far (p:= ⟨gb340,0,none⟩) (Kd.R_types HO335.out BK340.out (by decide)) (fun _ hk => hk.2) (.slice Ao96 t330.length co96)) (fun _ hk => hk.2) (.slice Ao99 t333.length co99)) (fun _ hk => hk.2) (.slice Ao100 t336.length co100)) (fun _ h_ => h_.1)))));(case side4 => exact (Kd.R_reads' HO335.out).2.1);(case side5 => refine (Kd.R_reads' (e:= 74) (base:= w.heap.size) (ok:= fun k_ => (True ∧ some k_ ≠ (.slice Ao92 t326.length co92 : Value).ownBlock)) (n:= t336.length) (c:= co100) ?_).2.2;exact (by exact up ((Kd.R_mono (Kd.R_far (p:= ⟨gb340,2,none⟩) (Kd.R_far (p:= ⟨gb340,1,none⟩) (Kd.R_far (p:= ⟨gb340,0,none⟩) (Kd.R_types HO338.out BK340.out (by decide)) (fun _ hk => hk.2) (.slice Ao96 t330.length co96)) (fun _ hk => hk.2) (.slice Ao99 t333.length co99)) (fun _ hk => hk.2) (.slice Ao100 t336.length co100)) (fun _ h_ => h_.1)))));(case side6 => exact (Kd.R_reads' HO338.out).2.1);(case side7 => refine (Kd.R_reads' (e:= 50) (base:= w.heap.size) (ok:= fun k_ => some k_ ≠ (v318 : Value).ownBlock) (n:= t312.length) (c:= co93) ?_).2.2;exact (by exact up ((Kd.R_mono (Kd.R_far (p:= ⟨gb340,2,none⟩) (Kd.R_far (p:= ⟨gb340,1,none⟩) (Kd.R_far (p:= ⟨gb340,0,none⟩) (Kd.R_types HO_7.out BK340.out (by decide)) (fun _ hk => hk.2) (.slice Ao96 t330.length co96)) (fun _ hk => hk.2) (.slice Ao99 t333.length co99)) (fun _ hk => hk.2) (.slice Ao100 t336.length co100)) (fun _ h_ => h_.1)))));(case side8 => exact (Kd.R_reads' HO_7.out).2.1);rintro e w101 ⟨v342,v345,v348,rfl,ho0,ho1,ho2,hb⟩;have n0_:= mk (Kd.R_mono (Kd.R_told (Kd.R_told (Kd.R_old (by exact up ((Kd.R_mono (Kd.R_far (p:= ⟨gb340,2,none⟩) (Kd.R_far (p:= ⟨gb340,1,none⟩) (Kd.R_far (p:= ⟨gb340,0,none⟩) (Kd.R_types HO_3.out BK340.out (by decide)) (fun _ hk => hk.2) (.slice Ao96 t330.length co96)) (fun _ hk => hk.2) (.slice Ao99 t333.length co99)) (fun _ hk => hk.2) (.slice Ao100 t336.length co100)) (fun _ h_ => h_.1)))) hb) (Kd.R_base ho0)) (Kd.R_base ho1)) (fun _ h_ => h_.1));have n1_:= mk (Kd.R_below (by exact up ((Kd.R_mono (Kd.R_far (p:= ⟨gb340,2,none⟩) (Kd.R_far (p:= ⟨gb340,1,none⟩) (Kd.R_far (p:= ⟨gb340,0,none⟩) (Kd.R_types HO_7.out BK340.out (by decide)) (fun _ hk => hk.2) (.slice Ao96 t330.length co96)) (fun _ hk => hk.2) (.slice Ao99 t333.length co99)) (fun _ hk => hk.2) (.slice Ao100 t336.length co100)) (fun _ h_ => h_.1)))) hb);have n2_:= mk (Kd.R_below (by exact up ((Kd.R_mono (Kd.R_far (p:= ⟨gb340,2,none⟩) (Kd.R_far (p:= ⟨gb340,1,none⟩) (Kd.R_far (p:= ⟨gb340,0,none⟩) (Kd.R_types HO_9.out BK340.out (by decide)) (fun _ hk => hk.2) (.slice Ao96 t330.length co96)) (fun _ hk => hk.2) (.slice Ao99 t333.length co99)) (fun _ hk => hk.2) (.slice Ao100 t336.length co100)) (fun _ h_ => h_.1)))) hb);have n3_:= mk (Kd.R_mono (Kd.R_told (Kd.R_told (Kd.R_old (by exact up ((Kd.R_mono (Kd.R_far (p:= ⟨gb340,2,none⟩) (Kd.R_far (p:= ⟨gb340,1,none⟩) (Kd.R_far (p:= ⟨gb340,0,none⟩) (Kd.R_types HO322.out BK340.out (by decide)) (fun _ hk => hk.2) (.slice Ao96 t330.length co96)) (fun _ hk => hk.2) (.slice Ao99 t333.length co99)) (fun _ hk => hk.2) (.slice Ao100 t336.length co100)) (fun _ h_ => h_.1)))) hb) (Kd.R_base ho0)) (Kd.R_base ho1)) (fun _ h_ => h_.1));have n4_:= mk (Kd.R_mono (Kd.R_told (Kd.R_told (Kd.R_old (by exact up ((Kd.R_mono (Kd.R_far (p:= ⟨gb340,2,none⟩) (Kd.R_far (p:= ⟨gb340,1,none⟩) (Kd.R_far (p:= ⟨gb340,0,none⟩) (Kd.R_types HO325.out BK340.out (by decide)) (fun _ hk => hk.2) (.slice Ao96 t330.length co96)) (fun _ hk => hk.2) (.slice Ao99 t333.length co99)) (fun _ hk => hk.2) (.slice Ao100 t336.length co100)) (fun _ h_ => h_.1)))) hb) (Kd.R_base ho0)) (Kd.R_base ho1)) (fun _ h_ => h_.1));have n5_:= mk (Kd.R_elder' (by exact up ((Kd.R_mono (Kd.R_far (p:= ⟨gb340,2,none⟩) (Kd.R_far (p:= ⟨gb340,1,none⟩) (Kd.R_far (p:= ⟨gb340,0,none⟩) (Kd.R_types HO328.out BK340.out (by decide)) (fun _ hk => hk.2) (.slice Ao96 t330.length co96)) (fun _ hk => hk.2) (.slice Ao99 t333.length co99)) (fun _ hk => hk.2) (.slice Ao100 t336.length co100)) (fun _ h_ => h_.1)))) (Kd.R_base ho2) hb);have n6_:= mk (Kd.R_mono (Kd.R_told (Kd.R_told (Kd.R_old (by exact up ((Kd.R_mono (Kd.R_far (p:= ⟨gb340,2,none⟩) (Kd.R_far (p:= ⟨gb340,1,none⟩) (Kd.R_far (p:= ⟨gb340,0,none⟩) (Kd.R_types HO332.out BK340.out (by decide)) (fun _ hk => hk.2) (.slice Ao96 t330.length co96)) (fun _ hk => hk.2) (.slice Ao99 t333.length co99)) (fun _ hk => hk.2) (.slice Ao100 t336.length co100)) (fun _ h_ => h_.1)))) hb) (Kd.R_base ho0)) (Kd.R_base ho1)) (fun _ h_ => h_.1));have n7_:= mk (Kd.R_mono (Kd.R_told (Kd.R_told (Kd.R_old (by exact up ((Kd.R_mono (Kd.R_far (p:= ⟨gb340,2,none⟩) (Kd.R_far (p:= ⟨gb340,1,none⟩) (Kd.R_far (p:= ⟨gb340,0,none⟩) (Kd.R_types HO335.out BK340.out (by decide)) (fun _ hk => hk.2) (.slice Ao96 t330.length co96)) (fun _ hk => hk.2) (.slice Ao99 t333.length co99)) (fun _ hk => hk.2) (.slice Ao100 t336.length co100)) (fun _ h_ => h_.1)))) hb) (Kd.R_base ho0)) (Kd.R_base ho1)) (fun _ h_ => h_.1));have n8_:= mk (Kd.R_elder' (by exact up ((Kd.R_mono (Kd.R_far (p:= ⟨gb340,2,none⟩) (Kd.R_far (p:= ⟨gb340,1,none⟩) (Kd.R_far (p:= ⟨gb340,0,none⟩) (Kd.R_types HO338.out BK340.out (by decide)) (fun _ hk => hk.2) (.slice Ao96 t330.length co96)) (fun _ hk => hk.2) (.slice Ao99 t333.length co99)) (fun _ hk => hk.2) (.slice Ao100 t336.length co100)) (fun _ h_ => h_.1)))) (Kd.R_base ho2) hb);have n9_:= mk (Kd.R_lower (Kd.R_new' (Kd.R_new' (Kd.R_new' (Kd.R_new' (Kd.R_new' ho0 (Kd.R_lt (by exact up ((Kd.R_mono (Kd.R_far (p:= ⟨gb340,2,none⟩) (Kd.R_far (p:= ⟨gb340,1,none⟩) (Kd.R_far (p:= ⟨gb340,0,none⟩) (Kd.R_types HO_3.out BK340.out (by decide)) (fun _ hk => hk.2) (.slice Ao96 t330.length co96)) (fun _ hk => hk.2) (.slice Ao99 t333.length co99)) (fun _ hk => hk.2) (.slice Ao100 t336.length co100)) (fun _ h_ => h_.1)))))) (Kd.R_lt (by exact up ((Kd.R_mono (Kd.R_far (p:= ⟨gb340,2,none⟩) (Kd.R_far (p:= ⟨gb340,1,none⟩) (Kd.R_far (p:= ⟨gb340,0,none⟩) (Kd.R_types HO322.out BK340.out (by decide)) (fun _ hk => hk.2) (.slice Ao96 t330.length co96)) (fun _ hk => hk.2) (.slice Ao99 t333.length co99)) (fun _ hk => hk.2) (.slice Ao100 t336.length co100)) (fun _ h_ => h_.1)))))) (Kd.R_lt (by exact up ((Kd.R_mono (Kd.R_far (p:= ⟨gb340,2,none⟩) (Kd.R_far (p:= ⟨gb340,1,none⟩) (Kd.R_far (p:= ⟨gb340,0,none⟩) (Kd.R_types HO325.out BK340.out (by decide)) (fun _ hk => hk.2) (.slice Ao96 t330.length co96)) (fun _ hk => hk.2) (.slice Ao99 t333.length co99)) (fun _ hk => hk.2) (.slice Ao100 t336.length co100)) (fun _ h_ => h_.1)))))) (Kd.R_lt (by exact up ((Kd.R_mono (Kd.R_far (p:= ⟨gb340,2,none⟩) (Kd.R_far (p:= ⟨gb340,1,none⟩) (Kd.R_far (p:= ⟨gb340,0,none⟩) (Kd.R_types HO332.out BK340.out (by decide)) (fun _ hk => hk.2) (.slice Ao96 t330.length co96)) (fun _ hk => hk.2) (.slice Ao99 t333.length co99)) (fun _ hk => hk.2) (.slice Ao100 t336.length co100)) (fun _ h_ => h_.1)))))) (Kd.R_lt (by exact up ((Kd.R_mono (Kd.R_far (p:= ⟨gb340,2,none⟩) (Kd.R_far (p:= ⟨gb340,1,none⟩) (Kd.R_far (p:= ⟨gb340,0,none⟩) (Kd.R_types HO335.out BK340.out (by decide)) (fun _ hk => hk.2) (.slice Ao96 t330.length co96)) (fun _ hk => hk.2) (.slice Ao99 t333.length co99)) (fun _ hk => hk.2) (.slice Ao100 t336.length co100)) (fun _ h_ => h_.1)))))) (below_size (by repeat (first|(with_reducible first|exact HB.out|apply below_alloc|apply pw_below_drewN|apply below_drew1|refine below_set ?_ GE329.out|refine below_set ?_ GE340.out)|exact HB.out))));have n10_:= mk (Kd.R_lower (Kd.R_new' (Kd.R_new' (Kd.R_new' (Kd.R_new' (Kd.R_new' ho1 (Kd.R_lt (by exact up ((Kd.R_mono (Kd.R_far (p:= ⟨gb340,2,none⟩) (Kd.R_far (p:= ⟨gb340,1,none⟩) (Kd.R_far (p:= ⟨gb340,0,none⟩) (Kd.R_types HO_3.out BK340.out (by decide)) (fun _ hk => hk.2) (.slice Ao96 t330.length co96)) (fun _ hk => hk.2) (.slice Ao99 t333.length co99)) (fun _ hk => hk.2) (.slice Ao100 t336.length co100)) (fun _ h_ => h_.1)))))) (Kd.R_lt (by exact up ((Kd.R_mono (Kd.R_far (p:= ⟨gb340,2,none⟩) (Kd.R_far (p:= ⟨gb340,1,none⟩) (Kd.R_far (p:= ⟨gb340,0,none⟩) (Kd.R_types HO322.out BK340.out (by decide)) (fun _ hk => hk.2) (.slice Ao96 t330.length co96)) (fun _ hk => hk.2) (.slice Ao99 t333.length co99)) (fun _ hk => hk.2) (.slice Ao100 t336.length co100)) (fun _ h_ => h_.1)))))) (Kd.R_lt (by exact up ((Kd.R_mono (Kd.R_far (p:= ⟨gb340,2,none⟩) (Kd.R_far (p:= ⟨gb340,1,none⟩) (Kd.R_far (p:= ⟨gb340,0,none⟩) (Kd.R_types HO325.out BK340.out (by decide)) (fun _ hk => hk.2) (.slice Ao96 t330.length co96)) (fun _ hk => hk.2) (.slice Ao99 t333.length co99)) (fun _ hk => hk.2) (.slice Ao100 t336.length co100)) (fun _ h_ => h_.1)))))) (Kd.R_lt (by exact up ((Kd.R_mono (Kd.R_far (p:= ⟨gb340,2,none⟩) (Kd.R_far (p:= ⟨gb340,1,none⟩) (Kd.R_far (p:= ⟨gb340,0,none⟩) (Kd.R_types HO332.out BK340.out (by decide)) (fun _ hk => hk.2) (.slice Ao96 t330.length co96)) (fun _ hk => hk.2) (.slice Ao99 t333.length co99)) (fun _ hk => hk.2) (.slice Ao100 t336.length co100)) (fun _ h_ => h_.1)))))) (Kd.R_lt (by exact up ((Kd.R_mono (Kd.R_far (p:= ⟨gb340,2,none⟩) (Kd.R_far (p:= ⟨gb340,1,none⟩) (Kd.R_far (p:= ⟨gb340,0,none⟩) (Kd.R_types HO335.out BK340.out (by decide)) (fun _ hk => hk.2) (.slice Ao96 t330.length co96)) (fun _ hk => hk.2) (.slice Ao99 t333.length co99)) (fun _ hk => hk.2) (.slice Ao100 t336.length co100)) (fun _ h_ => h_.1)))))) (below_size (by repeat (first|(with_reducible first|exact HB.out|apply below_alloc|apply pw_below_drewN|apply below_drew1|refine below_set ?_ GE329.out|refine below_set ?_ GE340.out)|exact HB.out))));have n11_:= mk (Kd.R_lower (Kd.R_new' (Kd.R_new' ho2 (Kd.R_lt (by exact up ((Kd.R_mono (Kd.R_far (p:= ⟨gb340,2,none⟩) (Kd.R_far (p:= ⟨gb340,1,none⟩) (Kd.R_far (p:= ⟨gb340,0,none⟩) (Kd.R_types HO328.out BK340.out (by decide)) (fun _ hk => hk.2) (.slice Ao96 t330.length co96)) (fun _ hk => hk.2) (.slice Ao99 t333.length co99)) (fun _ hk => hk.2) (.slice Ao100 t336.length co100)) (fun _ h_ => h_.1)))))) (Kd.R_lt (by exact up ((Kd.R_mono (Kd.R_far (p:= ⟨gb340,2,none⟩) (Kd.R_far (p:= ⟨gb340,1,none⟩) (Kd.R_far (p:= ⟨gb340,0,none⟩) (Kd.R_types HO338.out BK340.out (by decide)) (fun _ hk => hk.2) (.slice Ao96 t330.length co96)) (fun _ hk => hk.2) (.slice Ao99 t333.length co99)) (fun _ hk => hk.2) (.slice Ao100 t336.length co100)) (fun _ h_ => h_.1)))))) (below_size (by repeat (first|(with_reducible first|exact HB.out|apply below_alloc|apply pw_below_drewN|apply below_drew1|refine below_set ?_ GE329.out|refine below_set ?_ GE340.out)|exact HB.out))));have n12_:= mk (blk_below (g:= gb329) (o:= .cells #[.slice Ao89 t320.length co89,.slice Ao91 t323.length co91,.slice Ao92 t326.length co92] 31 (0,0)) (by (with_reducible repeat (first|refine blk_drewN ?_ _|refine blk_drew ?_|refine blk_alloc ?_ _));refine blk_far ?_ NB329_340.out _;(with_reducible repeat (first|refine blk_drewN ?_ _|refine blk_drew ?_|refine blk_alloc ?_ _));refine blk_far ?_ NB329_340.out _;(with_reducible repeat (first|refine blk_drewN ?_ _|refine blk_drew ?_|refine blk_alloc ?_ _));refine blk_far ?_ NB329_340.out _;(with_reducible repeat (first|refine blk_drewN ?_ _|refine blk_drew ?_|refine blk_alloc ?_ _));exact BK329.out) hb);have n13_:= mk (blk_below (g:= gb340) (o:= .cells #[.slice Ao96 t330.length co96,.slice Ao99 t333.length co99,.slice Ao100 t336.length co100] 31 (0,0)) (by (with_reducible repeat (first|refine blk_drewN ?_ _|refine blk_drew ?_|refine blk_alloc ?_ _));refine blk_put (cs:= #[.slice Ao96 t330.length co96,.slice Ao99 t333.length co99,.slice none 0 0]) ?_ 2 _ rfl;(with_reducible repeat (first|refine blk_drewN ?_ _|refine blk_drew ?_|refine blk_alloc ?_ _));refine blk_put (cs:= #[.slice Ao96 t330.length co96,.slice none 0 0,.slice none 0 0]) ?_ 1 _ rfl;(with_reducible repeat (first|refine blk_drewN ?_ _|refine blk_drew ?_|refine blk_alloc ?_ _));refine blk_put (cs:= #[.slice none 0 0,.slice none 0 0,.slice none 0 0]) ?_ 0 _ rfl;(with_reducible repeat (first|refine blk_drewN ?_ _|refine blk_drew ?_|refine blk_alloc ?_ _));exact BK340.out) hb);have n14_:= mk (below_step (by repeat (first|(with_reducible first|exact HB.out|apply below_alloc|apply pw_below_drewN|apply below_drew1|refine below_set ?_ GE329.out|refine below_set ?_ GE340.out)|exact HB.out)) hb);clear HO_3;clear HO_7;clear HO_9;clear HO322;clear HO325;clear HO328;clear HO332;clear HO335;clear HO338;clear BK329;clear BK340;clear HB;have HO_3:= n0_;have HO_7:= n1_;have HO_9:= n2_;have HO322:= n3_;have HO325:= n4_;have HO328:= n5_;have HO332:= n6_;have HO335:= n7_;have HO338:= n8_;have HO343:= n9_;have HO346:= n10_;have HO349:= n11_;have BK329:= n12_;have BK340:= n13_;have HB:= n14_;clear n0_ n1_ n2_ n3_ n4_ n5_ n6_ n7_ n8_ n9_ n10_ n11_ n12_ n13_ n14_;(try clear hb);(try clear hb2);(try clear hk);(try clear hi);(try clear ho0);(try clear ho1);(try clear ho2))|((with_reducible refine gate_dst (N:= 14) rfl ?_);(try (refine gate_guard (by rfl) ?_;dsimp only));refine box_event ?hg (N:= 14) ?hd (cs:= #[.slice none 0 0,.slice none 0 0,.slice none 0 0]) (t:= 31) ?hr ?_;(case hd => rfl);(case hg => rfl);(case hr => first|(go_simp;done)|(go_simp;rfl));intro gb351 hg w102 hbox hb;have n0_:= mk (Kd.R_below (up HO_3.out) hb);have n1_:= mk (Kd.R_below (up HO_7.out) hb);have n2_:= mk (Kd.R_below (up HO_9.out) hb);have n3_:= mk (Kd.R_below (up HO322.out) hb);have n4_:= mk (Kd.R_below (up HO325.out) hb);have n5_:= mk (Kd.R_below (up HO328.out) hb);have n6_:= mk (Kd.R_below (up HO332.out) hb);have n7_:= mk (Kd.R_below (up HO335.out) hb);have n8_:= mk (Kd.R_below (up HO338.out) hb);have n9_:= mk (Kd.R_below (up HO343.out) hb);have n10_:= mk (Kd.R_below (up HO346.out) hb);have n11_:= mk (Kd.R_below (up HO349.out) hb);have n12_:= mk (blk_below (g:= gb329) (o:= .cells #[.slice Ao89 t320.length co89,.slice Ao91 t323.length co91,.slice Ao92 t326.length co92] 31 (0,0)) (ub BK329.out) hb);have n13_:= mk (blk_below (g:= gb340) (o:= .cells #[.slice Ao96 t330.length co96,.slice Ao99 t333.length co99,.slice Ao100 t336.length co100] 31 (0,0)) (ub BK340.out) hb);have n14_:= mk (below_step (by repeat (first|(with_reducible first|exact HB.out|apply below_alloc|apply pw_below_drewN|apply below_drew1|refine below_set ?_ GE329.out|refine below_set ?_ GE340.out)|exact HB.out)) hb);have n15_:= mk (hbox);have n16_:= mk ((by rw [hg];exact (below_size (by repeat (first|(with_reducible first|exact HB.out|apply below_alloc|apply pw_below_drewN|apply below_drew1|refine below_set ?_ GE329.out|refine below_set ?_ GE340.out)|exact HB.out))) : w.heap.size ≤ gb351));have n17_:= mk ((by rw [hg];exact (below_size (by repeat (first|(with_reducible first|exact HB.out|apply below_alloc|apply pw_below_drewN|apply below_drew1|refine below_set ?_ GE329.out|refine below_set ?_ GE340.out)|exact HB.out))) : w.heap.size ≤ gb351));have n18_:= mk ((by rw [hg];exact Nat.ne_of_lt (blk_lt (g:= gb329) (o:= .cells #[.slice Ao89 t320.length co89,.slice Ao91 t323.length co91,.slice Ao92 t326.length co92] 31 (0,0)) (ub BK329.out)) : gb329 ≠ gb351));have n19_:= mk ((by rw [hg];exact Nat.ne_of_gt (blk_lt (g:= gb329) (o:= .cells #[.slice Ao89 t320.length co89,.slice Ao91 t323.length co91,.slice Ao92 t326.length co92] 31 (0,0)) (ub BK329.out)) : gb351 ≠ gb329));have n20_:= mk ((by rw [hg];exact Nat.ne_of_lt (blk_lt (g:= gb340) (o:= .cells #[.slice Ao96 t330.length co96,.slice Ao99 t333.length co99,.slice Ao100 t336.length co100] 31 (0,0)) (ub BK340.out)) : gb340 ≠ gb351));have n21_:= mk ((by rw [hg];exact Nat.ne_of_gt (blk_lt (g:= gb340) (o:= .cells #[.slice Ao96 t330.length co96,.slice Ao99 t333.length co99,.slice Ao100 t336.length co100] 31 (0,0)) (ub BK340.out)) : gb351 ≠ gb340));clear HO_3;clear HO_7;clear HO_9;clear HO322;clear HO325;clear HO328;clear HO332;clear HO335;clear HO338;clear HO343;clear HO346;clear HO349;clear BK329;clear BK340;clear HB;have HO_3:= n0_;have HO_7:= n1_;have HO_9:= n2_;have HO322:= n3_;have HO325:= n4_;have HO328:= n5_;have HO332:= n6_;have HO335:= n7_;have HO338:= n8_;have HO343:= n9_;have HO346:= n10_;have HO349:= n11_;have BK329:= n12_;have BK340:= n13_;have HB:= n14_;have BK351:= n15_;have GW351:= n16_;have GE351:= n17_;have NB329_351:= n18_;have NB351_329:= n19_;have NB340_351:= n20_;have NB351_340:= n21_;clear n0_ n1_ n2_ n3_ n4_ n5_ n6_ n7_ n8_ n9_ n10_ n11_ n12_ n13_ n14_ n15_ n16_ n17_ n18_ n19_ n20_ n21_;clear hb hbox hg;obtain ⟨Ao103,co103,eo103⟩:= Kd.R_slice HO343.out;subst eo103;have hnb104:= NB351_329.out;have hnc104:= NB329_351.out;have hnb105:= NB351_340.out;have hnc105:= NB340_351.out;have hcz106_0 : w102.cell? ⟨gb351,0,none⟩ = some (.slice none 0 0):= (blk_cell BK351.out 0).trans rfl;have hcz106_1 : w102.cell? ⟨gb351,1,none⟩ = some (.slice none 0 0):= (blk_cell BK351.out 1).trans rfl;have hcz106_2 : w102.cell? ⟨gb351,2,none⟩ = some (.slice none 0 0):= (blk_cell BK351.out 2).trans rfl;have hfz106_0:= blk_frozen BK351.out 0;have hfz106_1:= blk_frozen BK351.out 1;have hfz106_2:= blk_frozen BK351.out 2;obtain ⟨Ao107,co107,eo107⟩:= Kd.R_slice HO346.out;subst eo107;obtain ⟨Ao108,co108,eo108⟩:= Kd.R_slice HO349.out;subst eo108;have hcz109_0 : w102.cell? ⟨gb329,0,none⟩ = some (.slice Ao89 t320.length co89):= (blk_cell BK329.out 0).trans rfl;have hcz109_1 : w102.cell? ⟨gb329,1,none⟩ = some (.slice Ao91 t323.length co91):= (blk_cell BK329.out 1).trans rfl;have hcz109_2 : w102.cell? ⟨gb329,2,none⟩ = some (.slice Ao92 t326.length co92):= (blk_cell BK329.out 2).trans rfl;have hfz109_0:= blk_frozen BK329.out 0;have hfz109_1:= blk_frozen BK329.out 1;have hfz109_2:= blk_frozen BK329.out 2))
         go_ret
         exact ⟨by first|rfl|(simp [errW_none,errW_some] <;> rfl)|(simp [*,errW_none,errW_some] <;> rfl),by repeat (first|(with_reducible first|exact HB.out|apply below_alloc|apply pw_below_drewN|apply below_drew1|refine below_set ?_ GE329.out|refine below_set ?_ GE340.out|refine below_set ?_ GE351.out)|exact HB.out)⟩

/-- THE ONE PURE STATEMENT of laws_FnPartitions: yours. -/
def laws_FnPartitions.Pure : Prop := ∀ (l0 : List Int), l0.length ≤ maxLen → l0.length * 1 ≤ 140737488351232 → (∀ x ∈ l0, (Lit.int .u8 x).wf = true) → ∃ k, laws_FnPartitions.f k l0 = some true
theorem laws_FnPartitions.walk (P : laws_FnPartitions.Pure) (a0 : Option Addr) (len0 cap0 : Nat) (z0 : List Int) (w : World) (w0 : (a0 = none ∧ len0 = 0 ∧ cap0 = 0 ∧ z0 = []) ∨ ∃ x, a0 = some x ∧ len0 ≤ cap0 ∧ cap0 ≤ maxLen ∧ z0.length = cap0 ∧ (∀ i, i < z0.length → w.cell? (x.add i) = some (.int .u8 (z0.getD i 0))) ∧ ∀ n ∈ z0, (Lit.int .u8 n).wf = true) (y0 : len0 * 1 ≤ 140737488351232) :
  Calls Try.prog 5 #[.slice a0 len0 cap0] w fun e w' => e = .returned (.bool true) ∧ Below w.heap.size w w' := by
 obtain ⟨l0,rfl,hr0,hm0,hw0,hc0⟩:= ReadsInt.ofRowC w0
 obtain ⟨k,h⟩:= P l0 hm0 y0 hw0
 refine (laws_FnPartitions.calls k _ _ l0 true w (Kd.C_of_reads (d:= (0 : Int)) (h1:= fun _ => rfl) hr0) hc0 ⟨rfl⟩ h).mono ?_
 rintro e w' ⟨rfl,hd⟩
 exact ⟨rfl,hd⟩

end Go.Proofs.Ytlikcmonejefoaa.PFnPartitions
