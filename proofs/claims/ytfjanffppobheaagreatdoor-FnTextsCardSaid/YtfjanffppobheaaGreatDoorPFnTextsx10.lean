-- printed by a program of this session, a turned copy of the print of the kit
import Derived.Test.YtfjanffppobheaaGreatDoorSq
import Derived.Test.YtfjanffppobheaaGreatDoorPFnTextsx0
import Derived.Test.YtfjanffppobheaaGreatDoorPFnTextsx2
import Derived.Test.YtfjanffppobheaaGreatDoorPFnTextsx3
import Derived.Test.YtfjanffppobheaaGreatDoorPFnTextsx8
import Derived.Test.YtfjanffppobheaaGreatDoorPFnTextsx9
namespace Go.Proofs.YtfjanffppobheaaGreatDoor.PFnTexts
open Go.RowKit Go.Proofs.YtfjanffppobheaaGreatDoorW.PrintWords Go.Proofs.YtfjanffppobheaaGreatDoorW.PrintLast Go.Proofs.YtfjanffppobheaaGreatDoorW.PrintMore Go.Proofs.YtfjanffppobheaaGreatDoor.Sq
attribute [local go_sem] max2_int min2_int max_two min_two max_three min_three max_four min_four Giv.cell_twice   -- for this text's walks alone
set_option linter.unusedVariables false
set_option linter.unusedSimpArgs false

/-! ### spec_FormatTable: function 11 -/
mutual
def spec_FormatTable.l0 : Nat → ByteArray → Int → List (S58) → Option (ByteArray)
  | 0, _, _, _ => none
  | k + 1, x3, x4, x361000 => (spec_RowCount.f k x361000).bind fun t362 => (if x4 < t362 then (spec_FormatTable.l1 k x3 x4 0 x361000) else (some x3))
def spec_FormatTable.l1 : Nat → ByteArray → Int → Int → List (S58) → Option (ByteArray)
  | 0, _, _, _, _ => none
  | k + 1, x3, x4, x5, x361000 => if x5 < (x361000.length : Int) then (if x5 > 0 then (if x3.size + 1 ≤ 9223372036854775807 then (if x4 < 0 then (if 0 ≤ x5 then (if (x3 ++ (⟨#[32]⟩ : ByteArray)).size + ((rd_T58 x361000 x5).f0).size ≤ 9223372036854775807 then (spec_FormatTable.l1 k ((x3 ++ (⟨#[32]⟩ : ByteArray)) ++ ((rd_T58 x361000 x5).f0)) x4 (wrap64 (x5 + 1)) x361000) else (none)) else (none)) else (if 0 ≤ x5 then (if 0 ≤ x4 then (if x4 < (((rd_T58 x361000 x5).f1).length : Int) then ((spec_FormatInt.f k (rd ((rd_T58 x361000 x5).f1) x4)).bind fun t366 => (if (x3 ++ (⟨#[32]⟩ : ByteArray)).size + t366.size ≤ 9223372036854775807 then (spec_FormatTable.l1 k ((x3 ++ (⟨#[32]⟩ : ByteArray)) ++ t366) x4 (wrap64 (x5 + 1)) x361000) else (none))) else (none)) else (none)) else (none))) else (none)) else (if x4 < 0 then (if 0 ≤ x5 then (if x3.size + ((rd_T58 x361000 x5).f0).size ≤ 9223372036854775807 then (spec_FormatTable.l1 k (x3 ++ ((rd_T58 x361000 x5).f0)) x4 (wrap64 (x5 + 1)) x361000) else (none)) else (none)) else (if 0 ≤ x5 then (if 0 ≤ x4 then (if x4 < (((rd_T58 x361000 x5).f1).length : Int) then ((spec_FormatInt.f k (rd ((rd_T58 x361000 x5).f1) x4)).bind fun t370 => (if x3.size + t370.size ≤ 9223372036854775807 then (spec_FormatTable.l1 k (x3 ++ t370) x4 (wrap64 (x5 + 1)) x361000) else (none))) else (none)) else (none)) else (none)))) else (if x3.size + 1 ≤ 9223372036854775807 then (spec_FormatTable.l0 k (x3 ++ (⟨#[10]⟩ : ByteArray)) (wrap64 (x4 + 1)) x361000) else (none))
end
def spec_FormatTable.f (k : Nat) (l0_0 : List (S58)) : Option (ByteArray) := (spec_IsTable.f k l0_0).bind fun t361 => (if t361 = true then (spec_FormatTable.l0 k (⟨#[]⟩ : ByteArray) (-1) l0_0) else (some (⟨#[]⟩ : ByteArray)))
theorem spec_FormatTable.mono_l : ∀ k, (∀ y0 y1 y2, LeO (spec_FormatTable.l0 k y0 y1 y2) (spec_FormatTable.l0 (k + 1) y0 y1 y2)) ∧ (∀ y0 y1 y2 y3, LeO (spec_FormatTable.l1 k y0 y1 y2 y3) (spec_FormatTable.l1 (k + 1) y0 y1 y2 y3))
  | 0 => ⟨fun _ _ _ r h => by simp [spec_FormatTable.l0] at h, fun _ _ _ _ r h => by simp [spec_FormatTable.l1] at h⟩
  | k + 1 => by
    obtain ⟨ih0, ih1⟩ := spec_FormatTable.mono_l k
    refine ⟨?_, ?_⟩
    · intro y0 y1 y2
      unfold spec_FormatTable.l0
      exact mo
    · intro y0 y1 y2 y3
      unfold spec_FormatTable.l1
      exact mo
theorem spec_FormatTable.mono : ∀ a0 k, LeO (spec_FormatTable.f k a0) (spec_FormatTable.f (k + 1) a0) := by
  intro a0 k
  obtain ⟨ih0, ih1⟩ := spec_FormatTable.mono_l k
  unfold spec_FormatTable.f
  exact mo
instance spec_FormatTable.mi (a0 k) : LeC (spec_FormatTable.f k a0) (spec_FormatTable.f (k + 1) a0) := ⟨spec_FormatTable.mono a0 k⟩
set_option maxHeartbeats 8000000 in
set_option maxRecDepth 100000 in
theorem spec_FormatTable.calls (k : Nat) (A0_0 : Option Addr) (c0_0 : Nat) (l0_0 : List (S58)) (r : ByteArray) (w : World) (hr0_0 : Kd.C k58 w A0_0 l0_0.length l0_0) (hc0_0 : l0_0.length ≤ c0_0) (h : spec_FormatTable.f k l0_0 = some r) :
    Calls Tryz.prog 11 #[.agg #[.slice A0_0 l0_0.length c0_0]] w fun e w' => e = .returned (.string r) ∧ Below w.heap.size w w' := by
  have hu26 := Tryz.underlying26
  have HR0_0 := Aside0.mk hr0_0
  have HC0_0 := Aside0.mk hc0_0
  clear hr0_0 hc0_0
  have HB := Aside0.mk (Below.refl w.heap.size w)
  have H : ((spec_IsTable.f k l0_0).bind fun t361 => (if t361 = true then (spec_FormatTable.l0 k (⟨#[]⟩ : ByteArray) (-1) l0_0) else (some (⟨#[]⟩ : ByteArray)))) = some r := h
  clear h
  revert H; refine bo ?_; rintro t361 A2 H
  by_cases c3 : t361 = true
  · subst c3
    rw [if_pos rfl] at H
    have H' := Aside0.mk H
    clear H
    go_enter Tryz.func11, Tryz.ntmps11
    go_wp2_with (first | ((with_reducible refine gate_dst (N := 1) rfl ?_); refine bx 1 #[.slice A0_0 l0_0.length c0_0] 26 ?_; intro gb360 hg w4 hbox hb; have BK360 := mk hbox; have GW360 := wg hg; have GE360 := wg hg; replace HB := wh hb; clear hb hbox hg; obtain ⟨hcz5_0, hfz5_0⟩ := bz1 BK360) | ((with_reducible refine gate_callee (f := 12) rfl ?_); refine gl (some 7) rfl Tryz.func12 #[.agg #[.slice A0_0 l0_0.length c0_0]] ?_; (with_reducible refine (spec_IsTable.calls k _ _ l0_0 true _ ?side1 ?side2 A2.out).mono ?_); (case side1 => exact uc (Kd.C_below HR0_0.out HB.out)); (case side2 => exact HC0_0.out); rintro e w6 ⟨rfl, hb⟩; refine ⟨_, rfl, ?_⟩; replace BK360 := wb BK360 hb; replace HB := wh hb; (try clear hb); (try clear hb2); (try clear hk); (try clear hi)))
    go_loopg [3, 4] k (fun kq v3 v4 w' => ∃ (x3_1 : ByteArray) (x4_1 : Int), v3 = .string x3_1 ∧ v4 = .int .i64 x4_1 ∧ Aside0 (spec_FormatTable.l0 kq x3_1 x4_1 l0_0 = some r) ∧ Aside0 (kq ≤ k) ∧ Aside0 (w'.heap[gb360]? = some (.cells #[(.slice A0_0 l0_0.length c0_0)] 26 (0, 0))) ∧ Aside0 (Below w.heap.size w w'))
    case atStart => exact ⟨((⟨#[]⟩ : ByteArray)), ((-1)), (by first | rfl | (simp; done) | (simp [*]; done)), (by first | rfl | (simp; done) | (simp [*]; done)), H', ⟨Nat.le_refl _⟩, ⟨ub BK360.out⟩, ⟨bl⟩⟩
    case round =>
      clear H'
      try clear c1
      try clear p2
      try clear c3
      try clear hcz5_0
      try clear hfz5_0
      obtain ⟨x3_1, x4_1, rfl, rfl, HA, HK1, BK360, HB⟩ := hrel
      cases gk with
      | zero => exact absurd HA.out (by simp [spec_FormatTable.l0])
      | succ k1 =>
        have H := HA.out
        clear HA
        simp only [spec_FormatTable.l0] at H
        revert H; refine bo ?_; rintro t362 A7 H
        by_cases c8 : x4_1 < t362
        · rw [if_pos c8] at H
          have c8b0 : decide (x4_1 < t362) = true := decide_eq_true c8
          clear c8
          have H' := Aside0.mk H
          clear H
          obtain ⟨hcz9_0, hfz9_0⟩ := bz1 BK360
          go_wp2_with (first | ((with_reducible refine gate_callee (f := 25) rfl ?_); refine gl (some 11) rfl Tryz.func25 #[.agg #[.slice A0_0 l0_0.length c0_0]] ?_; (with_reducible refine (spec_RowCount.calls k1 _ _ l0_0 t362 _ ?side1 ?side2 A7.out).mono ?_); (case side1 => exact uc (Kd.C_below HR0_0.out HB.out)); (case side2 => exact HC0_0.out); rintro e w10 ⟨rfl, hb⟩; refine ⟨_, rfl, ?_⟩; replace BK360 := wb BK360 hb; replace HB := wh hb; (try clear hb); (try clear hb2); (try clear hk); (try clear hi)))
          go_loopg [3, 5] k1 (fun kq v3 v5 w' => ∃ (x3_2 : ByteArray) (x5_2 : Int), v3 = .string x3_2 ∧ v5 = .int .i64 x5_2 ∧ Aside0 (spec_FormatTable.l1 kq x3_2 x4_1 x5_2 l0_0 = some r) ∧ Aside0 (kq ≤ k1) ∧ Aside0 (w'.heap[gb360]? = some (.cells #[(.slice A0_0 l0_0.length c0_0)] 26 (0, 0))) ∧ Aside0 (Below w.heap.size w w'))
          case atStart => exact ⟨(x3_1), (0), (by first | rfl | (simp; done) | (simp [*]; done)), (by first | rfl | (simp; done) | (simp [*]; done)), H', ⟨Nat.le_refl _⟩, ⟨ub BK360.out⟩, ⟨bl⟩⟩
          case round =>
            clear H'
            try clear c1
            try clear c2
            try clear p2
            try clear c3
            try clear c8
            try clear c8b0
            try clear hcz5_0
            try clear hcz9_0
            try clear hfz5_0
            try clear hfz9_0
            try clear p2
            obtain ⟨x3_2, x5_2, rfl, rfl, HA, HK2, BK360, HB⟩ := hrel
            cases gk with
            | zero => exact absurd HA.out (by simp [spec_FormatTable.l1])
            | succ k2 =>
              have H := HA.out
              clear HA
              simp only [spec_FormatTable.l1] at H
              by_cases c11 : x5_2 < (l0_0.length : Int)
              · rw [if_pos c11] at H
                have c11b0 : decide (x5_2 < (l0_0.length : Int)) = true := decide_eq_true c11
                clear c11
                by_cases c12 : x5_2 > 0
                · rw [if_pos c12] at H
                  have c12b0 : decide (0 < x5_2) = true := decide_eq_true c12
                  clear c12
                  by_cases c13 : x3_2.size + 1 ≤ 9223372036854775807
                  · rw [if_pos c13] at H
                    have c13b0 := eq_true c13
                    have c13b1 : decide (x3_2.size + 1 ≤ 9223372036854775807) = true := decide_eq_true c13
                    try have c13b2 : (9223372036854775807 < x3_2.size + 1) = False := eq_false (Nat.not_lt.2 c13)
                    by_cases c14 : x4_1 < 0
                    · rw [if_pos c14] at H
                      have c14b0 : decide (x4_1 < 0) = true := decide_eq_true c14
                      clear c14
                      by_cases c15 : 0 ≤ x5_2
                      · rw [if_pos c15] at H
                        have c15b0 : decide (0 ≤ x5_2) = true := decide_eq_true c15
                        clear c15
                        by_cases c16 : (x3_2 ++ (⟨#[32]⟩ : ByteArray)).size + ((rd_T58 l0_0 x5_2).f0).size ≤ 9223372036854775807
                        · rw [if_pos c16] at H
                          have c16b0 := eq_true c16
                          have c16b1 : decide ((x3_2 ++ (⟨#[32]⟩ : ByteArray)).size + ((rd_T58 l0_0 x5_2).f0).size ≤ 9223372036854775807) = true := decide_eq_true c16
                          try have c16b2 : (9223372036854775807 < (x3_2 ++ (⟨#[32]⟩ : ByteArray)).size + ((rd_T58 l0_0 x5_2).f0).size) = False := eq_false (Nat.not_lt.2 c16)
                          have c16b4 : (9223372036854775807 < x3_2.size + 1 + ((rd_T58 l0_0 x5_2).f0).size) = False := eq_false (by have h_ := c16; simp only [ByteArray.size_append, show (⟨#[32]⟩ : ByteArray).size = 1 from rfl] at h_; omega)
                          have H' := Aside0.mk H
                          clear H
                          obtain ⟨hcz17_0, hfz17_0⟩ := bz1 BK360
                          have p363 : 0 ≤ (x5_2 : Int) := dt
                          have q363 : x5_2 < (l0_0.length : Int) := dt
                          obtain ⟨ad363, A363_1, c363_1, e363, hx363_0, hx363_1, hl363_1, hi363_1⟩ := at_T58 HR0_0.out x5_2 p363 q363
                          cases e363
                          replace hx363_0 := (HB.out.cell (World.block_lt_of_cell? w _ hx363_0)).trans hx363_0
                          replace hx363_1 := (HB.out.cell (World.block_lt_of_cell? w _ hx363_1)).trans hx363_1
                          have HR363_1 := Aside0.mk hi363_1
                          have HC363_1 := Aside0.mk hl363_1
                          clear hi363_1 hl363_1
                          replace p363 := eq_true p363
                          replace q363 := eq_true q363
                          go_wp2
                          go_roundg k2
                          case measure => have := HK1.out; have := HK2.out; omega
                          case rel => exact ⟨((x3_2 ++ (⟨#[32]⟩ : ByteArray)) ++ ((rd_T58 l0_0 x5_2).f0)), (wrap64 (x5_2 + 1)), (by first | rfl | (simp; done) | (simp [*]; done)), (by first | rfl | (simp; done) | (simp [*]; done)), H', ⟨by have := HK1.out; have := HK2.out; omega⟩, ⟨ub BK360.out⟩, ⟨bl⟩⟩
                        · rw [if_neg c16] at H
                          exact absurd H (by simp)
                      · rw [if_neg c15] at H
                        exact absurd H (by simp)
                    · rw [if_neg c14] at H
                      have c14b0 : decide (x4_1 < 0) = false := decide_eq_false c14
                      clear c14
                      by_cases c18 : 0 ≤ x5_2
                      · rw [if_pos c18] at H
                        have c18b0 : decide (0 ≤ x5_2) = true := decide_eq_true c18
                        clear c18
                        by_cases c19 : 0 ≤ x4_1
                        · rw [if_pos c19] at H
                          have c19b0 : decide (0 ≤ x4_1) = true := decide_eq_true c19
                          clear c19
                          by_cases c20 : x4_1 < (((rd_T58 l0_0 x5_2).f1).length : Int)
                          · rw [if_pos c20] at H
                            have c20b0 : decide (x4_1 < (((rd_T58 l0_0 x5_2).f1).length : Int)) = true := decide_eq_true c20
                            clear c20
                            revert H; refine bo ?_; rintro t366 A21 H
                            by_cases c22 : (x3_2 ++ (⟨#[32]⟩ : ByteArray)).size + t366.size ≤ 9223372036854775807
                            · rw [if_pos c22] at H
                              have c22b0 := eq_true c22
                              have c22b1 : decide ((x3_2 ++ (⟨#[32]⟩ : ByteArray)).size + t366.size ≤ 9223372036854775807) = true := decide_eq_true c22
                              try have c22b2 : (9223372036854775807 < (x3_2 ++ (⟨#[32]⟩ : ByteArray)).size + t366.size) = False := eq_false (Nat.not_lt.2 c22)
                              have c22b4 : (9223372036854775807 < x3_2.size + 1 + t366.size) = False := eq_false (by have h_ := c22; simp only [ByteArray.size_append, show (⟨#[32]⟩ : ByteArray).size = 1 from rfl] at h_; omega)
                              have H' := Aside0.mk H
                              clear H
                              obtain ⟨hcz23_0, hfz23_0⟩ := bz1 BK360
                              have p364 : 0 ≤ (x5_2 : Int) := dt
                              have q364 : x5_2 < (l0_0.length : Int) := dt
                              obtain ⟨ad364, A364_1, c364_1, e364, hx364_0, hx364_1, hl364_1, hi364_1⟩ := at_T58 HR0_0.out x5_2 p364 q364
                              cases e364
                              replace hx364_0 := (HB.out.cell (World.block_lt_of_cell? w _ hx364_0)).trans hx364_0
                              replace hx364_1 := (HB.out.cell (World.block_lt_of_cell? w _ hx364_1)).trans hx364_1
                              have HR364_1 := Aside0.mk hi364_1
                              have HC364_1 := Aside0.mk hl364_1
                              clear hi364_1 hl364_1
                              replace p364 := eq_true p364
                              replace q364 := eq_true q364
                              have p365 : 0 ≤ (x4_1 : Int) := dt
                              have q365 : x4_1 < (((rd_T58 l0_0 x5_2).f1).length : Int) := dt
                              obtain ⟨ad365, e365, hx365_0⟩ := Kd.at_int HR364_1.out x4_1 p365 q365
                              cases e365
                              replace hx365_0 := (HB.out.cell (World.block_lt_of_cell? w _ hx365_0)).trans hx365_0
                              replace p365 := eq_true p365
                              replace q365 := eq_true q365
                              go_wp2_with (first | ((with_reducible refine gate_callee (f := 39) rfl ?_); refine gl (some 46) rfl Tryz.func39 #[.int .i64 (rd ((rd_T58 l0_0 x5_2).f1) x4_1)] ?_; (with_reducible refine (spec_FormatInt.calls k2 (rd ((rd_T58 l0_0 x5_2).f1) x4_1) t366 _ A21.out).mono ?_); rintro e w24 ⟨rfl, hb⟩; refine ⟨_, rfl, ?_⟩; replace BK360 := wb BK360 hb; replace HB := wh hb; (try clear hb); (try clear hb2); (try clear hk); (try clear hi)))
                              go_roundg k2
                              case measure => have := HK1.out; have := HK2.out; omega
                              case rel => exact ⟨((x3_2 ++ (⟨#[32]⟩ : ByteArray)) ++ t366), (wrap64 (x5_2 + 1)), (by first | rfl | (simp; done) | (simp [*]; done)), (by first | rfl | (simp; done) | (simp [*]; done)), H', ⟨by have := HK1.out; have := HK2.out; omega⟩, ⟨ub BK360.out⟩, ⟨bl⟩⟩
                            · rw [if_neg c22] at H
                              exact absurd H (by simp)
                          · rw [if_neg c20] at H
                            exact absurd H (by simp)
                        · rw [if_neg c19] at H
                          exact absurd H (by simp)
                      · rw [if_neg c18] at H
                        exact absurd H (by simp)
                  · rw [if_neg c13] at H
                    exact absurd H (by simp)
                · rw [if_neg c12] at H
                  have c12b0 : decide (0 < x5_2) = false := decide_eq_false c12
                  clear c12
                  by_cases c25 : x4_1 < 0
                  · rw [if_pos c25] at H
                    have c25b0 : decide (x4_1 < 0) = true := decide_eq_true c25
                    clear c25
                    by_cases c26 : 0 ≤ x5_2
                    · rw [if_pos c26] at H
                      have c26b0 : decide (0 ≤ x5_2) = true := decide_eq_true c26
                      clear c26
                      by_cases c27 : x3_2.size + ((rd_T58 l0_0 x5_2).f0).size ≤ 9223372036854775807
                      · rw [if_pos c27] at H
                        have c27b0 := eq_true c27
                        have c27b1 : decide (x3_2.size + ((rd_T58 l0_0 x5_2).f0).size ≤ 9223372036854775807) = true := decide_eq_true c27
                        try have c27b2 : (9223372036854775807 < x3_2.size + ((rd_T58 l0_0 x5_2).f0).size) = False := eq_false (Nat.not_lt.2 c27)
                        have H' := Aside0.mk H
                        clear H
                        obtain ⟨hcz28_0, hfz28_0⟩ := bz1 BK360
                        have p367 : 0 ≤ (x5_2 : Int) := dt
                        have q367 : x5_2 < (l0_0.length : Int) := dt
                        obtain ⟨ad367, A367_1, c367_1, e367, hx367_0, hx367_1, hl367_1, hi367_1⟩ := at_T58 HR0_0.out x5_2 p367 q367
                        cases e367
                        replace hx367_0 := (HB.out.cell (World.block_lt_of_cell? w _ hx367_0)).trans hx367_0
                        replace hx367_1 := (HB.out.cell (World.block_lt_of_cell? w _ hx367_1)).trans hx367_1
                        have HR367_1 := Aside0.mk hi367_1
                        have HC367_1 := Aside0.mk hl367_1
                        clear hi367_1 hl367_1
                        replace p367 := eq_true p367
                        replace q367 := eq_true q367
                        go_wp2
                        go_roundg k2
                        case measure => have := HK1.out; have := HK2.out; omega
                        case rel => exact ⟨(x3_2 ++ ((rd_T58 l0_0 x5_2).f0)), (wrap64 (x5_2 + 1)), (by first | rfl | (simp; done) | (simp [*]; done)), (by first | rfl | (simp; done) | (simp [*]; done)), H', ⟨by have := HK1.out; have := HK2.out; omega⟩, ⟨ub BK360.out⟩, ⟨bl⟩⟩
                      · rw [if_neg c27] at H
                        exact absurd H (by simp)
                    · rw [if_neg c26] at H
                      exact absurd H (by simp)
                  · rw [if_neg c25] at H
                    have c25b0 : decide (x4_1 < 0) = false := decide_eq_false c25
                    clear c25
                    by_cases c29 : 0 ≤ x5_2
                    · rw [if_pos c29] at H
                      have c29b0 : decide (0 ≤ x5_2) = true := decide_eq_true c29
                      clear c29
                      by_cases c30 : 0 ≤ x4_1
                      · rw [if_pos c30] at H
                        have c30b0 : decide (0 ≤ x4_1) = true := decide_eq_true c30
                        clear c30
                        by_cases c31 : x4_1 < (((rd_T58 l0_0 x5_2).f1).length : Int)
                        · rw [if_pos c31] at H
                          have c31b0 : decide (x4_1 < (((rd_T58 l0_0 x5_2).f1).length : Int)) = true := decide_eq_true c31
                          clear c31
                          revert H; refine bo ?_; rintro t370 A32 H
                          by_cases c33 : x3_2.size + t370.size ≤ 9223372036854775807
                          · rw [if_pos c33] at H
                            have c33b0 := eq_true c33
                            have c33b1 : decide (x3_2.size + t370.size ≤ 9223372036854775807) = true := decide_eq_true c33
                            try have c33b2 : (9223372036854775807 < x3_2.size + t370.size) = False := eq_false (Nat.not_lt.2 c33)
                            have H' := Aside0.mk H
                            clear H
                            obtain ⟨hcz34_0, hfz34_0⟩ := bz1 BK360
                            have p368 : 0 ≤ (x5_2 : Int) := dt
                            have q368 : x5_2 < (l0_0.length : Int) := dt
                            obtain ⟨ad368, A368_1, c368_1, e368, hx368_0, hx368_1, hl368_1, hi368_1⟩ := at_T58 HR0_0.out x5_2 p368 q368
                            cases e368
                            replace hx368_0 := (HB.out.cell (World.block_lt_of_cell? w _ hx368_0)).trans hx368_0
                            replace hx368_1 := (HB.out.cell (World.block_lt_of_cell? w _ hx368_1)).trans hx368_1
                            have HR368_1 := Aside0.mk hi368_1
                            have HC368_1 := Aside0.mk hl368_1
                            clear hi368_1 hl368_1
                            replace p368 := eq_true p368
                            replace q368 := eq_true q368
                            have p369 : 0 ≤ (x4_1 : Int) := dt
                            have q369 : x4_1 < (((rd_T58 l0_0 x5_2).f1).length : Int) := dt
                            obtain ⟨ad369, e369, hx369_0⟩ := Kd.at_int HR368_1.out x4_1 p369 q369
                            cases e369
                            replace hx369_0 := (HB.out.cell (World.block_lt_of_cell? w _ hx369_0)).trans hx369_0
                            replace p369 := eq_true p369
                            replace q369 := eq_true q369
                            go_wp2_with (first | ((with_reducible refine gate_callee (f := 39) rfl ?_); refine gl (some 46) rfl Tryz.func39 #[.int .i64 (rd ((rd_T58 l0_0 x5_2).f1) x4_1)] ?_; (with_reducible refine (spec_FormatInt.calls k2 (rd ((rd_T58 l0_0 x5_2).f1) x4_1) t370 _ A32.out).mono ?_); rintro e w35 ⟨rfl, hb⟩; refine ⟨_, rfl, ?_⟩; replace BK360 := wb BK360 hb; replace HB := wh hb; (try clear hb); (try clear hb2); (try clear hk); (try clear hi)))
                            go_roundg k2
                            case measure => have := HK1.out; have := HK2.out; omega
                            case rel => exact ⟨(x3_2 ++ t370), (wrap64 (x5_2 + 1)), (by first | rfl | (simp; done) | (simp [*]; done)), (by first | rfl | (simp; done) | (simp [*]; done)), H', ⟨by have := HK1.out; have := HK2.out; omega⟩, ⟨ub BK360.out⟩, ⟨bl⟩⟩
                          · rw [if_neg c33] at H
                            exact absurd H (by simp)
                        · rw [if_neg c31] at H
                          exact absurd H (by simp)
                      · rw [if_neg c30] at H
                        exact absurd H (by simp)
                    · rw [if_neg c29] at H
                      exact absurd H (by simp)
              · rw [if_neg c11] at H
                have c11b0 : decide (x5_2 < (l0_0.length : Int)) = false := decide_eq_false c11
                clear c11
                by_cases c36 : x3_2.size + 1 ≤ 9223372036854775807
                · rw [if_pos c36] at H
                  have c36b0 := eq_true c36
                  have c36b1 : decide (x3_2.size + 1 ≤ 9223372036854775807) = true := decide_eq_true c36
                  try have c36b2 : (9223372036854775807 < x3_2.size + 1) = False := eq_false (Nat.not_lt.2 c36)
                  have H' := Aside0.mk H
                  clear H
                  obtain ⟨hcz37_0, hfz37_0⟩ := bz1 BK360
                  go_wp2
                  go_roundg k2
                  case measure => have := HK1.out; have := HK2.out; omega
                  case rel => exact ⟨(x3_2 ++ (⟨#[10]⟩ : ByteArray)), (wrap64 (x4_1 + 1)), (by first | rfl | (simp; done) | (simp [*]; done)), (by first | rfl | (simp; done) | (simp [*]; done)), H', ⟨by have := HK1.out; have := HK2.out; omega⟩, ⟨ub BK360.out⟩, ⟨bl⟩⟩
                · rw [if_neg c36] at H
                  exact absurd H (by simp)
        · rw [if_neg c8] at H
          have c8b0 : decide (x4_1 < t362) = false := decide_eq_false c8
          clear c8
          obtain rfl := Option.some.inj H
          obtain ⟨hcz38_0, hfz38_0⟩ := bz1 BK360
          go_wp2_with (first | ((with_reducible refine gate_callee (f := 25) rfl ?_); refine gl (some 11) rfl Tryz.func25 #[.agg #[.slice A0_0 l0_0.length c0_0]] ?_; (with_reducible refine (spec_RowCount.calls k1 _ _ l0_0 t362 _ ?side1 ?side2 A7.out).mono ?_); (case side1 => exact uc (Kd.C_below HR0_0.out HB.out)); (case side2 => exact HC0_0.out); rintro e w39 ⟨rfl, hb⟩; refine ⟨_, rfl, ?_⟩; replace BK360 := wb BK360 hb; replace HB := wh hb; (try clear hb); (try clear hb2); (try clear hk); (try clear hi)))
          go_ret
          exact ⟨by first | rfl | (simp [errW_none, errW_some] <;> rfl) | (simp [*, errW_none, errW_some] <;> rfl), bl⟩
  · replace c3 := Bool.eq_false_iff.mpr c3
    subst c3
    rw [if_neg nf] at H
    obtain rfl := Option.some.inj H
    go_enter Tryz.func11, Tryz.ntmps11
    go_wp2_with (first | ((with_reducible refine gate_dst (N := 1) rfl ?_); refine bx 1 #[.slice A0_0 l0_0.length c0_0] 26 ?_; intro gb360 hg w40 hbox hb; have BK360 := mk hbox; have GW360 := wg hg; have GE360 := wg hg; replace HB := wh hb; clear hb hbox hg; obtain ⟨hcz41_0, hfz41_0⟩ := bz1 BK360) | ((with_reducible refine gate_callee (f := 12) rfl ?_); refine gl (some 7) rfl Tryz.func12 #[.agg #[.slice A0_0 l0_0.length c0_0]] ?_; (with_reducible refine (spec_IsTable.calls k _ _ l0_0 false _ ?side1 ?side2 A2.out).mono ?_); (case side1 => exact uc (Kd.C_below HR0_0.out HB.out)); (case side2 => exact HC0_0.out); rintro e w42 ⟨rfl, hb⟩; refine ⟨_, rfl, ?_⟩; replace BK360 := wb BK360 hb; replace HB := wh hb; (try clear hb); (try clear hb2); (try clear hk); (try clear hi)))
    go_ret
    exact ⟨by first | rfl | (simp [errW_none, errW_some] <;> rfl) | (simp [*, errW_none, errW_some] <;> rfl), bl⟩

/-! ### spec_IsRange: function 13 -/
def spec_IsRange.f (a0_0 : Int) (a0_1 : Int) : Option (Bool) := (spec_l1In.f a0_0 (-1000) 1000).bind fun t372 => (if t372 = true then ((spec_l1In.f a0_1 a0_0 1000).bind fun t373 => (some t373)) else (some false))
set_option maxHeartbeats 8000000 in
set_option maxRecDepth 100000 in
theorem spec_IsRange.calls (a0_0 : Int) (a0_1 : Int) (r : Bool) (w : World) (h : spec_IsRange.f a0_0 a0_1 = some r) :
    Calls Tryz.prog 13 #[.agg #[.int .i64 a0_0, .int .i64 a0_1]] w fun e w' => e = .returned (.bool r) ∧ Below w.heap.size w w' := by
  have hu32 := Tryz.underlying32
  have HB := Aside0.mk (Below.refl w.heap.size w)
  have H : ((spec_l1In.f a0_0 (-1000) 1000).bind fun t372 => (if t372 = true then ((spec_l1In.f a0_1 a0_0 1000).bind fun t373 => (some t373)) else (some false))) = some r := h
  clear h
  revert H; refine bo ?_; rintro t372 A2 H
  by_cases c3 : t372 = true
  · subst c3
    rw [if_pos rfl] at H
    revert H; refine bo ?_; rintro t373 A4 H
    obtain rfl := Option.some.inj H
    go_enter Tryz.func13, Tryz.ntmps13
    go_wp2_with (first | ((with_reducible refine gate_dst (N := 1) rfl ?_); refine bx 1 #[.int .i64 a0_0, .int .i64 a0_1] 32 ?_; intro gb371 hg w5 hbox hb; have BK371 := mk hbox; have GW371 := wg hg; have GE371 := wg hg; replace HB := wh hb; clear hb hbox hg; obtain ⟨hcz6_0, hcz6_1, hfz6_0, hfz6_1⟩ := bz2 BK371) | ((with_reducible refine gate_callee (f := 40) rfl ?_); refine gl (some 5) rfl Tryz.func40 #[.int .i64 a0_0, .int .i64 (-1000), .int .i64 1000] ?_; (with_reducible refine (spec_l1In.calls a0_0 (-1000) 1000 true _ A2.out).mono ?_); rintro e w' ⟨rfl, ⟨nd, rfl⟩⟩; refine ⟨_, rfl, ?_⟩) | (go_at_call 40; (with_reducible refine (spec_l1In.calls a0_1 a0_0 1000 t373 _ A4.out).mono ?_); rintro e w' ⟨rfl, ⟨nd, rfl⟩⟩))
    go_ret
    exact ⟨by first | rfl | (simp [errW_none, errW_some] <;> rfl) | (simp [*, errW_none, errW_some] <;> rfl), bl⟩
  · replace c3 := Bool.eq_false_iff.mpr c3
    subst c3
    rw [if_neg nf] at H
    obtain rfl := Option.some.inj H
    go_enter Tryz.func13, Tryz.ntmps13
    go_wp2_with (first | ((with_reducible refine gate_dst (N := 1) rfl ?_); refine bx 1 #[.int .i64 a0_0, .int .i64 a0_1] 32 ?_; intro gb371 hg w7 hbox hb; have BK371 := mk hbox; have GW371 := wg hg; have GE371 := wg hg; replace HB := wh hb; clear hb hbox hg; obtain ⟨hcz8_0, hcz8_1, hfz8_0, hfz8_1⟩ := bz2 BK371) | ((with_reducible refine gate_callee (f := 40) rfl ?_); refine gl (some 5) rfl Tryz.func40 #[.int .i64 a0_0, .int .i64 (-1000), .int .i64 1000] ?_; (with_reducible refine (spec_l1In.calls a0_0 (-1000) 1000 false _ A2.out).mono ?_); rintro e w' ⟨rfl, ⟨nd, rfl⟩⟩; refine ⟨_, rfl, ?_⟩))
    go_ret
    exact ⟨by first | rfl | (simp [errW_none, errW_some] <;> rfl) | (simp [*, errW_none, errW_some] <;> rfl), bl⟩

/-! ### spec_DrawMeetRanges: function 14 -/
def spec_DrawMeetRanges.f (k : Nat) (l0 : List Int) : Option (Int × Int × Int × Int) := (spec_l1New.f k l0).bind fun bt376 => ((spec_l3Any.f bt376.1 bt376.2.1 bt376.2.2).bind fun bt380 => ((spec_l3Any.f bt376.1 bt380.2.2.1 bt380.2.2.2).bind fun bt385 => (some (bt380.1, bt380.2.1, bt385.1, bt385.2.1))))
theorem spec_DrawMeetRanges.mono : ∀ a0 k, LeO (spec_DrawMeetRanges.f k a0) (spec_DrawMeetRanges.f (k + 1) a0) := by
  intro a0 k
  unfold spec_DrawMeetRanges.f
  exact mo
instance spec_DrawMeetRanges.mi (a0 k) : LeC (spec_DrawMeetRanges.f k a0) (spec_DrawMeetRanges.f (k + 1) a0) := ⟨spec_DrawMeetRanges.mono a0 k⟩
set_option maxHeartbeats 8000000 in
set_option maxRecDepth 100000 in
theorem spec_DrawMeetRanges.calls (k : Nat) (A0 : Option Addr) (c0 : Nat) (l0 : List Int) (r1 : Int) (r2 : Int) (r3 : Int) (r4 : Int) (w : World) (hr0 : Kd.C (Kd.int .u8) w A0 l0.length l0) (hc0 : l0.length ≤ c0) (h : spec_DrawMeetRanges.f k l0 = some (r1, r2, r3, r4)) :
    Calls Tryz.prog 14 #[.slice A0 l0.length c0] w fun e w' => e = .returned (.tuple #[.agg #[.int .i64 r1, .int .i64 r2], .agg #[.int .i64 r3, .int .i64 r4]]) ∧ Below w.heap.size w w' := by
  have hu32 := Tryz.underlying32
  have HR0 := Aside0.mk hr0
  have HC0 := Aside0.mk hc0
  clear hr0 hc0
  have HB := Aside0.mk (Below.refl w.heap.size w)
  have H : ((spec_l1New.f k l0).bind fun bt376 => ((spec_l3Any.f bt376.1 bt376.2.1 bt376.2.2).bind fun bt380 => ((spec_l3Any.f bt376.1 bt380.2.2.1 bt380.2.2.2).bind fun bt385 => (some (bt380.1, bt380.2.1, bt385.1, bt385.2.1))))) = some (r1, r2, r3, r4) := h
  clear h
  revert H; refine bo ?_; rintro ⟨t376, t377, t378⟩ A2 H
  dsimp only at H
  revert H; refine bo ?_; rintro ⟨t380, t381, t382, t383⟩ A3 H
  dsimp only at H
  revert H; refine bo ?_; rintro ⟨t385, t386, t387, t388⟩ A4 H
  dsimp only at H
  simp only [Option.some.injEq, Prod.mk.injEq] at H
  obtain ⟨rfl, rfl, rfl, rfl⟩ := H
  go_enter Tryz.func14, Tryz.ntmps14
  try go_wp2_with (first | ((with_reducible refine gate_dst (N := 2) rfl ?_); refine bx 2 #[.int .i64 0, .int .i64 0] 32 ?_; intro gb374 hg w5 hbox hb; have BK374 := mk hbox; have GW374 := wg hg; have GE374 := wg hg; replace HB := wh hb; clear hb hbox hg) | ((with_reducible refine gate_dst (N := 3) rfl ?_); refine bx 3 #[.int .i64 0, .int .i64 0] 32 ?_; intro gb375 hg w6 hbox hb; have BK375 := mk hbox; have GW375 := wg hg; have GE375 := wg hg; replace HB := wh hb; have NB374_375 := nl BK374 hg; have NB375_374 := nr BK374 hg; replace BK374 := wb BK374 hb; clear hb hbox hg) | ((with_reducible refine gate_callee (f := 29) rfl ?_); refine gl (some 7) rfl Tryz.func29 #[.slice A0 l0.length c0] ?_; (with_reducible refine (spec_l1New.calls k _ _ l0 t376 t377 t378 w _ ?side1 ?side2 ?side3 A2.out).mono ?_); (case side1 => exact bl); (case side2 => exact HR0.out); (case side3 => exact HC0.out); rintro e w7 ⟨g379, rfl, hi, hb, hb2⟩; refine ⟨_, rfl, ?_⟩; replace HB := mk hb; have HI379 := mk hi; have NB379_374 := mk (IsS78.ne_blk hi (blk_below (g := gb374) (o := .cells #[.int .i64 0, .int .i64 0] 32 (0, 0)) (ub BK374.out) hb2) (by decide)); have NB374_379 := mk (Ne.symm (IsS78.ne_blk hi (blk_below (g := gb374) (o := .cells #[.int .i64 0, .int .i64 0] 32 (0, 0)) (ub BK374.out) hb2) (by decide))); replace BK374 := mk (blk_below (g := gb374) (o := .cells #[.int .i64 0, .int .i64 0] 32 (0, 0)) (ub BK374.out) hb2); have NB379_375 := mk (IsS78.ne_blk hi (blk_below (g := gb375) (o := .cells #[.int .i64 0, .int .i64 0] 32 (0, 0)) (ub BK375.out) hb2) (by decide)); have NB375_379 := mk (Ne.symm (IsS78.ne_blk hi (blk_below (g := gb375) (o := .cells #[.int .i64 0, .int .i64 0] 32 (0, 0)) (ub BK375.out) hb2) (by decide))); replace BK375 := mk (blk_below (g := gb375) (o := .cells #[.int .i64 0, .int .i64 0] 32 (0, 0)) (ub BK375.out) hb2); (try clear hb); (try clear hb2); (try clear hk); (try clear hi)) | ((with_reducible refine gate_callee (f := 35) rfl ?_); refine gl (some 9) rfl Tryz.func35 #[.pointer (some ⟨g379, 0, none⟩)] ?_; (with_reducible refine (spec_l3Any.calls g379 t376 t377 t378 t380 t381 t382 t383 w _ ?side1 ?side2 A3.out).mono ?_); (case side1 => exact (by repeat (first | (with_reducible first | exact HI379.out | apply IsS78.alloc | apply IsS78.drewN | apply IsS78.drew | apply IsS78.set_1 | apply IsS78.set_2 | refine IsS78.far ?_ NB379_374.out _ | refine IsS78.far ?_ NB379_375.out _) | exact HI379.out))); (case side2 => exact (by repeat (first | (with_reducible first | exact HB.out | apply below_alloc | apply pw_below_drewN | apply below_drew1 | refine below_set ?_ (IsS78.ge HI379.out) | refine below_set ?_ GE374.out | refine below_set ?_ GE375.out) | exact HB.out))); rintro e w8 ⟨rfl, hi, hb, hk⟩; refine ⟨_, rfl, ?_⟩; replace BK374 := mk (KeepBut.blk hk (g' := gb374) (o := .cells #[.int .i64 0, .int .i64 0] 32 (0, 0)) (ub BK374.out) NB374_379.out (by simp)); replace BK375 := mk (KeepBut.blk hk (g' := gb375) (o := .cells #[.int .i64 0, .int .i64 0] 32 (0, 0)) (ub BK375.out) NB375_379.out (by simp)); replace HB := mk hb; replace HI379 := mk hi; (try clear hb); (try clear hb2); (try clear hk); (try clear hi)) | ((with_reducible refine gate_dst (N := 5) rfl ?_); refine bx 5 #[.int .i64 0, .int .i64 0] 32 ?_; intro gb384 hg w9 hbox hb; have BK384 := mk hbox; have GW384 := mk ((by rw [hg]; exact (below_size (by repeat (first | (with_reducible first | exact HB.out | apply below_alloc | apply pw_below_drewN | apply below_drew1 | refine below_set ?_ (IsS78.ge HI379.out) | refine below_set ?_ GE374.out | refine below_set ?_ GE375.out) | exact HB.out))) : w.heap.size ≤ gb384)); have GE384 := mk ((by rw [hg]; exact (below_size (by repeat (first | (with_reducible first | exact HB.out | apply below_alloc | apply pw_below_drewN | apply below_drew1 | refine below_set ?_ (IsS78.ge HI379.out) | refine below_set ?_ GE374.out | refine below_set ?_ GE375.out) | exact HB.out))) : w.heap.size ≤ gb384)); replace HB := mk (below_step (by repeat (first | (with_reducible first | exact HB.out | apply below_alloc | apply pw_below_drewN | apply below_drew1 | refine below_set ?_ (IsS78.ge HI379.out) | refine below_set ?_ GE374.out | refine below_set ?_ GE375.out) | exact HB.out)) hb); have NB374_384 := nl BK374 hg; have NB384_374 := nr BK374 hg; replace BK374 := wb BK374 hb; have NB375_384 := nl BK375 hg; have NB384_375 := nr BK375 hg; replace BK375 := wb BK375 hb; have NB379_384 := mk ((by rw [hg]; exact Nat.ne_of_lt (IsS78.lt (show IsS78 w _ g379 t376 t382 t383 from by repeat (first | (with_reducible first | exact HI379.out | apply IsS78.alloc | apply IsS78.drewN | apply IsS78.drew | apply IsS78.set_1 | apply IsS78.set_2 | refine IsS78.far ?_ NB379_374.out _ | refine IsS78.far ?_ NB379_375.out _) | exact HI379.out))) : g379 ≠ gb384)); have NB384_379 := mk ((by rw [hg]; exact Nat.ne_of_gt (IsS78.lt (show IsS78 w _ g379 t376 t382 t383 from by repeat (first | (with_reducible first | exact HI379.out | apply IsS78.alloc | apply IsS78.drewN | apply IsS78.drew | apply IsS78.set_1 | apply IsS78.set_2 | refine IsS78.far ?_ NB379_374.out _ | refine IsS78.far ?_ NB379_375.out _) | exact HI379.out))) : gb384 ≠ g379)); replace HI379 := mk (IsS78.below (by repeat (first | (with_reducible first | exact HI379.out | apply IsS78.alloc | apply IsS78.drewN | apply IsS78.drew | apply IsS78.set_1 | apply IsS78.set_2 | refine IsS78.far ?_ NB379_374.out _ | refine IsS78.far ?_ NB379_375.out _) | exact HI379.out)) hb); clear hb hbox hg; have hnb10 := NB384_374.out; have hnc10 := NB374_384.out; have hnb11 := NB384_375.out; have hnc11 := NB375_384.out; have hnb12 := NB384_379.out; have hnc12 := NB379_384.out; obtain ⟨hcz13_0, hcz13_1, hfz13_0, hfz13_1⟩ := bz2 BK384))
  have n0_ : Aside0 (((w9.setCell ⟨gb384, 0, none⟩ (.int .i64 t380)).setCell ⟨gb384, 1, none⟩ (.int .i64 t381)).heap[gb374]? = some (.cells #[.int .i64 0, .int .i64 0] 32 (0, 0))) := ⟨bq⟩
  have n1_ : Aside0 (((w9.setCell ⟨gb384, 0, none⟩ (.int .i64 t380)).setCell ⟨gb384, 1, none⟩ (.int .i64 t381)).heap[gb375]? = some (.cells #[.int .i64 0, .int .i64 0] 32 (0, 0))) := ⟨bq⟩
  have n2_ : Aside0 (((w9.setCell ⟨gb384, 0, none⟩ (.int .i64 t380)).setCell ⟨gb384, 1, none⟩ (.int .i64 t381)).heap[gb384]? = some (.cells #[.int .i64 t380, .int .i64 t381] 32 (0, 0))) := ⟨bq⟩
  have n3_ : Aside0 (IsS78 w ((w9.setCell ⟨gb384, 0, none⟩ (.int .i64 t380)).setCell ⟨gb384, 1, none⟩ (.int .i64 t381)) g379 t376 t382 t383) := ⟨by repeat (first | (with_reducible first | exact HI379.out | apply IsS78.alloc | apply IsS78.drewN | apply IsS78.drew | apply IsS78.set_1 | apply IsS78.set_2 | refine IsS78.far ?_ NB379_374.out _ | refine IsS78.far ?_ NB379_375.out _ | refine IsS78.far ?_ NB379_384.out _) | exact HI379.out)⟩
  have n4_ : Aside0 (Below w.heap.size w ((w9.setCell ⟨gb384, 0, none⟩ (.int .i64 t380)).setCell ⟨gb384, 1, none⟩ (.int .i64 t381))) := ⟨by repeat (first | (with_reducible first | exact HB.out | apply below_alloc | apply pw_below_drewN | apply below_drew1 | refine below_set ?_ (IsS78.ge HI379.out) | refine below_set ?_ GE374.out | refine below_set ?_ GE375.out | refine below_set ?_ GE384.out) | exact HB.out)⟩
  (try clear BK374)
  (try clear BK375)
  (try clear BK384)
  (try clear HI379)
  (try clear HB)
  generalize ((w9.setCell ⟨gb384, 0, none⟩ (.int .i64 t380)).setCell ⟨gb384, 1, none⟩ (.int .i64 t381)) = w14 at n0_ n1_ n2_ n3_ n4_ ⊢
  have BK374 := n0_
  have BK375 := n1_
  have BK384 := n2_
  have HI379 := n3_
  have HB := n4_
  clear n0_ n1_ n2_ n3_ n4_
  replace BK374 := wd BK374
  replace BK375 := wd BK375
  replace BK384 := wd BK384
  replace HI379 := mk (IsS78.drew HI379.out)
  replace HB := mk (below_drew1 HB.out)
  refine start_ (n := 5) (S := fun w' => w'.cell? ⟨gb384, 0, none⟩ = some (.int .i64 t380) ∧ w'.cell? ⟨gb384, 1, none⟩ = some (.int .i64 t381)) (ds := []) #[false, false, false, false, false] (by kernel_rfl) rfl rfl ⟨bc BK384 0, bc BK384 1⟩ (fun hHeld => ?_)
  generalize w14.drew = w15 at BK374 BK375 BK384 HI379 HB hHeld ⊢
  refine pu 1 11 #[F_,T_,F_,F_,F_] ?_
  refine tk 0 10 (tf 2 3) hHeld ?_
  refine on 2 12 (tf 3 2) (fun K hK => ?_)
  refine gs Tryz.func35 #[.pointer (some ⟨g379, 0, none⟩)] ?_
  with_reducible refine (spec_l3Any.calls g379 t376 t382 t383 t385 t386 t387 t388 w _ ?side1 ?side2 A4.out).mono ?_
  (case side1 => exact (by repeat (first | (with_reducible first | exact HI379.out | apply IsS78.alloc | apply IsS78.drewN | apply IsS78.drew | apply IsS78.set_1 | apply IsS78.set_2 | refine IsS78.far ?_ NB379_374.out _ | refine IsS78.far ?_ NB379_375.out _ | refine IsS78.far ?_ NB379_384.out _) | exact HI379.out)))
  (case side2 => exact (by repeat (first | (with_reducible first | exact HB.out | apply below_alloc | apply pw_below_drewN | apply below_drew1 | refine below_set ?_ (IsS78.ge HI379.out) | refine below_set ?_ GE374.out | refine below_set ?_ GE375.out | refine below_set ?_ GE384.out) | exact HB.out)))
  rintro e w16 ⟨rfl, hi, hb, hk⟩
  refine ⟨_, rfl, ?_⟩
  replace BK374 := mk (KeepBut.blk hk (g' := gb374) (o := .cells #[.int .i64 0, .int .i64 0] 32 (0, 0)) (ub BK374.out) NB374_379.out (by simp))
  replace BK375 := mk (KeepBut.blk hk (g' := gb375) (o := .cells #[.int .i64 0, .int .i64 0] 32 (0, 0)) (ub BK375.out) NB375_379.out (by simp))
  replace BK384 := mk (KeepBut.blk hk (g' := gb384) (o := .cells #[.int .i64 t380, .int .i64 t381] 32 (0, 0)) (ub BK384.out) NB384_379.out (by simp))
  replace HB := mk hb
  replace HI379 := mk hi
  (try clear hb)
  (try clear hb2)
  (try clear hk)
  (try clear hi)
  refine hK.out _ _ ⟨bc BK384 0, bc BK384 1⟩ (fun hHeld => ?_)
  clear hK K
  refine nm 12 ?_
  refine one_ (i := 3) (N := none) #[true, true, true, true, false] rfl rfl (by kernel_rfl) (by decide) (fun K hK => ?_)
  have hs17 : w16.cell? ⟨gb374, 0, none⟩ = some (.int .i64 0) := (blk_cell BK374.out 0).trans rfl
  have hfs17 := blk_frozen BK374.out 0
  have hns17_1 := NB375_374.out
  have hns17_2 := NB384_374.out
  have hms17_1 := NB374_375.out
  have hms17_2 := NB374_384.out
  have hs18 : w16.cell? ⟨gb374, 1, none⟩ = some (.int .i64 0) := (blk_cell BK374.out 1).trans rfl
  have hfs18 := blk_frozen BK374.out 1
  have hns18_1 := NB375_374.out
  have hns18_2 := NB384_374.out
  have hms18_1 := NB374_375.out
  have hms18_2 := NB374_384.out
  refine skip_ (w1 := ?_) (by rfl) rfl ?_ ?_
  rotate_left
  · go_simp
    rfl
  refine hK.out _ _ ⟨((cell_far (p := ⟨gb374, _, none⟩) NB384_374.out _).trans (((cell_far (p := ⟨gb374, _, none⟩) NB384_374.out _).trans (hHeld.1)))), ((cell_far (p := ⟨gb374, _, none⟩) NB384_374.out _).trans (((cell_far (p := ⟨gb374, _, none⟩) NB384_374.out _).trans (hHeld.2))))⟩ (fun hHeld => ?_)
  clear hK K
  refine one_ (i := 4) (N := none) #[true, true, true, true, true] rfl rfl (by kernel_rfl) (by decide) (fun K hK => ?_)
  have hs19 : w16.cell? ⟨gb375, 0, none⟩ = some (.int .i64 0) := (blk_cell BK375.out 0).trans rfl
  have hfs19 := blk_frozen BK375.out 0
  have hns19_0 := NB374_375.out
  have hns19_2 := NB384_375.out
  have hms19_0 := NB375_374.out
  have hms19_2 := NB375_384.out
  have hs20 : w16.cell? ⟨gb375, 1, none⟩ = some (.int .i64 0) := (blk_cell BK375.out 1).trans rfl
  have hfs20 := blk_frozen BK375.out 1
  have hns20_0 := NB374_375.out
  have hns20_2 := NB384_375.out
  have hms20_0 := NB375_374.out
  have hms20_2 := NB375_384.out
  refine skip_ (w1 := ?_) (by rfl) rfl ?_ ?_
  rotate_left
  · go_simp
    rfl
  refine hK.out _ _ ⟨((cell_far (p := ⟨gb375, _, none⟩) NB384_375.out _).trans (((cell_far (p := ⟨gb375, _, none⟩) NB384_375.out _).trans (hHeld.1)))), ((cell_far (p := ⟨gb375, _, none⟩) NB384_375.out _).trans (((cell_far (p := ⟨gb375, _, none⟩) NB384_375.out _).trans (hHeld.2))))⟩ (fun hHeld => ?_)
  clear hK K
  refine done_ (by kernel_rfl) ?_
  try go_wp2
  refine bodyPost_ret (results_cc rfl _ _ gb374 gb375 32 32 #[.int .i64 t380, .int .i64 t381] #[.int .i64 t385, .int .i64 t386] (0, 0) (0, 0) _ _ rfl bq Tryz.underlying32 rfl (by kernel_rfl) rfl bq Tryz.underlying32 rfl (by kernel_rfl)) rfl ?_
  exact ⟨by first | rfl | (simp [errW_none, errW_some] <;> rfl) | (simp [*, errW_none, errW_some] <;> rfl), by repeat (first | (with_reducible first | exact HB.out | apply below_alloc | apply pw_below_drewN | apply below_drew1 | refine below_set ?_ (IsS78.ge HI379.out) | refine below_set ?_ GE374.out | refine below_set ?_ GE375.out | refine below_set ?_ GE384.out) | exact HB.out)⟩

/-! ### impl_MeetRanges: function 15 -/
def impl_MeetRanges.f (a0_0 : Int) (a0_1 : Int) (a1_0 : Int) (a1_1 : Int) : Option (Int × Int) := (impl_IsRange.f a0_0 a0_1).bind fun t392 => (if t392 = true then ((impl_IsRange.f a1_0 a1_1).bind fun t393 => (if t393 = true then (some (mx a0_0 a1_0, mx (mx a0_0 a1_0) (mn a0_1 a1_1))) else (some (0, 0)))) else (some (0, 0)))
set_option maxHeartbeats 8000000 in
set_option maxRecDepth 100000 in
theorem impl_MeetRanges.calls (a0_0 : Int) (a0_1 : Int) (a1_0 : Int) (a1_1 : Int) (r1 : Int) (r2 : Int) (w : World) (h : impl_MeetRanges.f a0_0 a0_1 a1_0 a1_1 = some (r1, r2)) :
    Calls Tryz.prog 15 #[.agg #[.int .i64 a0_0, .int .i64 a0_1], .agg #[.int .i64 a1_0, .int .i64 a1_1]] w fun e w' => e = .returned (.agg #[.int .i64 r1, .int .i64 r2]) ∧ Below w.heap.size w w' := by
  have hu32 := Tryz.underlying32
  have HB := Aside0.mk (Below.refl w.heap.size w)
  have H : ((impl_IsRange.f a0_0 a0_1).bind fun t392 => (if t392 = true then ((impl_IsRange.f a1_0 a1_1).bind fun t393 => (if t393 = true then (some (mx a0_0 a1_0, mx (mx a0_0 a1_0) (mn a0_1 a1_1))) else (some (0, 0)))) else (some (0, 0)))) = some (r1, r2) := h
  clear h
  revert H; refine bo ?_; rintro t392 A3 H
  by_cases c4 : t392 = true
  · subst c4
    rw [if_pos rfl] at H
    revert H; refine bo ?_; rintro t393 A5 H
    by_cases c6 : t393 = true
    · subst c6
      rw [if_pos rfl] at H
      obtain ⟨ji7, hji7⟩ : ∃ j_ : Int, (mx a0_0 a1_0) = j_ := ⟨_, rfl⟩
      replace H : (some (ji7, mx (ji7) (mn a0_1 a1_1))) = some (r1, r2) := by first | (rw [hji7] at H; exact H) | (simp only [hji7] at H ⊢; exact H)
      (try rw [hji7] at A3)
      (try rw [hji7] at A5)
      have hji7_ : (if a0_0 < a1_0 then a1_0 else a0_0) = ji7 := hji7
      obtain ⟨ji8, hji8⟩ : ∃ j_ : Int, (mn a0_1 a1_1) = j_ := ⟨_, rfl⟩
      replace H : (some (ji7, mx (ji7) (ji8))) = some (r1, r2) := by first | (rw [hji8] at H; exact H) | (simp only [hji8] at H ⊢; exact H)
      (try rw [hji8] at A3)
      (try rw [hji8] at A5)
      have hji8_ : (if a1_1 < a0_1 then a1_1 else a0_1) = ji8 := hji8
      obtain ⟨ji9, hji9⟩ : ∃ j_ : Int, (mx (ji7) (ji8)) = j_ := ⟨_, rfl⟩
      replace H : (some (ji7, ji9)) = some (r1, r2) := by first | (rw [hji9] at H; exact H) | (simp only [hji9] at H ⊢; exact H)
      (try rw [hji9] at A3)
      (try rw [hji9] at A5)
      have hji9_ : (if (ji7) < (ji8) then (ji8) else (ji7)) = ji9 := hji9
      simp only [Option.some.injEq, Prod.mk.injEq] at H
      obtain ⟨rfl, rfl⟩ := H
      go_enter Tryz.func15, Tryz.ntmps15
      go_wp2_with (first | ((with_reducible refine gate_dst (N := 2) rfl ?_); refine bx 2 #[.int .i64 a0_0, .int .i64 a0_1] 32 ?_; intro gb389 hg w10 hbox hb; have BK389 := mk hbox; have GW389 := wg hg; have GE389 := wg hg; replace HB := wh hb; clear hb hbox hg) | ((with_reducible refine gate_dst (N := 3) rfl ?_); refine bx 3 #[.int .i64 a1_0, .int .i64 a1_1] 32 ?_; intro gb390 hg w11 hbox hb; have BK390 := mk hbox; have GW390 := wg hg; have GE390 := wg hg; replace HB := wh hb; have NB389_390 := nl BK389 hg; have NB390_389 := nr BK389 hg; replace BK389 := wb BK389 hb; clear hb hbox hg) | ((with_reducible refine gate_dst (N := 4) rfl ?_); refine bx 4 #[.int .i64 0, .int .i64 0] 32 ?_; intro gb391 hg w12 hbox hb; have BK391 := mk hbox; have GW391 := wg hg; have GE391 := wg hg; replace HB := wh hb; have NB389_391 := nl BK389 hg; have NB391_389 := nr BK389 hg; replace BK389 := wb BK389 hb; have NB390_391 := nl BK390 hg; have NB391_390 := nr BK390 hg; replace BK390 := wb BK390 hb; clear hb hbox hg; have hnb13 := NB389_390.out; have hnc13 := NB390_389.out; have hnb14 := NB389_391.out; have hnc14 := NB391_389.out; obtain ⟨hcz15_0, hcz15_1, hfz15_0, hfz15_1⟩ := bz2 BK389) | ((with_reducible refine gate_callee (f := 37) rfl ?_); refine gl (some 7) rfl Tryz.func37 #[.agg #[.int .i64 a0_0, .int .i64 a0_1]] ?_; (with_reducible refine (impl_IsRange.calls a0_0 a0_1 true _ A3.out).mono ?_); rintro e w16 ⟨rfl, hb⟩; refine ⟨_, rfl, ?_⟩; replace BK389 := wb BK389 hb; replace BK390 := wb BK390 hb; replace BK391 := wb BK391 hb; replace HB := wh hb; (try clear hb); (try clear hb2); (try clear hk); (try clear hi); have hnb17 := NB390_391.out; have hnc17 := NB391_390.out; obtain ⟨hcz18_0, hcz18_1, hfz18_0, hfz18_1⟩ := bz2 BK390) | (go_at_call 37; (with_reducible refine (impl_IsRange.calls a1_0 a1_1 true _ A5.out).mono ?_); rintro e w19 ⟨rfl, hb⟩; replace BK389 := wb BK389 hb; replace BK390 := wb BK390 hb; replace BK391 := wb BK391 hb; replace HB := wh hb; (try clear hb); (try clear hb2); (try clear hk); (try clear hi); obtain ⟨hcz20_0, hcz20_1, hfz20_0, hfz20_1⟩ := bz2 BK389; obtain ⟨hcz21_0, hcz21_1, hfz21_0, hfz21_1⟩ := bz2 BK390; obtain ⟨hcz22_0, hcz22_1, hfz22_0, hfz22_1⟩ := bz2 BK391))
      refine bodyPost_ret (results_cell_row rfl _ _ gb391 32 #[.int .i64 ji7, .int .i64 ji9] (0, 0) _ rfl bq Tryz.underlying32 rfl (by kernel_rfl)) rfl ?_
      exact ⟨by first | rfl | (simp [errW_none, errW_some] <;> rfl) | (simp only [← hji7, ← hji8, ← hji9]; first | rfl | (simp [errW_none, errW_some] <;> rfl)) | (simp [*, errW_none, errW_some] <;> rfl), bl⟩
    · replace c6 := Bool.eq_false_iff.mpr c6
      subst c6
      rw [if_neg nf] at H
      simp only [Option.some.injEq, Prod.mk.injEq] at H
      obtain ⟨rfl, rfl⟩ := H
      go_enter Tryz.func15, Tryz.ntmps15
      go_wp2_with (first | ((with_reducible refine gate_dst (N := 2) rfl ?_); refine bx 2 #[.int .i64 a0_0, .int .i64 a0_1] 32 ?_; intro gb389 hg w23 hbox hb; have BK389 := mk hbox; have GW389 := wg hg; have GE389 := wg hg; replace HB := wh hb; clear hb hbox hg) | ((with_reducible refine gate_dst (N := 3) rfl ?_); refine bx 3 #[.int .i64 a1_0, .int .i64 a1_1] 32 ?_; intro gb390 hg w24 hbox hb; have BK390 := mk hbox; have GW390 := wg hg; have GE390 := wg hg; replace HB := wh hb; have NB389_390 := nl BK389 hg; have NB390_389 := nr BK389 hg; replace BK389 := wb BK389 hb; clear hb hbox hg) | ((with_reducible refine gate_dst (N := 4) rfl ?_); refine bx 4 #[.int .i64 0, .int .i64 0] 32 ?_; intro gb391 hg w25 hbox hb; have BK391 := mk hbox; have GW391 := wg hg; have GE391 := wg hg; replace HB := wh hb; have NB389_391 := nl BK389 hg; have NB391_389 := nr BK389 hg; replace BK389 := wb BK389 hb; have NB390_391 := nl BK390 hg; have NB391_390 := nr BK390 hg; replace BK390 := wb BK390 hb; clear hb hbox hg; have hnb26 := NB389_390.out; have hnc26 := NB390_389.out; have hnb27 := NB389_391.out; have hnc27 := NB391_389.out; obtain ⟨hcz28_0, hcz28_1, hfz28_0, hfz28_1⟩ := bz2 BK389) | ((with_reducible refine gate_callee (f := 37) rfl ?_); refine gl (some 7) rfl Tryz.func37 #[.agg #[.int .i64 a0_0, .int .i64 a0_1]] ?_; (with_reducible refine (impl_IsRange.calls a0_0 a0_1 true _ A3.out).mono ?_); rintro e w29 ⟨rfl, hb⟩; refine ⟨_, rfl, ?_⟩; replace BK389 := wb BK389 hb; replace BK390 := wb BK390 hb; replace BK391 := wb BK391 hb; replace HB := wh hb; (try clear hb); (try clear hb2); (try clear hk); (try clear hi); have hnb30 := NB390_391.out; have hnc30 := NB391_390.out; obtain ⟨hcz31_0, hcz31_1, hfz31_0, hfz31_1⟩ := bz2 BK390) | (go_at_call 37; (with_reducible refine (impl_IsRange.calls a1_0 a1_1 false _ A5.out).mono ?_); rintro e w32 ⟨rfl, hb⟩; replace BK389 := wb BK389 hb; replace BK390 := wb BK390 hb; replace BK391 := wb BK391 hb; replace HB := wh hb; (try clear hb); (try clear hb2); (try clear hk); (try clear hi); obtain ⟨hcz33_0, hcz33_1, hfz33_0, hfz33_1⟩ := bz2 BK391))
      refine bodyPost_ret (results_cell_row rfl _ _ gb391 32 #[.int .i64 0, .int .i64 0] (0, 0) _ rfl bq Tryz.underlying32 rfl (by kernel_rfl)) rfl ?_
      exact ⟨by first | rfl | (simp [errW_none, errW_some] <;> rfl) | (simp [*, errW_none, errW_some] <;> rfl), bl⟩
  · replace c4 := Bool.eq_false_iff.mpr c4
    subst c4
    rw [if_neg nf] at H
    simp only [Option.some.injEq, Prod.mk.injEq] at H
    obtain ⟨rfl, rfl⟩ := H
    go_enter Tryz.func15, Tryz.ntmps15
    go_wp2_with (first | ((with_reducible refine gate_dst (N := 2) rfl ?_); refine bx 2 #[.int .i64 a0_0, .int .i64 a0_1] 32 ?_; intro gb389 hg w34 hbox hb; have BK389 := mk hbox; have GW389 := wg hg; have GE389 := wg hg; replace HB := wh hb; clear hb hbox hg) | ((with_reducible refine gate_dst (N := 3) rfl ?_); refine bx 3 #[.int .i64 a1_0, .int .i64 a1_1] 32 ?_; intro gb390 hg w35 hbox hb; have BK390 := mk hbox; have GW390 := wg hg; have GE390 := wg hg; replace HB := wh hb; have NB389_390 := nl BK389 hg; have NB390_389 := nr BK389 hg; replace BK389 := wb BK389 hb; clear hb hbox hg) | ((with_reducible refine gate_dst (N := 4) rfl ?_); refine bx 4 #[.int .i64 0, .int .i64 0] 32 ?_; intro gb391 hg w36 hbox hb; have BK391 := mk hbox; have GW391 := wg hg; have GE391 := wg hg; replace HB := wh hb; have NB389_391 := nl BK389 hg; have NB391_389 := nr BK389 hg; replace BK389 := wb BK389 hb; have NB390_391 := nl BK390 hg; have NB391_390 := nr BK390 hg; replace BK390 := wb BK390 hb; clear hb hbox hg; have hnb37 := NB389_390.out; have hnc37 := NB390_389.out; have hnb38 := NB389_391.out; have hnc38 := NB391_389.out; obtain ⟨hcz39_0, hcz39_1, hfz39_0, hfz39_1⟩ := bz2 BK389) | ((with_reducible refine gate_callee (f := 37) rfl ?_); refine gl (some 7) rfl Tryz.func37 #[.agg #[.int .i64 a0_0, .int .i64 a0_1]] ?_; (with_reducible refine (impl_IsRange.calls a0_0 a0_1 false _ A3.out).mono ?_); rintro e w40 ⟨rfl, hb⟩; refine ⟨_, rfl, ?_⟩; replace BK389 := wb BK389 hb; replace BK390 := wb BK390 hb; replace BK391 := wb BK391 hb; replace HB := wh hb; (try clear hb); (try clear hb2); (try clear hk); (try clear hi); have hnb41 := NB391_390.out; have hnc41 := NB390_391.out; obtain ⟨hcz42_0, hcz42_1, hfz42_0, hfz42_1⟩ := bz2 BK391))
    refine bodyPost_ret (results_cell_row rfl _ _ gb391 32 #[.int .i64 0, .int .i64 0] (0, 0) _ rfl bq Tryz.underlying32 rfl (by kernel_rfl)) rfl ?_
    exact ⟨by first | rfl | (simp [errW_none, errW_some] <;> rfl) | (simp [*, errW_none, errW_some] <;> rfl), bl⟩

/-! ### spec_DrawInRange: function 16 -/
def spec_DrawInRange.f (k : Nat) (l0 : List Int) : Option (Int × Int × Int) := (spec_l1New.f k l0).bind fun bt395 => ((spec_l3Any.f bt395.1 bt395.2.1 bt395.2.2).bind fun bt399 => ((spec_l1Below.f bt395.1 bt399.2.2.1 bt399.2.2.2 20).bind fun bt404 => (some (bt399.1, bt399.2.1, wrap64 ((wrap64 (bt399.1 + bt404.1)) - 5)))))
theorem spec_DrawInRange.mono : ∀ a0 k, LeO (spec_DrawInRange.f k a0) (spec_DrawInRange.f (k + 1) a0) := by
  intro a0 k
  unfold spec_DrawInRange.f
  exact mo
instance spec_DrawInRange.mi (a0 k) : LeC (spec_DrawInRange.f k a0) (spec_DrawInRange.f (k + 1) a0) := ⟨spec_DrawInRange.mono a0 k⟩
def spec_DrawInRange.T3 : Bool × List (List Nat × List Nat) := (true, [([], []), ([], []), ([1], [1]), ([], []), ([3], [3]), ([2, 4], [2, 4]), ([5], [5]), ([0, 4, 0], [0]), ([6, 7, 0, 1, 2, 3, 4, 5, 6, 7], [6])])
def spec_DrawInRange.B3 : List Nat := [0, 0, 2, 0, 8, 30, 62, 25, 255]
theorem spec_DrawInRange.tab3 : rtab .any (opsOf Tryz.f16 3) = spec_DrawInRange.T3 := by kernel_rfl
theorem spec_DrawInRange.bits3 : waitsOk spec_DrawInRange.T3.2 spec_DrawInRange.B3 = true := by kernel_rfl
set_option maxHeartbeats 8000000 in
set_option maxRecDepth 100000 in
theorem spec_DrawInRange.calls (k : Nat) (A0 : Option Addr) (c0 : Nat) (l0 : List Int) (r1 : Int) (r2 : Int) (r3 : Int) (w : World) (hr0 : Kd.C (Kd.int .u8) w A0 l0.length l0) (hc0 : l0.length ≤ c0) (h : spec_DrawInRange.f k l0 = some (r1, r2, r3)) :
    Calls Tryz.prog 16 #[.slice A0 l0.length c0] w fun e w' => e = .returned (.tuple #[.agg #[.int .i64 r1, .int .i64 r2], .int .i64 r3]) ∧ Below w.heap.size w w' := by
  have hu32 := Tryz.underlying32
  have HR0 := Aside0.mk hr0
  have HC0 := Aside0.mk hc0
  clear hr0 hc0
  have HB := Aside0.mk (Below.refl w.heap.size w)
  have H : ((spec_l1New.f k l0).bind fun bt395 => ((spec_l3Any.f bt395.1 bt395.2.1 bt395.2.2).bind fun bt399 => ((spec_l1Below.f bt395.1 bt399.2.2.1 bt399.2.2.2 20).bind fun bt404 => (some (bt399.1, bt399.2.1, wrap64 ((wrap64 (bt399.1 + bt404.1)) - 5)))))) = some (r1, r2, r3) := h
  clear h
  revert H; refine bo ?_; rintro ⟨t395, t396, t397⟩ A2 H
  dsimp only at H
  revert H; refine bo ?_; rintro ⟨t399, t400, t401, t402⟩ A3 H
  dsimp only at H
  revert H; refine bo ?_; rintro ⟨t404, t405, t406⟩ A4 H
  dsimp only at H
  simp only [Option.some.injEq, Prod.mk.injEq] at H
  obtain ⟨rfl, rfl, rfl⟩ := H
  go_enter Tryz.func16, Tryz.ntmps16
  try go_wp2_with (first | ((with_reducible refine gate_dst (N := 2) rfl ?_); refine bx 2 #[.int .i64 0, .int .i64 0] 32 ?_; intro gb394 hg w5 hbox hb; have BK394 := mk hbox; have GW394 := wg hg; have GE394 := wg hg; replace HB := wh hb; clear hb hbox hg) | ((with_reducible refine gate_callee (f := 29) rfl ?_); refine gl (some 7) rfl Tryz.func29 #[.slice A0 l0.length c0] ?_; (with_reducible refine (spec_l1New.calls k _ _ l0 t395 t396 t397 w _ ?side1 ?side2 ?side3 A2.out).mono ?_); (case side1 => exact bl); (case side2 => exact HR0.out); (case side3 => exact HC0.out); rintro e w6 ⟨g398, rfl, hi, hb, hb2⟩; refine ⟨_, rfl, ?_⟩; replace HB := mk hb; have HI398 := mk hi; have NB398_394 := mk (IsS78.ne_blk hi (blk_below (g := gb394) (o := .cells #[.int .i64 0, .int .i64 0] 32 (0, 0)) (ub BK394.out) hb2) (by decide)); have NB394_398 := mk (Ne.symm (IsS78.ne_blk hi (blk_below (g := gb394) (o := .cells #[.int .i64 0, .int .i64 0] 32 (0, 0)) (ub BK394.out) hb2) (by decide))); replace BK394 := mk (blk_below (g := gb394) (o := .cells #[.int .i64 0, .int .i64 0] 32 (0, 0)) (ub BK394.out) hb2); (try clear hb); (try clear hb2); (try clear hk); (try clear hi)) | ((with_reducible refine gate_callee (f := 35) rfl ?_); refine gl (some 9) rfl Tryz.func35 #[.pointer (some ⟨g398, 0, none⟩)] ?_; (with_reducible refine (spec_l3Any.calls g398 t395 t396 t397 t399 t400 t401 t402 w _ ?side1 ?side2 A3.out).mono ?_); (case side1 => exact (by repeat (first | (with_reducible first | exact HI398.out | apply IsS78.alloc | apply IsS78.drewN | apply IsS78.drew | apply IsS78.set_1 | apply IsS78.set_2 | refine IsS78.far ?_ NB398_394.out _) | exact HI398.out))); (case side2 => exact (by repeat (first | (with_reducible first | exact HB.out | apply below_alloc | apply pw_below_drewN | apply below_drew1 | refine below_set ?_ (IsS78.ge HI398.out) | refine below_set ?_ GE394.out) | exact HB.out))); rintro e w7 ⟨rfl, hi, hb, hk⟩; refine ⟨_, rfl, ?_⟩; replace BK394 := mk (KeepBut.blk hk (g' := gb394) (o := .cells #[.int .i64 0, .int .i64 0] 32 (0, 0)) (ub BK394.out) NB394_398.out (by simp)); replace HB := mk hb; replace HI398 := mk hi; (try clear hb); (try clear hb2); (try clear hk); (try clear hi)) | ((with_reducible refine gate_dst (N := 5) rfl ?_); refine bx 5 #[.int .i64 0, .int .i64 0] 32 ?_; intro gb403 hg w8 hbox hb; have BK403 := mk hbox; have GW403 := mk ((by rw [hg]; exact (below_size (by repeat (first | (with_reducible first | exact HB.out | apply below_alloc | apply pw_below_drewN | apply below_drew1 | refine below_set ?_ (IsS78.ge HI398.out) | refine below_set ?_ GE394.out) | exact HB.out))) : w.heap.size ≤ gb403)); have GE403 := mk ((by rw [hg]; exact (below_size (by repeat (first | (with_reducible first | exact HB.out | apply below_alloc | apply pw_below_drewN | apply below_drew1 | refine below_set ?_ (IsS78.ge HI398.out) | refine below_set ?_ GE394.out) | exact HB.out))) : w.heap.size ≤ gb403)); replace HB := mk (below_step (by repeat (first | (with_reducible first | exact HB.out | apply below_alloc | apply pw_below_drewN | apply below_drew1 | refine below_set ?_ (IsS78.ge HI398.out) | refine below_set ?_ GE394.out) | exact HB.out)) hb); have NB394_403 := nl BK394 hg; have NB403_394 := nr BK394 hg; replace BK394 := wb BK394 hb; have NB398_403 := mk ((by rw [hg]; exact Nat.ne_of_lt (IsS78.lt (show IsS78 w _ g398 t395 t401 t402 from by repeat (first | (with_reducible first | exact HI398.out | apply IsS78.alloc | apply IsS78.drewN | apply IsS78.drew | apply IsS78.set_1 | apply IsS78.set_2 | refine IsS78.far ?_ NB398_394.out _) | exact HI398.out))) : g398 ≠ gb403)); have NB403_398 := mk ((by rw [hg]; exact Nat.ne_of_gt (IsS78.lt (show IsS78 w _ g398 t395 t401 t402 from by repeat (first | (with_reducible first | exact HI398.out | apply IsS78.alloc | apply IsS78.drewN | apply IsS78.drew | apply IsS78.set_1 | apply IsS78.set_2 | refine IsS78.far ?_ NB398_394.out _) | exact HI398.out))) : gb403 ≠ g398)); replace HI398 := mk (IsS78.below (by repeat (first | (with_reducible first | exact HI398.out | apply IsS78.alloc | apply IsS78.drewN | apply IsS78.drew | apply IsS78.set_1 | apply IsS78.set_2 | refine IsS78.far ?_ NB398_394.out _) | exact HI398.out)) hb); clear hb hbox hg; have hnb9 := NB403_394.out; have hnc9 := NB394_403.out; have hnb10 := NB403_398.out; have hnc10 := NB398_403.out; obtain ⟨hcz11_0, hcz11_1, hfz11_0, hfz11_1⟩ := bz2 BK403))
  have n0_ : Aside0 (((w8.setCell ⟨gb403, 0, none⟩ (.int .i64 t399)).setCell ⟨gb403, 1, none⟩ (.int .i64 t400)).heap[gb394]? = some (.cells #[.int .i64 0, .int .i64 0] 32 (0, 0))) := ⟨bq⟩
  have n1_ : Aside0 (((w8.setCell ⟨gb403, 0, none⟩ (.int .i64 t399)).setCell ⟨gb403, 1, none⟩ (.int .i64 t400)).heap[gb403]? = some (.cells #[.int .i64 t399, .int .i64 t400] 32 (0, 0))) := ⟨bq⟩
  have n2_ : Aside0 (IsS78 w ((w8.setCell ⟨gb403, 0, none⟩ (.int .i64 t399)).setCell ⟨gb403, 1, none⟩ (.int .i64 t400)) g398 t395 t401 t402) := ⟨by repeat (first | (with_reducible first | exact HI398.out | apply IsS78.alloc | apply IsS78.drewN | apply IsS78.drew | apply IsS78.set_1 | apply IsS78.set_2 | refine IsS78.far ?_ NB398_394.out _ | refine IsS78.far ?_ NB398_403.out _) | exact HI398.out)⟩
  have n3_ : Aside0 (Below w.heap.size w ((w8.setCell ⟨gb403, 0, none⟩ (.int .i64 t399)).setCell ⟨gb403, 1, none⟩ (.int .i64 t400))) := ⟨by repeat (first | (with_reducible first | exact HB.out | apply below_alloc | apply pw_below_drewN | apply below_drew1 | refine below_set ?_ (IsS78.ge HI398.out) | refine below_set ?_ GE394.out | refine below_set ?_ GE403.out) | exact HB.out)⟩
  (try clear BK394)
  (try clear BK403)
  (try clear HI398)
  (try clear HB)
  generalize ((w8.setCell ⟨gb403, 0, none⟩ (.int .i64 t399)).setCell ⟨gb403, 1, none⟩ (.int .i64 t400)) = w12 at n0_ n1_ n2_ n3_ ⊢
  have BK394 := n0_
  have BK403 := n1_
  have HI398 := n2_
  have HB := n3_
  clear n0_ n1_ n2_ n3_
  replace BK394 := wd BK394
  replace BK403 := wd BK403
  replace HI398 := mk (IsS78.drew HI398.out)
  replace HB := mk (below_drew1 HB.out)
  refine start_ (n := 9) (S := fun w' => w'.cell? ⟨gb403, 0, none⟩ = some (.int .i64 t399) ∧ w'.cell? ⟨gb403, 1, none⟩ = some (.int .i64 t400)) (ds := []) #[false, false, false, false, false, false, false, false, false] (by kernel_rfl) rfl rfl ⟨bc BK403 0, bc BK403 1⟩ (fun hHeld => ?_); refine with_tabW spec_DrawInRange.tab3 spec_DrawInRange.bits3 (fun HT_ HW_ => ?_)
  generalize w12.drew = w13 at BK394 BK403 HI398 HB hHeld ⊢
  refine pu 1 11 #[F_,T_,F_,F_,F_,F_,F_,F_,F_] ?_
  refine pu 3 13 #[F_,T_,F_,T_,F_,F_,F_,F_,F_] ?_
  refine tk 0 10 #[T_,T_,F_,T_,F_,F_,F_,F_,F_] hHeld ?_
  refine tk 2 12 (tf 4 5) hHeld ?_
  refine on 4 14 (tf 5 4) (fun K hK => ?_)
  refine gs Tryz.func43 #[.pointer (some ⟨g398, 0, none⟩), .int .i64 20] ?_
  with_reducible refine (spec_l1Below.calls g398 t395 t401 t402 20 t404 t405 t406 w _ ?side1 ?side2 A4.out).mono ?_
  (case side1 => exact (by repeat (first | (with_reducible first | exact HI398.out | apply IsS78.alloc | apply IsS78.drewN | apply IsS78.drew | apply IsS78.set_1 | apply IsS78.set_2 | refine IsS78.far ?_ NB398_394.out _ | refine IsS78.far ?_ NB398_403.out _) | exact HI398.out)))
  (case side2 => exact (by repeat (first | (with_reducible first | exact HB.out | apply below_alloc | apply pw_below_drewN | apply below_drew1 | refine below_set ?_ (IsS78.ge HI398.out) | refine below_set ?_ GE394.out | refine below_set ?_ GE403.out) | exact HB.out)))
  rintro e w14 ⟨rfl, hi, hb, hk⟩
  refine ⟨_, rfl, ?_⟩
  replace BK394 := mk (KeepBut.blk hk (g' := gb394) (o := .cells #[.int .i64 0, .int .i64 0] 32 (0, 0)) (ub BK394.out) NB394_398.out (by simp))
  replace BK403 := mk (KeepBut.blk hk (g' := gb403) (o := .cells #[.int .i64 t399, .int .i64 t400] 32 (0, 0)) (ub BK403.out) NB403_398.out (by simp))
  replace HB := mk hb
  replace HI398 := mk hi
  (try clear hb)
  (try clear hb2)
  (try clear hk)
  (try clear hi)
  refine hK.out _ _ ⟨bc BK403 0, bc BK403 1⟩ (fun hHeld => ?_)
  clear hK K
  refine nm 14 ?_
  refine pu 5 15 (tf 6 3) ?_
  refine pu 6 16 (tf 7 2) ?_
  refine one_ (i := 7) (N := none) #[true, true, true, true, true, true, true, true, false] rfl rfl (one_of HT_.out (by kernel_rfl)) (by decide) (fun K hK => ?_)
  have hs15 : w14.cell? ⟨gb394, 0, none⟩ = some (.int .i64 0) := (blk_cell BK394.out 0).trans rfl
  have hfs15 := blk_frozen BK394.out 0
  have hns15_1 := NB403_394.out
  have hms15_1 := NB394_403.out
  have hs16 : w14.cell? ⟨gb394, 1, none⟩ = some (.int .i64 0) := (blk_cell BK394.out 1).trans rfl
  have hfs16 := blk_frozen BK394.out 1
  have hns16_1 := NB403_394.out
  have hms16_1 := NB394_403.out
  refine skip_ (w1 := ?_) (by rfl) rfl ?_ ?_
  rotate_left
  · go_simp
    rfl
  refine hK.out _ _ ⟨((cell_far (p := ⟨gb394, _, none⟩) NB403_394.out _).trans (((cell_far (p := ⟨gb394, _, none⟩) NB403_394.out _).trans (hHeld.1)))), ((cell_far (p := ⟨gb394, _, none⟩) NB403_394.out _).trans (((cell_far (p := ⟨gb394, _, none⟩) NB403_394.out _).trans (hHeld.2))))⟩ (fun hHeld => ?_)
  clear hK K
  refine pu 8 3 (tf 9 0) ?_
  refine done_ (done_of HT_.out (by kernel_rfl)) ?_
  try go_wp2
  refine bodyPost_ret (results_ct rfl _ _ gb394 32 #[.int .i64 t399, .int .i64 t400] (0, 0) _ rfl bq Tryz.underlying32 rfl (by kernel_rfl)) rfl ?_
  exact ⟨by first | rfl | (simp [errW_none, errW_some] <;> rfl) | (simp [*, errW_none, errW_some] <;> rfl), by repeat (first | (with_reducible first | exact HB.out | apply below_alloc | apply pw_below_drewN | apply below_drew1 | refine below_set ?_ (IsS78.ge HI398.out) | refine below_set ?_ GE394.out | refine below_set ?_ GE403.out) | exact HB.out)⟩

end Go.Proofs.YtfjanffppobheaaGreatDoor.PFnTexts
