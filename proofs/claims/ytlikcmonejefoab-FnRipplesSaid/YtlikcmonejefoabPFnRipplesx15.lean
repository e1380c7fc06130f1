-- printed by a program of this session, a turned copy of the print of the kit
import Derived.Test.YtlikcmonejefoabSr
import Derived.Test.YtlikcmonejefoabPFnRipplesx0
import Derived.Test.YtlikcmonejefoabPFnRipplesx2
import Derived.Test.YtlikcmonejefoabPFnRipplesx5
namespace Go.Proofs.Ytlikcmonejefoab.PFnRipples
open Go.RowKit Go.Proofs.YtlikcmonejefoabW.PrintWords Go.Proofs.YtlikcmonejefoabW.PrintLast Go.Proofs.YtlikcmonejefoabW.PrintMore Go.Proofs.Ytlikcmonejefoab.Sq
attribute [local go_sem] max2_int min2_int max_two min_two max_three min_three max_four min_four Giv.cell_twice   -- for this text's walks alone
set_option linter.unusedVariables false
set_option linter.unusedSimpArgs false

/-! ### spec_Partition: function 76 -/
mutual
def spec_Partition.j0 : Nat → List Int → Int → Int → Int → List (S105) → Bool → Option ((List (S105)) × Int)
  | 0, _, _, _, _, _, _ => none
  | k + 1, x0, x1, x2, x3, x10, x23 => if x23 = true then (some (x10, 0)) else (spec_Partition.l0 k x0 x3 x10 x1 (wrap64 (x2 - 1)))
def spec_Partition.l0 : Nat → List Int → Int → List (S105) → Int → Int → Option ((List (S105)) × Int)
  | 0, _, _, _, _, _ => none
  | k + 1, x0, x3, x10, x11, x12 => if x11 ≤ x12 then (if 0 ≤ x11 then (if x11 < (x0.length : Int) then (if (rd x0 x11) < x3 then (spec_Partition.l0 k x0 x3 x10 (wrap64 (x11 + 1)) x12) else (if 0 ≤ x12 then (if x12 < (x0.length : Int) then (if (rd x0 x12) ≥ x3 then (spec_Partition.l0 k x0 x3 x10 x11 (wrap64 (x12 - 1))) else (if x10.length < 8796093022208 then (spec_Partition.l0 k x0 x3 (x10 ++ [(⟨x11, x12⟩ : S105)]) (wrap64 (x11 + 1)) (wrap64 (x12 - 1))) else (none))) else (none)) else (none))) else (none)) else (none)) else (some (x10, x11))
end
def spec_Partition.f (k : Nat) (l0 : List Int) (a1 : Int) (a2 : Int) (a3 : Int) : Option ((List (S105)) × Int) := (some (([] : List (S105)) : List (S105))).bind fun g4 => ((spec_l1In.f a1 0 a2).bind fun m6 => (if m6 = true then (spec_Partition.j0 k l0 a1 a2 a3 g4 (decide (a2 > (l0.length : Int)))) else (spec_Partition.j0 k l0 a1 a2 a3 g4 true)))
theorem spec_Partition.mono_l : ∀ k, (∀ y0 y1 y2 y3 y4 y5, LeO (spec_Partition.j0 k y0 y1 y2 y3 y4 y5) (spec_Partition.j0 (k + 1) y0 y1 y2 y3 y4 y5)) ∧ (∀ y0 y1 y2 y3 y4, LeO (spec_Partition.l0 k y0 y1 y2 y3 y4) (spec_Partition.l0 (k + 1) y0 y1 y2 y3 y4))
  | 0 => ⟨fun _ _ _ _ _ _ r h => by simp [spec_Partition.j0] at h, fun _ _ _ _ _ r h => by simp [spec_Partition.l0] at h⟩
  | k + 1 => by
    obtain ⟨ih0, ih1⟩ := spec_Partition.mono_l k
    refine ⟨?_, ?_⟩
    · intro y0 y1 y2 y3 y4 y5
      unfold spec_Partition.j0
      exact mo
    · intro y0 y1 y2 y3 y4
      unfold spec_Partition.l0
      exact mo
theorem spec_Partition.mono : ∀ a0 a1 a2 a3 k, LeO (spec_Partition.f k a0 a1 a2 a3) (spec_Partition.f (k + 1) a0 a1 a2 a3) := by
  intro a0 a1 a2 a3 k
  obtain ⟨ih0, ih1⟩ := spec_Partition.mono_l k
  unfold spec_Partition.f
  exact mo
instance spec_Partition.mi (a0 a1 a2 a3 k) : LeC (spec_Partition.f k a0 a1 a2 a3) (spec_Partition.f (k + 1) a0 a1 a2 a3) := ⟨spec_Partition.mono a0 a1 a2 a3 k⟩
set_option maxHeartbeats 8000000 in
set_option maxRecDepth 100000 in
theorem spec_Partition.calls (k : Nat) (A0 : Option Addr) (c0 : Nat) (l0 : List Int) (a1 : Int) (a2 : Int) (a3 : Int) (r1 : List (S105)) (r2 : Int) (w : World) (hr0 : Kd.C (Kd.int .i64) w A0 l0.length l0) (hc0 : l0.length ≤ c0) (h : spec_Partition.f k l0 a1 a2 a3 = some (r1, r2)) :
    Calls Try.prog 76 #[.slice A0 l0.length c0, .int .i64 a1, .int .i64 a2, .int .i64 a3] w fun e w' => ∃ v0_ : Value, e = .returned (.tuple #[v0_, .int .i64 r2]) ∧ Kd.R k105 105 w' w.heap.size (fun _ => True) v0_ r1 ∧ Below w.heap.size w w' := by
  have hu105 := Try.underlying105
  have HR0 := mk hr0
  have HC0 := mk hc0
  clear hr0 hc0
  have HB := mk (Below.refl w.heap.size w)
  have H : ((some (([] : List (S105)) : List (S105))).bind fun g4 => ((spec_l1In.f a1 0 a2).bind fun m6 => (if m6 = true then (spec_Partition.j0 k l0 a1 a2 a3 g4 (decide (a2 > (l0.length : Int)))) else (spec_Partition.j0 k l0 a1 a2 a3 g4 true)))) = some (r1, r2) := h
  clear h
  obtain ⟨g4, hy_⟩ : ∃ y_ : List (S105), y_ = (([] : List (S105))) := ⟨_, rfl⟩
  replace H : ((spec_l1In.f a1 0 a2).bind fun m6 => (if m6 = true then (spec_Partition.j0 k l0 a1 a2 a3 g4 (decide (a2 > (l0.length : Int)))) else (spec_Partition.j0 k l0 a1 a2 a3 g4 true))) = some (r1, r2) := hw
  have m9 := mk hy_
  clear hy_
  have HC5 := mk H
  clear H
  go_enter Try.func76, Try.ntmps76
  go_upto_region 2 with (first | ((with_reducible refine gate_dst (N := 13) rfl ?_); (try (refine gate_guard (by rfl) ?_; dsimp only)); refine Kd.R_lit k105 _ 105 ?hg (N := 13) ?hd (xs := ([] : List (S105))) (inner := []) (ok := fun _ => True) (okp := fun _ => True) ?hr ?hp (fun _ hk => hk) trivial (Below.refl _ _) (Nat.le_refl _) (by simp) ?_; (case hd => rfl); (case hg => rfl); (case hr => first | (go_simp; done) | (go_simp; rfl)); (case hp => exact (Reps.none _ _)); intro aa8 w6 ho7 hb hg_ hnew_; clear hg_ hnew_; (first | rw [← m9.out] at ho7 | (simp only [Int.reduceToNat] at ho7; rw [← m9.out] at ho7)); have z9 := lo ho7; replace HB := wh hb; clear hb ho7))
  (try simp only [Act.put, List.setIfInBounds_toArray, List.set_cons_zero, List.set_cons_succ])
  go_cut [23] (fun v23 wc => ∃ (kq : Nat) (g5 : Bool), v23 = .bool g5 ∧ Aside0 (spec_Partition.j0 kq l0 a1 a2 a3 g4 g5 = some (r1, r2)) ∧ Aside0 (kq ≤ k) ∧ Aside0 (Kd.R k105 105 wc w.heap.size (fun _ => True) aa8 g4) ∧ Aside0 (Below w.heap.size w wc))
  case first =>
    have H := HC5.out
    clear HC5
    revert H; refine bo ?_; rintro m6 A8 H
    by_cases c9 : m6 = true
    · subst c9
      rw [if_pos rfl] at H
      have H' := mk H
      clear H
      go_wp2_with (first | ((with_reducible refine gate_callee (f := 54) rfl ?_); refine gl (some 16) rfl Try.func54 #[.int .i64 a1, .int .i64 0, .int .i64 a2] ?_; (with_reducible refine (spec_l1In.calls a1 0 a2 true _ A8.out).mono ?_); rintro e w' ⟨rfl, ⟨nd, rfl⟩⟩; refine ⟨_, rfl, ?_⟩))
      go_meet
      case rel => exact ⟨_, (decide (a2 > (l0.length : Int))), (by first | rfl | (simp; done) | (simp [*]; done)), H', ⟨by first | omega | exact Nat.le_refl _⟩, ⟨up z9.out⟩, ⟨bl⟩⟩
    · replace c9 := Bool.eq_false_iff.mpr c9
      subst c9
      rw [if_neg nf] at H
      have H' := mk H
      clear H
      go_wp2_with (first | ((with_reducible refine gate_callee (f := 54) rfl ?_); refine gl (some 16) rfl Try.func54 #[.int .i64 a1, .int .i64 0, .int .i64 a2] ?_; (with_reducible refine (spec_l1In.calls a1 0 a2 false _ A8.out).mono ?_); rintro e w' ⟨rfl, ⟨nd, rfl⟩⟩; refine ⟨_, rfl, ?_⟩))
      go_meet
      case rel => exact ⟨_, (true), (by first | rfl | (simp; done) | (simp [*]; done)), H', ⟨by first | omega | exact Nat.le_refl _⟩, ⟨up z9.out⟩, ⟨bl⟩⟩
  case rest =>
    clear HC5
    try clear p2
    try clear c5
    try clear c7
    try clear c9
    obtain ⟨kq, g5, rfl, HA, HJ4, z3, HB⟩ := hcut
    cases kq with
    | zero => exact absurd HA.out (by simp [spec_Partition.j0])
    | succ kj4 =>
      have H := HA.out
      clear HA
      simp only [spec_Partition.j0] at H
      by_cases c10 : g5 = true
      · subst c10
        rw [if_pos rfl] at H
        simp only [Option.some.injEq, Prod.mk.injEq] at H
        obtain ⟨rfl, rfl⟩ := H
        go_wp2
        go_ret2
        exact ⟨_, rx, up z3.out, bl⟩
      · replace c10 := Bool.eq_false_iff.mpr c10
        subst c10
        rw [if_neg nf] at H
        have H' := mk H
        clear H
        go_wp2
        go_loopg [10, 11, 12] kj4 (fun kq v10 v11 v12 w' => ∃ (v3 : List (S105)) (s0 : Int) (v0 : Int), v11 = .int .i64 s0 ∧ v12 = .int .i64 v0 ∧ Aside0 (spec_Partition.l0 kq l0 a3 v3 s0 v0 = some (r1, r2)) ∧ Aside0 (kq ≤ kj4) ∧ Aside0 (Kd.R k105 105 w' w.heap.size (fun _ => True) v10 v3) ∧ Aside0 (Below w.heap.size w w'))
        case atStart => exact ⟨(g4), (a1), (wrap64 (a2 - 1)), (by first | rfl | (simp; done) | (simp [*]; done)), (by first | rfl | (simp; done) | (simp [*]; done)), H', ⟨Nat.le_refl _⟩, ⟨up z3.out⟩, ⟨bl⟩⟩
        case round =>
          clear H'
          try clear c1
          try clear p2
          try clear c5
          try clear p6
          try clear c7
          try clear c9
          try clear c10
          try clear p2
          obtain ⟨v3, s0, v0, rfl, rfl, HA, HK2, z3, HB⟩ := hrel
          cases gk with
          | zero => exact absurd HA.out (by simp [spec_Partition.l0])
          | succ k2 =>
            have H := HA.out
            clear HA
            simp only [spec_Partition.l0] at H
            by_cases c11 : s0 ≤ v0
            · rw [if_pos c11] at H
              have ya5 : decide (s0 ≤ v0) = true := decide_eq_true c11
              clear c11
              by_cases c12 : 0 ≤ s0
              · rw [if_pos c12] at H
                have qb3 : decide (0 ≤ s0) = true := decide_eq_true c12
                clear c12
                by_cases c13 : s0 < (l0.length : Int)
                · rw [if_pos c13] at H
                  have ob3 : decide (s0 < (l0.length : Int)) = true := decide_eq_true c13
                  clear c13
                  by_cases c14 : (rd l0 s0) < a3
                  · rw [if_pos c14] at H
                    have va5 : decide ((rd l0 s0) < a3) = true := decide_eq_true c14
                    clear c14
                    have H' := mk H
                    clear H
                    have o4 : 0 ≤ (s0 : Int) := dt
                    have m4 : s0 < (l0.length : Int) := dt
                    obtain ⟨q5, d9, o1⟩ := Kd.at_int HR0.out s0 o4 m4
                    cases d9
                    replace o1 := (HB.out.cell (World.block_lt_of_cell? w _ o1)).trans o1
                    replace o4 := eq_true o4
                    replace m4 := eq_true m4
                    go_wp2
                    go_roundg k2
                    case measure => have := HJ4.out; have := HK2.out; omega
                    case rel => exact ⟨(v3), (wrap64 (s0 + 1)), (v0), (by first | rfl | (simp; done) | (simp [*]; done)), (by first | rfl | (simp; done) | (simp [*]; done)), H', ⟨by have := HJ4.out; have := HK2.out; omega⟩, ⟨up z3.out⟩, ⟨bl⟩⟩
                  · rw [if_neg c14] at H
                    have va5 : decide ((rd l0 s0) < a3) = false := decide_eq_false c14
                    clear c14
                    by_cases c15 : 0 ≤ v0
                    · rw [if_pos c15] at H
                      have mb3 : decide (0 ≤ v0) = true := decide_eq_true c15
                      clear c15
                      by_cases c16 : v0 < (l0.length : Int)
                      · rw [if_pos c16] at H
                        have kb3 : decide (v0 < (l0.length : Int)) = true := decide_eq_true c16
                        clear c16
                        by_cases c17 : (rd l0 v0) ≥ a3
                        · rw [if_pos c17] at H
                          have j5 : decide (a3 ≤ (rd l0 v0)) = true := decide_eq_true c17
                          clear c17
                          have H' := mk H
                          clear H
                          have o4 : 0 ≤ (s0 : Int) := dt
                          have m4 : s0 < (l0.length : Int) := dt
                          obtain ⟨q5, d9, o1⟩ := Kd.at_int HR0.out s0 o4 m4
                          cases d9
                          replace o1 := (HB.out.cell (World.block_lt_of_cell? w _ o1)).trans o1
                          replace o4 := eq_true o4
                          replace m4 := eq_true m4
                          have q6 : 0 ≤ (v0 : Int) := dt
                          have o6 : v0 < (l0.length : Int) := dt
                          obtain ⟨g8, ma5, g2⟩ := Kd.at_int HR0.out v0 q6 o6
                          obtain rfl : q5 = g8 := (by injection ma5)
                          replace g2 := (HB.out.cell (World.block_lt_of_cell? w _ g2)).trans g2
                          replace q6 := eq_true q6
                          replace o6 := eq_true o6
                          go_wp2
                          go_roundg k2
                          case measure => have := HJ4.out; have := HK2.out; omega
                          case rel => exact ⟨(v3), (s0), (wrap64 (v0 - 1)), (by first | rfl | (simp; done) | (simp [*]; done)), (by first | rfl | (simp; done) | (simp [*]; done)), H', ⟨by have := HJ4.out; have := HK2.out; omega⟩, ⟨up z3.out⟩, ⟨bl⟩⟩
                        · rw [if_neg c17] at H
                          have j5 : decide (a3 ≤ (rd l0 v0)) = false := decide_eq_false c17
                          clear c17
                          by_cases c18 : v3.length < 8796093022208
                          · rw [if_pos c18] at H
                            have LMc18 := mk c18
                            clear c18
                            obtain ⟨ja7, hy_⟩ : ∃ y_ : List (S105), y_ = (v3 ++ [(⟨s0, v0⟩ : S105)]) := ⟨_, rfl⟩
                            replace H : (spec_Partition.l0 k2 l0 a3 ja7 (wrap64 (s0 + 1)) (wrap64 (v0 - 1))) = some (r1, r2) := hw
                            have ka6 := mk hy_
                            clear hy_
                            have H' := mk H
                            clear H
                            have o4 : 0 ≤ (s0 : Int) := dt
                            have m4 : s0 < (l0.length : Int) := dt
                            obtain ⟨q5, d9, o1⟩ := Kd.at_int HR0.out s0 o4 m4
                            cases d9
                            replace o1 := (HB.out.cell (World.block_lt_of_cell? w _ o1)).trans o1
                            replace o4 := eq_true o4
                            replace m4 := eq_true m4
                            have q6 : 0 ≤ (v0 : Int) := dt
                            have o6 : v0 < (l0.length : Int) := dt
                            obtain ⟨g8, ma5, g2⟩ := Kd.at_int HR0.out v0 q6 o6
                            obtain rfl : q5 = g8 := (by injection ma5)
                            replace g2 := (HB.out.cell (World.block_lt_of_cell? w _ g2)).trans g2
                            replace q6 := eq_true q6
                            replace o6 := eq_true o6
                            go_wp2_with (first | ((with_reducible refine gate_builtin (b := .append) (xs := #[.tmp 31, .tmp 35]) rfl ?_); (try (refine gate_guard (by rfl) ?_; dsimp only)); at_builtin; refine Kd.R_append k105 (w0 := w) w.heap.size rfl (.tmp 31) (.tmp 35) 88 105 (.agg #[(.int .i64 0), (.int .i64 0)]) 16 rfl Try.underlying88 info105 rfl (by decide) (by omega) u10 v3 (⟨s0, v0⟩ : S105) [.int .i64 s0, .int .i64 v0] (fun _ => True) (fun _ => False) rfl rfl ?aP (fun _ hk => hk.elim) ?aF ?aO ?aB ?aS ?aL ?_; (case aP => exact k105_mkM _ _ _ (⟨s0, v0⟩ : S105)); (case aB => exact bl); (case aF => exact (fun _ _ => trivial)); (case aO => exact (up z3.out)); (case aS => exact (below_size bl)); (case aL => have := LMc18.out; omega); intro sb4 w19 ho hb hg hat; rw [← ka6.out] at ho; replace HB := mk hb; have qa6 := mk ho; clear z3; clear ho hb hg hat))
                            go_roundg k2
                            case measure => have := HJ4.out; have := HK2.out; omega
                            case rel => exact ⟨(ja7), (wrap64 (s0 + 1)), (wrap64 (v0 - 1)), (by first | rfl | (simp; done) | (simp [*]; done)), (by first | rfl | (simp; done) | (simp [*]; done)), H', ⟨by have := HJ4.out; have := HK2.out; omega⟩, ⟨up qa6.out⟩, ⟨bl⟩⟩
                          · rw [if_neg c18] at H
                            exact absurd H (by simp)
                      · rw [if_neg c16] at H
                        exact absurd H (by simp)
                    · rw [if_neg c15] at H
                      exact absurd H (by simp)
                · rw [if_neg c13] at H
                  exact absurd H (by simp)
              · rw [if_neg c12] at H
                exact absurd H (by simp)
            · rw [if_neg c11] at H
              have ya5 : decide (s0 ≤ v0) = false := decide_eq_false c11
              clear c11
              simp only [Option.some.injEq, Prod.mk.injEq] at H
              obtain ⟨rfl, rfl⟩ := H
              go_wp2
              go_ret2
              exact ⟨_, rx, up z3.out, bl⟩

/-! ### spec_l5Swap: function 67 -/
def spec_l5Swap.f (l0 : List Int) (a1 : Int) (a2 : Int) : Option (List Int) := if 0 ≤ a1 then (if a1 < (l0.length : Int) then (if 0 ≤ a2 then (if a2 < (l0.length : Int) then (some ((l0.set (a1 : Int).toNat (rd l0 a2)).set (a2 : Int).toNat (rd l0 a1))) else (none)) else (none)) else (none)) else (none)
set_option maxHeartbeats 8000000 in
set_option maxRecDepth 100000 in
theorem spec_l5Swap.calls (P0_ : Nat → Prop) (u9000_ : Value) (l0 : List Int) (a1 : Int) (a2 : Int) (r : List Int) (w0 w : World) (hB : Below w0.heap.size w0 w) (ho0 : Kd.R (Kd.int .i64) 3 w w0.heap.size P0_ u9000_ l0) (h : spec_l5Swap.f l0 a1 a2 = some r) :
    Calls Try.prog 67 #[u9000_, .int .i64 a1, .int .i64 a2] w fun e w' => e = .returned (.tuple #[]) ∧ Kd.R (Kd.int .i64) 3 w' w0.heap.size (fun k_ => (P0_ k_ ∨ w.heap.size ≤ k_)) u9000_ r ∧ Below w0.heap.size w0 w' ∧ Kept w w' (fun k_ => P0_ k_) := by
  have HO0 := mk (show Kd.R (Kd.int .i64) 3 w w0.heap.size (fun k_ => (P0_ k_ ∨ w.heap.size ≤ k_)) u9000_ l0 from Kd.R_mono ho0 (fun k_ hk => (.inl hk)))
  have HK := mk (Kept.refl w (fun k_ => P0_ k_))
  have HW0 := mk hB.size
  have HB := mk hB
  clear hB
  have H : (if 0 ≤ a1 then (if a1 < (l0.length : Int) then (if 0 ≤ a2 then (if a2 < (l0.length : Int) then (some ((l0.set (a1 : Int).toNat (rd l0 a2)).set (a2 : Int).toNat (rd l0 a1))) else (none)) else (none)) else (none)) else (none)) = some r := h
  clear h
  by_cases c4 : 0 ≤ a1
  · rw [if_pos c4] at H
    have va0 : decide (0 ≤ a1) = true := decide_eq_true c4
    clear c4
    by_cases c5 : a1 < (l0.length : Int)
    · rw [if_pos c5] at H
      have gb5 : decide (a1 < (l0.length : Int)) = true := decide_eq_true c5
      clear c5
      by_cases c6 : 0 ≤ a2
      · rw [if_pos c6] at H
        have db5 : decide (0 ≤ a2) = true := decide_eq_true c6
        clear c6
        by_cases c7 : a2 < (l0.length : Int)
        · rw [if_pos c7] at H
          have bb5 : decide (a2 < (l0.length : Int)) = true := decide_eq_true c7
          clear c7
          obtain ⟨ya0, hy_⟩ : ∃ y_ : List Int, y_ = (l0.set (a1 : Int).toNat (rd l0 a2)) := ⟨_, rfl⟩
          replace H : (some (ya0.set (a2 : Int).toNat (rd l0 a1))) = some r := hw
          have ja6 := mk hy_
          clear hy_
          obtain ⟨ga7, hy_⟩ : ∃ y_ : List Int, y_ = (ya0.set (a2 : Int).toNat (rd l0 a1)) := ⟨_, rfl⟩
          replace H : (some ga7) = some r := hw
          have ga6 := mk hy_
          clear hy_
          obtain rfl := Option.some.inj H
          obtain ⟨mb5, qa7, gb2⟩ := Kd.R_slice HO0.out
          subst gb2
          have ga1 : 0 ≤ (a1 : Int) := dt
          have ba1 : a1 < (l0.length : Int) := dt
          obtain ⟨da6, ob2, v6⟩ := Kd.at_int (Kd.R_reads' HO0.out).2.2 a1 ga1 ba1
          cases ob2
          replace ga1 := eq_true ga1
          replace ba1 := eq_true ba1
          have da1 : 0 ≤ (a2 : Int) := dt
          have aa1 : a2 < (l0.length : Int) := dt
          obtain ⟨ba6, mb2, s6⟩ := Kd.at_int (Kd.R_reads' HO0.out).2.2 a2 da1 aa1
          obtain rfl : da6 = ba6 := (by injection mb2)
          replace da1 := eq_true da1
          replace aa1 := eq_true aa1
          have p8 : 0 ≤ (a1 : Int) := dt
          have q8 : (a1 : Int) < ((l0.length : Int) : Int) := dt
          obtain ⟨go8, co8, eo8, gb8, gl8, cl8, HG8⟩ := Kd.R_form HO0.out (by omega)
          (first | cases eo8 | (injection eo8 with ea_ en_ ec_; (first | subst ea_ | (injection ea_ with ea_; subst ea_)); subst ec_; clear en_))
          have GB8 := mk gb8
          have GG8 := mk HG8
          clear gb8 gl8 HG8
          have HMgo8 := mk (show (P0_ go8 ∨ w.heap.size ≤ go8) from (HO0.out.1 _ rfl))
          (first | simp only [add_plain] at v6 | skip)
          (first | simp only [add_plain] at s6 | skip)
          obtain ⟨ga8, ab1⟩ := Kd.R_celln 0 HO0.out (a1 : Int) p8 q8
          replace p8 := eq_true p8
          replace q8 := eq_true q8
          have oa6 := Kd.R_putg HO0.out (a1 : Int) (rd l0 a2)
          go_enter Try.func67, Try.ntmps67
          go_wp2_with (first | ((with_reducible refine gate_store (t := 3) (p := 17) rfl ?_); refine store_event (t := 3) (p := 17) (v := ?vo_w12) (w1 := (w.setCell ⟨go8, (a1 : Int).toNat, none⟩ (.int .i64 (rd l0 a2)))) ?hg ?ho ?hn ?hr ?_; (case ho => rfl); (case hg => rfl); (case hn => rfl); (case hr => first | (go_simp; done) | (go_simp; rfl)); intro w12 hw; have hg : w.grownBy w12 (some go8) := (by rw [hw]; exact oa6.2); have hp_ : Kd.R (Kd.int .i64) 3 w12 w0.heap.size (fun k_ => (P0_ k_ ∨ w.heap.size ≤ k_)) (.slice (some ⟨go8, 0, none⟩) l0.length qa7) ya0 := (by rw [hw, ja6.out]; exact oa6.1); clear oa6; replace HB := mk ((by rw [hw]; exact below_set (HB.out) GB8.out : Below w0.heap.size w0 w12)); replace HK := mk (Kept.of_grown (S := (fun k_ => P0_ k_)) hg (by repeat (first | (with_reducible first | exact HK.out | apply Kept.alloc | apply Kept.drewN | apply Kept.drew) | exact HK.out)) (fun k_ e_ => (HO0.out.1 k_ e_))); replace HO0 := mk hp_; clear hg hw hp_; have p9 : 0 ≤ (a2 : Int) := dt; have q9 : (a2 : Int) < ((l0.length : Int) : Int) := dt; obtain ⟨da8, zb0⟩ := Kd.R_celln 0 HO0.out (a2 : Int) p9 q9; replace p9 := eq_true p9; replace q9 := eq_true q9; obtain ⟨hy13_, hz13_⟩ := Kd.R_celln 0 HO0.out (a2 : Int) dt dt; have ma6 := Kd.R_putg HO0.out (a2 : Int) (rd l0 a1)) | ((with_reducible refine gate_store (t := 3) (p := 21) rfl ?_); refine store_event (t := 3) (p := 21) (v := ?vo_w14) (w1 := (w12.setCell ⟨go8, (a2 : Int).toNat, none⟩ (.int .i64 (rd l0 a1)))) ?hg ?ho ?hn ?hr ?_; (case ho => rfl); (case hg => rfl); (case hn => rfl); (case hr => first | (go_simp; done) | (go_simp; rfl)); intro w14 hw; have hg : w12.grownBy w14 (some go8) := (by rw [hw]; exact ma6.2); have hp_ : Kd.R (Kd.int .i64) 3 w14 w0.heap.size (fun k_ => (P0_ k_ ∨ w.heap.size ≤ k_)) (.slice (some ⟨go8, 0, none⟩) l0.length qa7) ga7 := (by rw [hw, ga6.out]; exact ma6.1); clear ma6; replace HB := mk ((by rw [hw]; exact below_set (HB.out) GB8.out : Below w0.heap.size w0 w14)); replace HK := mk (Kept.of_grown (S := (fun k_ => P0_ k_)) hg (by repeat (first | (with_reducible first | exact HK.out | apply Kept.alloc | apply Kept.drewN | apply Kept.drew) | exact HK.out)) (fun k_ e_ => (HO0.out.1 k_ e_))); replace HO0 := mk hp_; clear hg hw hp_))
          first | go_end0 | ((try simp only [Exit.inBlock, Exit.then]); refine bodyPost_ret (results_none rfl _ _ _) rfl ?_)
          exact ⟨rx, up HO0.out, bl, by repeat (first | (with_reducible first | exact HK.out | apply Kept.alloc | apply Kept.drewN | apply Kept.drew) | exact HK.out)⟩
        · rw [if_neg c7] at H
          exact absurd H (by simp)
      · rw [if_neg c6] at H
        exact absurd H (by simp)
    · rw [if_neg c5] at H
      exact absurd H (by simp)
  · rw [if_neg c4] at H
    exact absurd H (by simp)

/-! ### spec_ApplySwaps: function 77 -/
mutual
def spec_ApplySwaps.l0 : Nat → List (S105) → Int → List Int → List Int → List (S50) → List Int → List Int → List (S50) → Option (List Int × List Int × (List (S50)) × Bool)
 | 0, _, _, _, _, _, _, _, _ => none
 | k + 1, x1, x7, v2, s2, q2, z1, o2, m2 => if x7 < (x1.length : Int) then (if 0 ≤ x7 then ((spec_l1In.f ((rd_T105 x1 x7).f0) 0 (wrap64 ((z1.length : Int) - 1))).bind fun za0 => (if za0 = true then ((spec_l1In.f ((rd_T105 x1 x7).f1) 0 (wrap64 ((z1.length : Int) - 1))).bind fun ka0 => (spec_ApplySwaps.j1 k x1 x7 ((rd_T105 x1 x7).f0) ((rd_T105 x1 x7).f1) (!ka0) v2 s2 q2 z1 o2 m2)) else (spec_ApplySwaps.j1 k x1 x7 ((rd_T105 x1 x7).f0) ((rd_T105 x1 x7).f1) true v2 s2 q2 z1 o2 m2))) else (none)) else (some (z1, o2, m2, true))
def spec_ApplySwaps.j1 : Nat → List (S105) → Int → Int → Int → Bool → List Int → List Int → List (S50) → List Int → List Int → List (S50) → Option (List Int × List Int × (List (S50)) × Bool)
 | 0, _, _, _, _, _, _, _, _, _, _, _ => none
 | k + 1, x1, x7, x8, x9, x51, v2, s2, q2, z1, o2, m2 => if x51 = true then ((spec_l4Copy.f v2 s2 q2).bind fun d8 => (some (d8.1, d8.2.1, d8.2.2, false))) else ((spec_l5Swap.f z1 x8 x9).bind fun ja0 => ((spec_l5Swap.f o2 x8 x9).bind fun ga0 => (spec_ApplySwaps.l0 k x1 (wrap64 (x7 + 1)) v2 s2 q2 ja0 ga0 m2)))
end
def spec_ApplySwaps.f (k : Nat) (d3 : List Int) (b3 : List Int) (z2 : List (S50)) (l1 : List (S105)) : Option (List Int × List Int × (List (S50)) × Bool) := (spec_l4Copy.f d3 b3 z2).bind fun q1 => (if (q1.2.1.length : Int) = (q1.1.length : Int) then (spec_ApplySwaps.l0 k l1 0 d3 b3 z2 q1.1 q1.2.1 q1.2.2) else (some (q1.1, q1.2.1, q1.2.2, false)))
theorem spec_ApplySwaps.mono_l : ∀ k, (∀ y0 y1 y2 y3 y4 y5 y6 y7, LeO (spec_ApplySwaps.l0 k y0 y1 y2 y3 y4 y5 y6 y7) (spec_ApplySwaps.l0 (k + 1) y0 y1 y2 y3 y4 y5 y6 y7)) ∧ (∀ y0 y1 y2 y3 y4 y5 y6 y7 y8 y9 y10, LeO (spec_ApplySwaps.j1 k y0 y1 y2 y3 y4 y5 y6 y7 y8 y9 y10) (spec_ApplySwaps.j1 (k + 1) y0 y1 y2 y3 y4 y5 y6 y7 y8 y9 y10))
 | 0 => ⟨fun _ _ _ _ _ _ _ _ r h => by simp [spec_ApplySwaps.l0] at h, fun _ _ _ _ _ _ _ _ _ _ _ r h => by simp [spec_ApplySwaps.j1] at h⟩
 | k + 1 => by
  obtain ⟨ih0, ih1⟩ := spec_ApplySwaps.mono_l k
  refine ⟨?_, ?_⟩
  ·intro y0 y1 y2 y3 y4 y5 y6 y7
   unfold spec_ApplySwaps.l0
   exact mo
  ·intro y0 y1 y2 y3 y4 y5 y6 y7 y8 y9 y10
   unfold spec_ApplySwaps.j1
   exact mo
theorem spec_ApplySwaps.mono : ∀ a0 a1 a2 a3 k, LeO (spec_ApplySwaps.f k a0 a1 a2 a3) (spec_ApplySwaps.f (k + 1) a0 a1 a2 a3) := by
 intro a0 a1 a2 a3 k
 obtain ⟨ih0, ih1⟩ := spec_ApplySwaps.mono_l k
 unfold spec_ApplySwaps.f
 exact mo
instance spec_ApplySwaps.mi (a0 a1 a2 a3 k) : LeC (spec_ApplySwaps.f k a0 a1 a2 a3) (spec_ApplySwaps.f (k + 1) a0 a1 a2 a3) := ⟨spec_ApplySwaps.mono a0 a1 a2 a3 k⟩
set_option maxHeartbeats 8000000 in
set_option maxRecDepth 100000 in
theorem spec_ApplySwaps.calls (k : Nat) (z5 : Option Addr) (o5 : Nat) (d3 : List Int) (v5 : Option Addr) (m5 : Nat) (b3 : List Int) (s5 : Option Addr) (k5 : Nat) (z2 : List (S50)) (A1 : Option Addr) (c1 : Nat) (l1 : List (S105)) (r1 : List Int) (r2 : List Int) (r3 : List (S50)) (r4 : Bool) (w : World) (b9 : Kd.C (Kd.int .i64) w z5 d3.length d3) (hc0_0 : d3.length ≤ o5) (a9 : Kd.C (Kd.int .i64) w v5 b3.length b3) (hc0_1 : b3.length ≤ m5) (z8 : Kd.C k50 w s5 z2.length z2) (hc0_2 : z2.length ≤ k5) (hr1 : Kd.C k105 w A1 l1.length l1) (hc1 : l1.length ≤ c1) (h : spec_ApplySwaps.f k d3 b3 z2 l1 = some (r1, r2, r3, r4)) :
  Calls Try.prog 77 #[.agg #[.slice z5 d3.length o5, .slice v5 b3.length m5, .slice s5 z2.length k5], .slice A1 l1.length c1] w fun e w' => ∃ v0_ v1_ v2_ : Value, e = .returned (.tuple #[.agg #[v0_, v1_, v2_], .bool r4]) ∧ Kd.R (Kd.int .i64) 3 w' w.heap.size (fun k_ => some k_ ≠ (v1_ : Value).ownBlock) v0_ r1 ∧ Kd.R (Kd.int .i64) 3 w' w.heap.size (fun k_ => some k_ ≠ (v0_ : Value).ownBlock) v1_ r2 ∧ Kd.R k50 50 w' w.heap.size (fun _ => True) v2_ r3 ∧ Below w.heap.size w w' := by
 have hu29 := Try.underlying29
 have m8 := mk b9
 have v8 := mk hc0_0
 clear b9 hc0_0
 have k8 := mk a9
 have s8 := mk hc0_1
 clear a9 hc0_1
 have j8 := mk z8
 have o8 := mk hc0_2
 clear z8 hc0_2
 have HR1 := mk hr1
 have HC1 := mk hc1
 clear hr1 hc1
 have HB := mk (Below.refl w.heap.size w)
 have H : ((spec_l4Copy.f d3 b3 z2).bind fun q1 => (if (q1.2.1.length : Int) = (q1.1.length : Int) then (spec_ApplySwaps.l0 k l1 0 d3 b3 z2 q1.1 q1.2.1 q1.2.2) else (some (q1.1, q1.2.1, q1.2.2, false)))) = some (r1, r2, r3, r4) := h
 clear h
 revert H; refine bo ?_; rintro ⟨k4, j4, d4⟩ A3 H
 dsimp only at H
 revert H; refine ci (fun c4 H => ?_) fun c4 H => ?_
 ·have va0 : ((j4.length : Int) == (k4.length : Int)) = true := beq_iff_eq.mpr c4
  have qa5 : ((j4.length : Int) != (k4.length : Int)) = false := bne_eq_false_iff_eq.mpr c4
  have oa5 : (j4.length == k4.length) = true := by first | simpa using c4 | (simp at c4 ⊢; omega)
  clear c4
  have H' := mk H
  clear H
  go_enter Try.func77, Try.ntmps77
  go_wp2_with (first | ((with_reducible refine gate_dst (N := 2) rfl ?_); (try (refine gate_guard (by rfl) ?_; dsimp only)); refine bx 2 #[.slice z5 d3.length o5, .slice v5 b3.length m5, .slice s5 z2.length k5] 29 ?_; intro b8 hg w5 hbox hb; have q0 := mk hbox; have za6 := wg hg; have da7 := wg hg; replace HB := wh hb; clear hb hbox hg) | ((with_reducible refine gate_dst (N := 4) rfl ?_); (try (refine gate_guard (by rfl) ?_; dsimp only)); refine bx 4 #[.slice none 0 0, .slice none 0 0, .slice none 0 0] 29 ?_; intro b4 hg w6 hbox hb; have o0 := mk hbox; have ya6 := wg hg; have ba7 := wg hg; replace HB := wh hb; have v1 := nl q0 hg; have s1 := nr q0 hg; replace q0 := wb q0 hb; clear hb hbox hg; have yb4 := v1.out; have vb4 := s1.out; obtain ⟨k6, j6, g6, d6, b6, a6⟩ := bz3 q0) | ((with_reducible refine gate_callee (f := 28) rfl ?_); refine gl (some 11) rfl Try.func28 #[.agg #[.slice z5 d3.length o5, .slice v5 b3.length m5, .slice s5 z2.length k5]] ?_; (with_reducible refine (spec_l4Copy.calls _ _ d3 _ _ b3 _ _ z2 k4 j4 d4 _ ?side1 ?side2 ?side3 ?side4 ?side5 ?side6 A3.out).mono ?_); (case side1 => exact cb m8 HB); (case side2 => exact v8.out); (case side3 => exact cb k8 HB); (case side4 => exact s8.out); (case side5 => exact cb j8 HB); (case side6 => exact o8.out); rintro e w9 ⟨za7, ya7, va7, rfl, ho0, ho1, ho2, hb⟩; refine ⟨_, rfl, ?_⟩; have s3 := lo ho0; have q3 := lo ho1; have o3 := lo ho2; replace q0 := wb q0 hb; replace o0 := wb o0 hb; replace HB := wh hb; (try clear hb ho0 ho1 ho2)) | ((with_reducible refine gate_dst (N := 6) rfl ?_); (try (refine gate_guard (by rfl) ?_; dsimp only)); refine bx 6 #[.slice none 0 0, .slice none 0 0, .slice none 0 0] 29 ?_; intro a8 hg w10 hbox hb; replace s3 := ro s3 hb; replace q3 := ro q3 hb; replace o3 := ro o3 hb; have z0 := mk hbox; have va6 := wg hg; have aa7 := wg hg; replace HB := wh hb; have m1 := nl q0 hg; have d1 := nr q0 hg; replace q0 := wb q0 hb; have g1 := nl o0 hg; have b1 := nr o0 hg; replace o0 := wb o0 hb; clear hb hbox hg; obtain ⟨kb4, jb3, db2⟩ := Kd.R_slice s3.out; subst db2; have yb0 := d1.out; have oa9 := m1.out; have vb0 := b1.out; have ma9 := g1.out; obtain ⟨d5, b5, a5, z4, v4, s4⟩ := bz3 z0; obtain ⟨jb4, gb3, bb2⟩ := Kd.R_slice q3.out; subst bb2; obtain ⟨da0, k9, ab2⟩ := Kd.R_slice o3.out; subst ab2))
  go_loopg [7] k (fun kq v7 w' => ∃ (j2 : Int) (g0 : List Int) (k0 : List Int) (d2 : Value) (b2 : Value), v7 = .int .i64 j2 ∧ Aside0 (spec_ApplySwaps.l0 kq l1 j2 d3 b3 z2 g0 k0 d4 = some (r1, r2, r3, r4)) ∧ Aside0 (kq ≤ k) ∧ Aside0 (Kd.R (Kd.int .i64) 3 w' w.heap.size (fun k_ => some k_ ≠ (b2 : Value).ownBlock) d2 g0) ∧ Aside0 (Kd.R (Kd.int .i64) 3 w' w.heap.size (fun k_ => some k_ ≠ (d2 : Value).ownBlock) b2 k0) ∧ Aside0 (Kd.R k50 50 w' w.heap.size (fun _ => True) (.slice da0 d4.length k9) d4) ∧ Aside0 (w'.heap[b8]? = some (.cells #[(.slice z5 d3.length o5), (.slice v5 b3.length m5), (.slice s5 z2.length k5)] 29 (0, 0))) ∧ Aside0 (w'.heap[b4]? = some (.cells #[(.slice none 0 0), (.slice none 0 0), (.slice none 0 0)] 29 (0, 0))) ∧ Aside0 (w'.heap[a8]? = some (.cells #[d2, b2, (.slice da0 d4.length k9)] 29 (0, 0))) ∧ Aside0 (Below w.heap.size w w'))
  case atStart => exact ⟨(0), (k4), (j4), (.slice kb4 k4.length jb3), (.slice jb4 j4.length gb3), (by first | rfl | (simp; done) | (simp [*]; done)), H', ⟨Nat.le_refl _⟩, ⟨(by exact rm (rs1 s3 z0))⟩, ⟨(by exact rm (rs1 q3 z0))⟩, ⟨(by exact rm (rs1 o3 z0))⟩, ⟨bq⟩, ⟨bq⟩, ⟨bq⟩, ⟨bl⟩⟩
  case round =>
   clear H'
   try clear c1
   try clear c2
   try clear p2
   try clear c4
   try clear va0
   try clear qa5
   try clear oa5
   try clear c7
   try clear c12
   try clear c13
   try clear d5
   try clear b5
   try clear a5
   try clear k6
   try clear j6
   try clear g6
   try clear z4
   try clear v4
   try clear s4
   try clear d6
   try clear b6
   try clear a6
   obtain ⟨j2, g0, k0, d2, b2, rfl, HA, HK1, b0, d0, m0, q0, o0, z0, HB⟩ := hrel
   cases gk with
   | zero => exact absurd HA.out (by simp [spec_ApplySwaps.l0])
   | succ k1 =>
    have H := HA.out
    clear HA
    simp only [spec_ApplySwaps.l0] at H
    revert H; refine ci (fun c17 H => ?_) fun c17 H => ?_
    ·have j5 : decide (j2 < (l1.length : Int)) = true := decide_eq_true c17
     clear c17
     revert H; refine ca fun c18 H => ?_
     have sa5 : decide (0 ≤ j2) = true := decide_eq_true c18
     clear c18
     have sa6 := mk H
     clear H
     have sa0 : 0 ≤ (j2 : Int) := dt
     have oa0 : j2 < (l1.length : Int) := dt
     obtain ⟨aa6, kb2, m3, k3⟩ := at_T105 HR1.out j2 sa0 oa0
     cases kb2
     replace m3 := (HB.out.cell (World.block_lt_of_cell? w _ m3)).trans m3
     replace k3 := (HB.out.cell (World.block_lt_of_cell? w _ k3)).trans k3
     replace sa0 := eq_true sa0
     replace oa0 := eq_true oa0
     have qa0 : 0 ≤ (j2 : Int) := dt
     have ma0 : j2 < (l1.length : Int) := dt
     obtain ⟨za5, jb2, j3, g3⟩ := at_T105 HR1.out j2 qa0 ma0
     obtain rfl : aa6 = za5 := (by injection jb2)
     replace j3 := (HB.out.cell (World.block_lt_of_cell? w _ j3)).trans j3
     replace g3 := (HB.out.cell (World.block_lt_of_cell? w _ g3)).trans g3
     replace qa0 := eq_true qa0
     replace ma0 := eq_true ma0
     go_upto_region 9 with (fail)
     go_cut [51] (fun v51 wc => ∃ (kq : Nat) (a4 : Bool), v51 = .bool a4 ∧ Aside0 (spec_ApplySwaps.j1 kq l1 j2 ((rd_T105 l1 j2).f0) ((rd_T105 l1 j2).f1) a4 d3 b3 z2 g0 k0 d4 = some (r1, r2, r3, r4)) ∧ Aside0 (kq ≤ k1) ∧ Aside0 (Kd.R (Kd.int .i64) 3 wc w.heap.size (fun k_ => some k_ ≠ (b2 : Value).ownBlock) d2 g0) ∧ Aside0 (Kd.R (Kd.int .i64) 3 wc w.heap.size (fun k_ => some k_ ≠ (d2 : Value).ownBlock) b2 k0) ∧ Aside0 (Kd.R k50 50 wc w.heap.size (fun _ => True) (.slice da0 d4.length k9) d4) ∧ Aside0 (wc.heap[b8]? = some (.cells #[(.slice z5 d3.length o5), (.slice v5 b3.length m5), (.slice s5 z2.length k5)] 29 (0, 0))) ∧ Aside0 (wc.heap[b4]? = some (.cells #[(.slice none 0 0), (.slice none 0 0), (.slice none 0 0)] 29 (0, 0))) ∧ Aside0 (wc.heap[a8]? = some (.cells #[d2, b2, (.slice da0 d4.length k9)] 29 (0, 0))) ∧ Aside0 (Below w.heap.size w wc))
     case first =>
      have H := sa6.out
      clear sa6
      revert H; refine bo ?_; rintro za0 A20 H
      by_cases c21 : za0 = true
      ·subst c21
       rw [if_pos rfl] at H
       revert H; refine bo ?_; rintro ka0 A22 H
       have H' := mk H
       clear H
       have sb0 := d1.out
       have ka9 := m1.out
       have qb0 := b1.out
       have ja9 := g1.out
       obtain ⟨z7, s7, q7, j7, g7, d7⟩ := bz3 z0
       obtain ⟨kb5, ab5, zb1⟩ := Kd.R_slice b0.out
       subst zb1
       go_wp2_with (first | ((with_reducible refine gate_callee (f := 54) rfl ?_); refine gl (some 41) rfl Try.func54 #[.int .i64 ((rd_T105 l1 j2).f0), .int .i64 0, .int .i64 (wrap64 ((g0.length : Int) - 1))] ?_; (with_reducible refine (spec_l1In.calls ((rd_T105 l1 j2).f0) 0 (wrap64 ((g0.length : Int) - 1)) true _ A20.out).mono ?_); rintro e w' ⟨rfl, ⟨nd, rfl⟩⟩; refine ⟨_, rfl, ?_⟩) | (go_at_call 54; (with_reducible refine (spec_l1In.calls ((rd_T105 l1 j2).f1) 0 (wrap64 ((g0.length : Int) - 1)) ka0 _ A22.out).mono ?_); rintro e w' ⟨rfl, ⟨nd, rfl⟩⟩))
       go_meet
       case rel => exact ⟨_, (!ka0), (by first | rfl | (simp; done) | (simp [*]; done)), H', ⟨by have := HK1.out; first | omega | exact Nat.le_refl _⟩, ⟨up b0.out⟩, ⟨up d0.out⟩, ⟨up m0.out⟩, ⟨ub q0.out⟩, ⟨ub o0.out⟩, ⟨ub z0.out⟩, ⟨bl⟩⟩
      ·replace c21 := Bool.eq_false_iff.mpr c21
       subst c21
       rw [if_neg nf] at H
       have H' := mk H
       clear H
       have ob0 := d1.out
       have ga9 := m1.out
       have mb0 := b1.out
       have da9 := g1.out
       obtain ⟨o7, m7, k7, b7, a7, z6⟩ := bz3 z0
       obtain ⟨jb5, zb4, yb1⟩ := Kd.R_slice b0.out
       subst yb1
       go_wp2_with (first | ((with_reducible refine gate_callee (f := 54) rfl ?_); refine gl (some 41) rfl Try.func54 #[.int .i64 ((rd_T105 l1 j2).f0), .int .i64 0, .int .i64 (wrap64 ((g0.length : Int) - 1))] ?_; (with_reducible refine (spec_l1In.calls ((rd_T105 l1 j2).f0) 0 (wrap64 ((g0.length : Int) - 1)) false _ A20.out).mono ?_); rintro e w' ⟨rfl, ⟨nd, rfl⟩⟩; refine ⟨_, rfl, ?_⟩))
       go_meet
       case rel => exact ⟨_, (true), (by first | rfl | (simp; done) | (simp [*]; done)), H', ⟨by have := HK1.out; first | omega | exact Nat.le_refl _⟩, ⟨up b0.out⟩, ⟨up d0.out⟩, ⟨up m0.out⟩, ⟨ub q0.out⟩, ⟨ub o0.out⟩, ⟨ub z0.out⟩, ⟨bl⟩⟩
     case rest =>
      clear sa6
      try clear c1
      try clear c2
      try clear p2
      try clear c4
      try clear va0
      try clear qa5
      try clear oa5
      try clear p4
      try clear q4
      try clear hx4
      try clear c5
      try clear p6
      try clear c7
      try clear c12
      try clear c13
      try clear c17
      try clear j5
      try clear c18
      try clear sa5
      try clear c21
      try clear c23
      try clear c24
      try clear c27
      try clear c28
      try clear d5
      try clear b5
      try clear a5
      try clear z7
      try clear s7
      try clear q7
      try clear o7
      try clear m7
      try clear k7
      try clear k6
      try clear j6
      try clear g6
      try clear z4
      try clear v4
      try clear s4
      try clear j7
      try clear g7
      try clear d7
      try clear b7
      try clear a7
      try clear z6
      try clear d6
      try clear b6
      try clear a6
      try clear m3
      try clear k3
      try clear j3
      try clear g3
      try clear p2
      try clear sa0
      try clear qa0
      try clear oa0
      try clear ma0
      obtain ⟨kq, a4, rfl, HA, sa7, b0, d0, m0, q0, o0, z0, HB⟩ := hcut
      cases kq with
      | zero => exact absurd HA.out (by simp [spec_ApplySwaps.j1])
      | succ ba8 =>
       have H := HA.out
       clear HA
       simp only [spec_ApplySwaps.j1] at H
       by_cases c31 : a4 = true
       ·subst c31
        rw [if_pos rfl] at H
        revert H; refine bo ?_; rintro ⟨oa7, ma7, ka7⟩ A32 H
        dsimp only at H
        simp only [Option.some.injEq, Prod.mk.injEq] at H
        obtain ⟨rfl, rfl, rfl, rfl⟩ := H
        have kb0 := v1.out
        have ba9 := s1.out
        have jb0 := m1.out
        have aa9 := d1.out
        obtain ⟨ka5, ja5, ga5, ja3, ga3, da3⟩ := bz3 q0
        go_wp2_with (first | ((with_reducible refine gate_callee (f := 28) rfl ?_); refine gl (some 53) rfl Try.func28 #[.agg #[.slice z5 d3.length o5, .slice v5 b3.length m5, .slice s5 z2.length k5]] ?_; (with_reducible refine (spec_l4Copy.calls _ _ d3 _ _ b3 _ _ z2 oa7 ma7 ka7 _ ?side1 ?side2 ?side3 ?side4 ?side5 ?side6 A32.out).mono ?_); (case side1 => exact cb m8 HB); (case side2 => exact v8.out); (case side3 => exact cb k8 HB); (case side4 => exact s8.out); (case side5 => exact cb j8 HB); (case side6 => exact o8.out); rintro e w36 ⟨qb4, ob4, mb4, rfl, ho0, ho1, ho2, hb⟩; refine ⟨_, rfl, ?_⟩; have v9 := lo (nw (nw ho0 b0) d0); have s9 := lo (nw (nw ho1 b0) d0); replace b0 := td2 b0 hb ho0 ho1; replace d0 := td2 d0 hb ho0 ho1; have o9 := lo (nw ho2 m0); replace m0 := el m0 ho2 hb; replace q0 := wb q0 hb; replace o0 := wb o0 hb; replace z0 := wb z0 hb; replace HB := wh hb; (try clear hb ho0 ho1 ho2); obtain ⟨gb4, db3, vb1⟩ := Kd.R_slice v9.out; subst vb1; have gb0 := g1.out; have za8 := b1.out; obtain ⟨da5, ba5, aa5, ba3, aa3, za2⟩ := bz3 o0; obtain ⟨db4, bb3, sb1⟩ := Kd.R_slice s9.out; subst sb1; obtain ⟨bb4, ab3, qb1⟩ := Kd.R_slice o9.out; subst qb1))
        refine bodyPost_ret (results_ct rfl _ _ b4 29 #[.slice gb4 oa7.length db3, .slice db4 ma7.length bb3, .slice bb4 ka7.length ab3] (0, 0) _ rfl bq Try.underlying29 rfl (by kernel_rfl)) rfl ?_
        exact ⟨_, _, _, rx, (by exact rm (rs1 v9 o0)), (by exact rm (rs1 s9 o0)), (by exact rm (rs1 o9 o0)), bl⟩
       ·replace c31 := Bool.eq_false_iff.mpr c31
        subst c31
        rw [if_neg nf] at H
        revert H; refine bo ?_; rintro ja0 A42 H
        revert H; refine bo ?_; rintro ga0 A43 H
        have H' := mk H
        clear H
        have db0 := d1.out
        have ya8 := m1.out
        have bb0 := b1.out
        have va8 := g1.out
        obtain ⟨za4, ya4, va4, ya2, va2, sa2⟩ := bz3 z0
        obtain ⟨ba0, j9, ob1⟩ := Kd.R_slice b0.out
        subst ob1
        go_wp2_with (first | ((with_reducible refine gate_callee (f := 67) rfl ?_); refine gl (some 58) rfl Try.func67 #[.slice ba0 g0.length j9, .int .i64 ((rd_T105 l1 j2).f0), .int .i64 ((rd_T105 l1 j2).f1)] ?_; (with_reducible refine (spec_l5Swap.calls (fun k_ => some k_ = (.slice ba0 g0.length j9 : Value).ownBlock) (.slice ba0 g0.length j9) g0 ((rd_T105 l1 j2).f0) ((rd_T105 l1 j2).f1) ja0 w _ ?side1 ?side2 A42.out).mono ?_); (case side1 => exact bl); (case side2 => exact Kd.R_tight rfl b0.out); rintro e w48 ⟨rfl, hy0, hb, hkp⟩; refine ⟨_, rfl, ?_⟩; replace d0 := mk (Kd.R_mono (ok' := fun k_ => some k_ ≠ (.slice ba0 g0.length j9 : Value).ownBlock) (Kd.R_keptB (d0.out) hkp (fun k_ hk_ hs_ => (hk_) hs_)) (fun k_ hk_ => hk_.1)); replace m0 := mk (Kd.R_mono (ok' := fun k_ => True) (Kd.R_keptB ((Kd.R_apart' m0.out (Kd.R_typed b0.out) (by decide))) hkp (fun k_ hk_ hs_ => (hk_.2) hs_)) (fun k_ hk_ => trivial)); replace q0 := mk (blk_kept (ub q0.out) hkp (fun hs_ => (fun e_ => (Kd.R_ne b0.out q0.out (by decide)) e_) hs_)); replace o0 := mk (blk_kept (ub o0.out) hkp (fun hs_ => (fun e_ => (Kd.R_ne b0.out o0.out (by decide)) e_) hs_)); replace z0 := mk (blk_kept (ub z0.out) hkp (fun hs_ => (fun e_ => (Kd.R_ne b0.out z0.out (by decide)) e_) hs_)); replace b0 := mk (Kd.R_reok rfl hy0 (fun k_ e_ => b0.out.1 k_ e_)); replace HB := mk hb; (try clear hb hkp hy0); obtain ⟨sa4, qa4, oa4, qa2, oa2, ma2⟩ := bz3 z0; obtain ⟨aa0, g9, mb1⟩ := Kd.R_slice d0.out; subst mb1) | ((with_reducible refine gate_callee (f := 67) rfl ?_); refine gl (some 63) rfl Try.func67 #[.slice aa0 k0.length g9, .int .i64 ((rd_T105 l1 j2).f0), .int .i64 ((rd_T105 l1 j2).f1)] ?_; (with_reducible refine (spec_l5Swap.calls (fun k_ => some k_ = (.slice aa0 k0.length g9 : Value).ownBlock) (.slice aa0 k0.length g9) k0 ((rd_T105 l1 j2).f0) ((rd_T105 l1 j2).f1) ga0 w _ ?side1 ?side2 A43.out).mono ?_); (case side1 => exact bl); (case side2 => exact Kd.R_tight rfl d0.out); rintro e w51 ⟨rfl, hy0, hb, hkp⟩; refine ⟨_, rfl, ?_⟩; replace b0 := mk (Kd.R_mono (ok' := fun k_ => some k_ ≠ (.slice aa0 k0.length g9 : Value).ownBlock) (Kd.R_keptB (b0.out) hkp (fun k_ hk_ hs_ => (hk_) hs_)) (fun k_ hk_ => hk_.1)); replace m0 := mk (Kd.R_mono (ok' := fun k_ => True) (Kd.R_keptB ((Kd.R_apart' m0.out (Kd.R_typed d0.out) (by decide))) hkp (fun k_ hk_ hs_ => (hk_.2) hs_)) (fun k_ hk_ => trivial)); replace q0 := mk (blk_kept (ub q0.out) hkp (fun hs_ => (fun e_ => (Kd.R_ne d0.out q0.out (by decide)) e_) hs_)); replace o0 := mk (blk_kept (ub o0.out) hkp (fun hs_ => (fun e_ => (Kd.R_ne d0.out o0.out (by decide)) e_) hs_)); replace z0 := mk (blk_kept (ub z0.out) hkp (fun hs_ => (fun e_ => (Kd.R_ne d0.out z0.out (by decide)) e_) hs_)); replace d0 := mk (Kd.R_reok rfl hy0 (fun k_ e_ => d0.out.1 k_ e_)); replace HB := mk hb; (try clear hb hkp hy0)))
        go_roundg ba8
        case measure => have := HK1.out; have := sa7.out; omega
        case rel => exact ⟨(wrap64 (j2 + 1)), (ja0), (ga0), (.slice ba0 g0.length j9), (.slice aa0 k0.length g9), (by first | rfl | (simp; done) | (simp [*]; done)), H', ⟨by have := HK1.out; have := sa7.out; omega⟩, ⟨up b0.out⟩, ⟨up d0.out⟩, ⟨up m0.out⟩, ⟨ub q0.out⟩, ⟨ub o0.out⟩, ⟨ub z0.out⟩, ⟨bl⟩⟩
    ·have j5 : decide (j2 < (l1.length : Int)) = false := decide_eq_false c17
     clear c17
     simp only [Option.some.injEq, Prod.mk.injEq] at H
     obtain ⟨rfl, rfl, rfl, rfl⟩ := H
     have ab0 := d1.out
     have sa8 := m1.out
     have za9 := b1.out
     have qa8 := g1.out
     obtain ⟨ma4, ka4, ja4, ka2, ja2, ga2⟩ := bz3 z0
     obtain ⟨ab4, zb2, kb1⟩ := Kd.R_slice b0.out
     subst kb1
     have ya9 := s1.out
     have oa8 := v1.out
     obtain ⟨ga4, da4, ba4, da2, ba2, aa2⟩ := bz3 o0
     obtain ⟨zb3, yb2, jb1⟩ := Kd.R_slice d0.out
     subst jb1
     go_wp2
     refine bodyPost_ret (results_ct rfl _ _ b4 29 #[.slice ab4 g0.length zb2, .slice zb3 k0.length yb2, .slice da0 d4.length k9] (0, 0) _ rfl bq Try.underlying29 rfl (by kernel_rfl)) rfl ?_
     exact ⟨_, _, _, rx, (by exact rm (rs1 b0 o0)), (by exact rm (rs1 d0 o0)), (by exact rm (rs1 m0 o0)), bl⟩
 ·have va0 : ((j4.length : Int) == (k4.length : Int)) = false := beq_eq_false_iff_ne.mpr c4
  have qa5 : ((j4.length : Int) != (k4.length : Int)) = true := bne_iff_ne.mpr c4
  have oa5 : (j4.length == k4.length) = false := by first | simpa using c4 | (simp at c4 ⊢; omega)
  simp only [Option.some.injEq, Prod.mk.injEq] at H
  obtain ⟨rfl, rfl, rfl, rfl⟩ := H
  go_enter Try.func77, Try.ntmps77
  go_wp2_with (first | ((with_reducible refine gate_dst (N := 2) rfl ?_); (try (refine gate_guard (by rfl) ?_; dsimp only)); refine bx 2 #[.slice z5 d3.length o5, .slice v5 b3.length m5, .slice s5 z2.length k5] 29 ?_; intro b8 hg w59 hbox hb; have q0 := mk hbox; have za6 := wg hg; have da7 := wg hg; replace HB := wh hb; clear hb hbox hg) | ((with_reducible refine gate_dst (N := 4) rfl ?_); (try (refine gate_guard (by rfl) ?_; dsimp only)); refine bx 4 #[.slice none 0 0, .slice none 0 0, .slice none 0 0] 29 ?_; intro b4 hg w60 hbox hb; have o0 := mk hbox; have ya6 := wg hg; have ba7 := wg hg; replace HB := wh hb; have v1 := nl q0 hg; have s1 := nr q0 hg; replace q0 := wb q0 hb; clear hb hbox hg; have va9 := v1.out; have ma8 := s1.out; obtain ⟨aa4, za3, ya3, za1, ya1, va1⟩ := bz3 q0) | ((with_reducible refine gate_callee (f := 28) rfl ?_); refine gl (some 11) rfl Try.func28 #[.agg #[.slice z5 d3.length o5, .slice v5 b3.length m5, .slice s5 z2.length k5]] ?_; (with_reducible refine (spec_l4Copy.calls _ _ d3 _ _ b3 _ _ z2 k4 j4 d4 _ ?side1 ?side2 ?side3 ?side4 ?side5 ?side6 A3.out).mono ?_); (case side1 => exact cb m8 HB); (case side2 => exact v8.out); (case side3 => exact cb k8 HB); (case side4 => exact s8.out); (case side5 => exact cb j8 HB); (case side6 => exact o8.out); rintro e w63 ⟨za7, ya7, va7, rfl, ho0, ho1, ho2, hb⟩; refine ⟨_, rfl, ?_⟩; have s3 := lo ho0; have q3 := lo ho1; have o3 := lo ho2; replace q0 := wb q0 hb; replace o0 := wb o0 hb; replace HB := wh hb; (try clear hb ho0 ho1 ho2)) | ((with_reducible refine gate_dst (N := 6) rfl ?_); (try (refine gate_guard (by rfl) ?_; dsimp only)); refine bx 6 #[.slice none 0 0, .slice none 0 0, .slice none 0 0] 29 ?_; intro a8 hg w64 hbox hb; replace s3 := ro s3 hb; replace q3 := ro q3 hb; replace o3 := ro o3 hb; have z0 := mk hbox; have va6 := wg hg; have aa7 := wg hg; replace HB := wh hb; have m1 := nl q0 hg; have d1 := nr q0 hg; replace q0 := wb q0 hb; have g1 := nl o0 hg; have b1 := nr o0 hg; replace o0 := wb o0 hb; clear hb hbox hg; obtain ⟨yb3, vb2, gb1⟩ := Kd.R_slice s3.out; subst gb1; have sa9 := d1.out; have ka8 := m1.out; have qa9 := b1.out; have ja8 := g1.out; obtain ⟨va3, sa3, qa3, sa1, qa1, oa1⟩ := bz3 z0; obtain ⟨vb3, sb2, db1⟩ := Kd.R_slice q3.out; subst db1; obtain ⟨sb3, qb2, bb1⟩ := Kd.R_slice o3.out; subst bb1; obtain ⟨oa3, ma3, ka3, ma1, ka1, ja1⟩ := bz3 o0))
  refine bodyPost_ret (results_ct rfl _ _ b4 29 #[.slice yb3 k4.length vb2, .slice vb3 j4.length sb2, .slice sb3 d4.length qb2] (0, 0) _ rfl bq Try.underlying29 rfl (by kernel_rfl)) rfl ?_
  exact ⟨_, _, _, rx, (by exact rm (rs2 s3 z0 o0)), (by exact rm (rs2 q3 z0 o0)), (by exact rm (rs2 o3 z0 o0)), bl⟩

end Go.Proofs.Ytlikcmonejefoab.PFnRipples
