-- printed by a program of this session, a turned copy of the print of the kit
import Derived.Test.YtlikcmonejefoabSr
import Derived.Test.YtlikcmonejefoabPFnRipplesx0
import Derived.Test.YtlikcmonejefoabPFnRipplesx2
import Derived.Test.YtlikcmonejefoabPFnRipplesx3
namespace Go.Proofs.Ytlikcmonejefoab.PFnRipples
open Go.RowKit Go.Proofs.YtlikcmonejefoabW.PrintWords Go.Proofs.YtlikcmonejefoabW.PrintLast Go.Proofs.YtlikcmonejefoabW.PrintMore Go.Proofs.Ytlikcmonejefoab.Sq
attribute [local go_sem] max2_int min2_int max_two min_two max_three min_three max_four min_four Giv.cell_twice   -- for this text's walks alone
set_option linter.unusedVariables false
set_option linter.unusedSimpArgs false

/-! ### spec_IsCracker: function 23 -/
mutual
def spec_IsCracker.j0 : Nat → Bool → List Int → List Int → List (S50) → Option (Bool)
 | 0, _, _, _, _ => none
 | k + 1, x16, g1, o0, d1 => if x16 = true then (some false) else (spec_IsCracker.l0 k 0 g1 o0 d1)
def spec_IsCracker.l0 : Nat → Int → List Int → List Int → List (S50) → Option (Bool)
 | 0, _, _, _, _ => none
 | k + 1, x3, g1, o0, d1 => if x3 < (o0.length : Int) then (if 0 ≤ x3 then ((spec_l1In.f (rd o0 x3) 0 999).bind fun d6 => (if d6 = true then (if x3 ≤ (o0.length : Int) then ((spec_l4Has.f k (o0.take (x3 : Int).toNat) (rd o0 x3)).bind fun b6 => (if b6 = true then (some false) else (spec_IsCracker.l0 k (wrap64 (x3 + 1)) g1 o0 d1))) else (none)) else (some false))) else (none)) else ((spec_l4Pivots.f k g1 d1).bind fun a6 => (some a6))
end
def spec_IsCracker.f (k : Nat) (m0 : List Int) (b0 : List Int) (v0 : List (S50)) : Option (Bool) := (spec_AreValues.f k m0).bind fun o5 => (if o5 = true then (spec_IsCracker.j0 k ((b0.length : Int) != (m0.length : Int)) m0 b0 v0) else (spec_IsCracker.j0 k true m0 b0 v0))
theorem spec_IsCracker.mono_l : ∀ k, (∀ y0 y1 y2 y3, LeO (spec_IsCracker.j0 k y0 y1 y2 y3) (spec_IsCracker.j0 (k + 1) y0 y1 y2 y3)) ∧ (∀ y0 y1 y2 y3, LeO (spec_IsCracker.l0 k y0 y1 y2 y3) (spec_IsCracker.l0 (k + 1) y0 y1 y2 y3))
 | 0 => ⟨fun _ _ _ _ r h => by simp [spec_IsCracker.j0] at h, fun _ _ _ _ r h => by simp [spec_IsCracker.l0] at h⟩
 | k + 1 => by
  obtain ⟨ih0, ih1⟩ := spec_IsCracker.mono_l k
  refine ⟨?_, ?_⟩
  ·intro y0 y1 y2 y3
   unfold spec_IsCracker.j0
   exact mo
  ·intro y0 y1 y2 y3
   unfold spec_IsCracker.l0
   exact mo
theorem spec_IsCracker.mono : ∀ a0 a1 a2 k, LeO (spec_IsCracker.f k a0 a1 a2) (spec_IsCracker.f (k + 1) a0 a1 a2) := by
 intro a0 a1 a2 k
 obtain ⟨ih0, ih1⟩ := spec_IsCracker.mono_l k
 unfold spec_IsCracker.f
 exact mo
instance spec_IsCracker.mi (a0 a1 a2 k) : LeC (spec_IsCracker.f k a0 a1 a2) (spec_IsCracker.f (k + 1) a0 a1 a2) := ⟨spec_IsCracker.mono a0 a1 a2 k⟩
set_option maxHeartbeats 8000000 in
set_option maxRecDepth 100000 in
theorem spec_IsCracker.calls (k : Nat) (j4 : Option Addr) (b4 : Nat) (m0 : List Int) (g4 : Option Addr) (g2 : Nat) (b0 : List Int) (d4 : Option Addr) (a4 : Nat) (v0 : List (S50)) (r : Bool) (w : World) (b3 : Kd.C (Kd.int .i64) w j4 m0.length m0) (hc0_0 : m0.length ≤ b4) (z2 : Kd.C (Kd.int .i64) w g4 b0.length b0) (hc0_1 : b0.length ≤ g2) (v2 : Kd.C k50 w d4 v0.length v0) (hc0_2 : v0.length ≤ a4) (h : spec_IsCracker.f k m0 b0 v0 = some r) :
  Calls Try.prog 23 #[.agg #[.slice j4 m0.length b4, .slice g4 b0.length g2, .slice d4 v0.length a4]] w fun e w' => e = .returned (.bool r) ∧ Below w.heap.size w w' := by
 have hu29 := Try.underlying29
 have z1 := mk b3
 have d2 := mk hc0_0
 clear b3 hc0_0
 have z0 := mk z2
 have z3 := mk hc0_1
 clear z2 hc0_1
 have k5 := mk v2
 have m5 := mk hc0_2
 clear v2 hc0_2
 have HB := mk (Below.refl w.heap.size w)
 have H : ((spec_AreValues.f k m0).bind fun o5 => (if o5 = true then (spec_IsCracker.j0 k ((b0.length : Int) != (m0.length : Int)) m0 b0 v0) else (spec_IsCracker.j0 k true m0 b0 v0))) = some r := h
 clear h
 have HC2 := mk H
 clear H
 go_enter Try.func23, Try.ntmps23
 iterate 3 ((try go_quiet (fail)); (try go_upto_region 1 with (first | ((with_reducible refine gate_dst (N := 1) rfl ?_); (try (refine gate_guard (by rfl) ?_; dsimp only)); refine bx 1 #[.slice j4 m0.length b4, .slice g4 b0.length g2, .slice d4 v0.length a4] 29 ?_; intro y5 hg w3 hbox hb; have q0 := mk hbox; have ba0 := wg hg; replace HB := wh hb; clear hb hbox hg))))
 (try simp only [Act.put, List.setIfInBounds_toArray, List.set_cons_zero, List.set_cons_succ])
 go_cut [16] (fun v16 wc => ∃ (kq : Nat) (k4 : Bool), v16 = .bool k4 ∧ Aside0 (spec_IsCracker.j0 kq k4 m0 b0 v0 = some r) ∧ Aside0 (kq ≤ k) ∧ Aside0 (wc.heap[y5]? = some (.cells #[(.slice j4 m0.length b4), (.slice g4 b0.length g2), (.slice d4 v0.length a4)] 29 (0, 0))) ∧ Aside0 (Below w.heap.size w wc))
 case first =>
  have H := HC2.out
  clear HC2
  revert H; refine bo ?_; rintro o5 A4 H
  by_cases c5 : o5 = true
  ·subst c5
   rw [if_pos rfl] at H
   have H' := mk H
   clear H
   obtain ⟨z4, v4, s4, q4, o4, m4⟩ := bz3 q0
   iterate 3 ((try go_quiet (first | (go_at_call 53; (with_reducible refine (spec_AreValues.calls k _ _ m0 true _ ?side1 ?side2 A4.out).mono ?_); (case side1 => exact cb z1 HB); (case side2 => exact d2.out); rintro e w' ⟨rfl, ⟨nd, rfl⟩⟩; (try first | exact ⟨rfl, _, World.drewN_drewN _ _ _⟩ | exact ⟨rfl, _, Eq.trans (World.drewN_drewN _ _ _) (congrArg (World.drewN _) (Nat.add_assoc _ _ _))⟩)))); (try go_wp2_with (first | (go_at_call 53; (with_reducible refine (spec_AreValues.calls k _ _ m0 true _ ?side1 ?side2 A4.out).mono ?_); (case side1 => exact cb z1 HB); (case side2 => exact d2.out); rintro e w' ⟨rfl, ⟨nd, rfl⟩⟩; (try first | exact ⟨rfl, _, World.drewN_drewN _ _ _⟩ | exact ⟨rfl, _, Eq.trans (World.drewN_drewN _ _ _) (congrArg (World.drewN _) (Nat.add_assoc _ _ _))⟩)))))
   go_meet
   case rel => exact ⟨_, (((b0.length : Int) != (m0.length : Int))), (by first | rfl | (simp; done) | (simp [*]; done)), H', ⟨by first | omega | exact Nat.le_refl _⟩, ⟨ub q0.out⟩, ⟨bl⟩⟩
  ·replace c5 := Bool.eq_false_iff.mpr c5
   subst c5
   rw [if_neg nf] at H
   have H' := mk H
   clear H
   obtain ⟨s3, q3, o3, m3, k3, j3⟩ := bz3 q0
   iterate 3 ((try go_quiet (first | (go_at_call 53; (with_reducible refine (spec_AreValues.calls k _ _ m0 false _ ?side1 ?side2 A4.out).mono ?_); (case side1 => exact cb z1 HB); (case side2 => exact d2.out); rintro e w' ⟨rfl, ⟨nd, rfl⟩⟩; (try first | exact ⟨rfl, _, World.drewN_drewN _ _ _⟩ | exact ⟨rfl, _, Eq.trans (World.drewN_drewN _ _ _) (congrArg (World.drewN _) (Nat.add_assoc _ _ _))⟩)))); (try go_wp2_with (first | (go_at_call 53; (with_reducible refine (spec_AreValues.calls k _ _ m0 false _ ?side1 ?side2 A4.out).mono ?_); (case side1 => exact cb z1 HB); (case side2 => exact d2.out); rintro e w' ⟨rfl, ⟨nd, rfl⟩⟩; (try first | exact ⟨rfl, _, World.drewN_drewN _ _ _⟩ | exact ⟨rfl, _, Eq.trans (World.drewN_drewN _ _ _) (congrArg (World.drewN _) (Nat.add_assoc _ _ _))⟩)))))
   go_meet
   case rel => exact ⟨_, (true), (by first | rfl | (simp; done) | (simp [*]; done)), H', ⟨by first | omega | exact Nat.le_refl _⟩, ⟨ub q0.out⟩, ⟨bl⟩⟩
 case rest =>
  clear HC2
  try clear c2
  try clear p2
  try clear c5
  try clear z4
  try clear v4
  try clear s4
  try clear s3
  try clear q3
  try clear o3
  try clear q4
  try clear o4
  try clear m4
  try clear m3
  try clear k3
  try clear j3
  obtain ⟨kq, k4, rfl, HA, HJ1, q0, HB⟩ := hcut
  cases kq with
  | zero => exact absurd HA.out (by simp [spec_IsCracker.j0])
  | succ kj1 =>
   have H := HA.out
   clear HA
   simp only [spec_IsCracker.j0] at H
   by_cases c8 : k4 = true
   ·subst c8
    rw [if_pos rfl] at H
    obtain rfl := Option.some.inj H
    go_wp2
    repeat (go_quiet (fail); try go_wp2)
    go_ret
    exact ⟨rx, bl⟩
   ·replace c8 := Bool.eq_false_iff.mpr c8
    subst c8
    rw [if_neg nf] at H
    have H' := mk H
    clear H
    go_wp2
    repeat (go_quiet (fail); try go_wp2)
    go_loopg [3] kj1 (fun kq v3 w' => ∃ (g0 : Int), v3 = .int .i64 g0 ∧ Aside0 (spec_IsCracker.l0 kq g0 m0 b0 v0 = some r) ∧ Aside0 (kq ≤ kj1) ∧ Aside0 (w'.heap[y5]? = some (.cells #[(.slice j4 m0.length b4), (.slice g4 b0.length g2), (.slice d4 v0.length a4)] 29 (0, 0))) ∧ Aside0 (Below w.heap.size w w'))
    case atStart => exact ⟨(0), (by first | rfl | (simp; done) | (simp [*]; done)), H', ⟨Nat.le_refl _⟩, ⟨ub q0.out⟩, ⟨bl⟩⟩
    case round =>
     clear H'
     try clear c2
     try clear p2
     try clear c5
     try clear c8
     try clear z4
     try clear v4
     try clear s4
     try clear s3
     try clear q3
     try clear o3
     try clear q4
     try clear o4
     try clear m4
     try clear m3
     try clear k3
     try clear j3
     try clear p2
     obtain ⟨g0, rfl, HA, HK2, q0, HB⟩ := hrel
     cases gk with
     | zero => exact absurd HA.out (by simp [spec_IsCracker.l0])
     | succ k2 =>
      have H := HA.out
      clear HA
      simp only [spec_IsCracker.l0] at H
      revert H; refine ci (fun c9 H => ?_) fun c9 H => ?_
      ·have k9 : decide (g0 < (b0.length : Int)) = true := decide_eq_true c9
       clear c9
       revert H; refine ca fun c10 H => ?_
       have z9 : decide (0 ≤ g0) = true := decide_eq_true c10
       clear c10
       revert H; refine bo ?_; rintro d6 A11 H
       by_cases c12 : d6 = true
       ·subst c12
        rw [if_pos rfl] at H
        have y9 := eq_true (dt : 0 ≤ g0)
        revert H; refine ca fun c14 H => ?_
        have v9 := eq_true c14
        have s9 : decide (g0 ≤ (b0.length : Int)) = true := decide_eq_true c14
        clear c14
        revert H; refine bo ?_; rintro b6 A15 H
        by_cases c16 : b6 = true
        ·subst c16
         rw [if_pos rfl] at H
         obtain rfl := Option.some.inj H
         obtain ⟨a8, z7, y7, b7, a7, z6⟩ := bz3 q0
         have o2 : 0 ≤ (g0 : Int) := dt
         have m2 : g0 < (b0.length : Int) := dt
         obtain ⟨b1, z5, k0⟩ := Kd.at_int z0.out g0 o2 m2
         cases z5
         replace k0 := (HB.out.cell (World.block_lt_of_cell? w _ k0)).trans k0
         replace o2 := eq_true o2
         replace m2 := eq_true m2
         iterate 3 ((try go_quiet (first | (go_at_call 54; (with_reducible refine (spec_l1In.calls (rd b0 g0) 0 999 true _ A11.out).mono ?_); rintro e w' ⟨rfl, ⟨nd, rfl⟩⟩; (try first | exact ⟨rfl, _, World.drewN_drewN _ _ _⟩ | exact ⟨rfl, _, Eq.trans (World.drewN_drewN _ _ _) (congrArg (World.drewN _) (Nat.add_assoc _ _ _))⟩); obtain ⟨j9, g3, _, s2, _⟩ := info_parts info3; obtain ⟨s5, hA18, hC18⟩ := print_take_of (P := Try.prog) (Value.int .i64) 0 22 3 .i64 Try.underlying22 g3 s2 (some b1) g2 b0 g0 dt dt z3.out; have v1 := mk (Kd.C_of_reads (h1 := fun _ => rfl) (hA18 _ (Kd.reads_of_C z0.out))); have b2 := mk hC18; clear hA18 hC18 g3 s2; have q1 : 0 ≤ (g0 : Int) := dt; have o1 : g0 < (b0.length : Int) := dt; obtain ⟨s1, j5, d0⟩ := Kd.at_int z0.out g0 q1 o1; obtain rfl : b1 = s1 := (by injection j5); replace d0 := (HB.out.cell (World.block_lt_of_cell? w _ d0)).trans d0; replace q1 := eq_true q1; replace o1 := eq_true o1) | (go_at_call 55; (try rw [show (g0 : Int).toNat = (b0.take (g0 : Int).toNat).length by rw [List.length_take]; exact (Nat.min_eq_left (by first | omega | (simp at *; omega))).symm]); (with_reducible refine (spec_l4Has.calls k2 _ _ (b0.take (g0 : Int).toNat) (rd b0 g0) true _ ?side1 ?side2 A15.out).mono ?_); (case side1 => exact uc (Kd.C_below v1.out bl)); (case side2 => exact b2.out); rintro e w' ⟨rfl, ⟨nd, rfl⟩⟩; (try first | exact ⟨rfl, _, World.drewN_drewN _ _ _⟩ | exact ⟨rfl, _, Eq.trans (World.drewN_drewN _ _ _) (congrArg (World.drewN _) (Nat.add_assoc _ _ _))⟩)))); (try go_wp2_with (first | (go_at_call 54; (with_reducible refine (spec_l1In.calls (rd b0 g0) 0 999 true _ A11.out).mono ?_); rintro e w' ⟨rfl, ⟨nd, rfl⟩⟩; (try first | exact ⟨rfl, _, World.drewN_drewN _ _ _⟩ | exact ⟨rfl, _, Eq.trans (World.drewN_drewN _ _ _) (congrArg (World.drewN _) (Nat.add_assoc _ _ _))⟩); obtain ⟨j9, g3, _, s2, _⟩ := info_parts info3; obtain ⟨s5, hA18, hC18⟩ := print_take_of (P := Try.prog) (Value.int .i64) 0 22 3 .i64 Try.underlying22 g3 s2 (some b1) g2 b0 g0 dt dt z3.out; have v1 := mk (Kd.C_of_reads (h1 := fun _ => rfl) (hA18 _ (Kd.reads_of_C z0.out))); have b2 := mk hC18; clear hA18 hC18 g3 s2; have q1 : 0 ≤ (g0 : Int) := dt; have o1 : g0 < (b0.length : Int) := dt; obtain ⟨s1, j5, d0⟩ := Kd.at_int z0.out g0 q1 o1; obtain rfl : b1 = s1 := (by injection j5); replace d0 := (HB.out.cell (World.block_lt_of_cell? w _ d0)).trans d0; replace q1 := eq_true q1; replace o1 := eq_true o1) | (go_at_call 55; (try rw [show (g0 : Int).toNat = (b0.take (g0 : Int).toNat).length by rw [List.length_take]; exact (Nat.min_eq_left (by first | omega | (simp at *; omega))).symm]); (with_reducible refine (spec_l4Has.calls k2 _ _ (b0.take (g0 : Int).toNat) (rd b0 g0) true _ ?side1 ?side2 A15.out).mono ?_); (case side1 => exact uc (Kd.C_below v1.out bl)); (case side2 => exact b2.out); rintro e w' ⟨rfl, ⟨nd, rfl⟩⟩; (try first | exact ⟨rfl, _, World.drewN_drewN _ _ _⟩ | exact ⟨rfl, _, Eq.trans (World.drewN_drewN _ _ _) (congrArg (World.drewN _) (Nat.add_assoc _ _ _))⟩)))))
         go_ret
         exact ⟨rx, bl⟩
        ·replace c16 := Bool.eq_false_iff.mpr c16
         subst c16
         rw [if_neg nf] at H
         have H' := mk H
         clear H
         obtain ⟨v7, s7, q7, y6, v6, s6⟩ := bz3 q0
         have o2 : 0 ≤ (g0 : Int) := dt
         have m2 : g0 < (b0.length : Int) := dt
         obtain ⟨b1, z5, k0⟩ := Kd.at_int z0.out g0 o2 m2
         cases z5
         replace k0 := (HB.out.cell (World.block_lt_of_cell? w _ k0)).trans k0
         replace o2 := eq_true o2
         replace m2 := eq_true m2
         iterate 3 ((try go_quiet (first | (go_at_call 54; (with_reducible refine (spec_l1In.calls (rd b0 g0) 0 999 true _ A11.out).mono ?_); rintro e w' ⟨rfl, ⟨nd, rfl⟩⟩; (try first | exact ⟨rfl, _, World.drewN_drewN _ _ _⟩ | exact ⟨rfl, _, Eq.trans (World.drewN_drewN _ _ _) (congrArg (World.drewN _) (Nat.add_assoc _ _ _))⟩); obtain ⟨g9, d3, _, q2, _⟩ := info_parts info3; obtain ⟨q5, hA20, hC20⟩ := print_take_of (P := Try.prog) (Value.int .i64) 0 22 3 .i64 Try.underlying22 d3 q2 (some b1) g2 b0 g0 dt dt z3.out; have v1 := mk (Kd.C_of_reads (h1 := fun _ => rfl) (hA20 _ (Kd.reads_of_C z0.out))); have b2 := mk hC20; clear hA20 hC20 d3 q2; have q1 : 0 ≤ (g0 : Int) := dt; have o1 : g0 < (b0.length : Int) := dt; obtain ⟨s1, j5, d0⟩ := Kd.at_int z0.out g0 q1 o1; obtain rfl : b1 = s1 := (by injection j5); replace d0 := (HB.out.cell (World.block_lt_of_cell? w _ d0)).trans d0; replace q1 := eq_true q1; replace o1 := eq_true o1) | (go_at_call 55; (try rw [show (g0 : Int).toNat = (b0.take (g0 : Int).toNat).length by rw [List.length_take]; exact (Nat.min_eq_left (by first | omega | (simp at *; omega))).symm]); (with_reducible refine (spec_l4Has.calls k2 _ _ (b0.take (g0 : Int).toNat) (rd b0 g0) false _ ?side1 ?side2 A15.out).mono ?_); (case side1 => exact uc (Kd.C_below v1.out bl)); (case side2 => exact b2.out); rintro e w' ⟨rfl, ⟨nd, rfl⟩⟩; (try first | exact ⟨rfl, _, World.drewN_drewN _ _ _⟩ | exact ⟨rfl, _, Eq.trans (World.drewN_drewN _ _ _) (congrArg (World.drewN _) (Nat.add_assoc _ _ _))⟩)))); (try go_wp2_with (first | (go_at_call 54; (with_reducible refine (spec_l1In.calls (rd b0 g0) 0 999 true _ A11.out).mono ?_); rintro e w' ⟨rfl, ⟨nd, rfl⟩⟩; (try first | exact ⟨rfl, _, World.drewN_drewN _ _ _⟩ | exact ⟨rfl, _, Eq.trans (World.drewN_drewN _ _ _) (congrArg (World.drewN _) (Nat.add_assoc _ _ _))⟩); obtain ⟨g9, d3, _, q2, _⟩ := info_parts info3; obtain ⟨q5, hA20, hC20⟩ := print_take_of (P := Try.prog) (Value.int .i64) 0 22 3 .i64 Try.underlying22 d3 q2 (some b1) g2 b0 g0 dt dt z3.out; have v1 := mk (Kd.C_of_reads (h1 := fun _ => rfl) (hA20 _ (Kd.reads_of_C z0.out))); have b2 := mk hC20; clear hA20 hC20 d3 q2; have q1 : 0 ≤ (g0 : Int) := dt; have o1 : g0 < (b0.length : Int) := dt; obtain ⟨s1, j5, d0⟩ := Kd.at_int z0.out g0 q1 o1; obtain rfl : b1 = s1 := (by injection j5); replace d0 := (HB.out.cell (World.block_lt_of_cell? w _ d0)).trans d0; replace q1 := eq_true q1; replace o1 := eq_true o1) | (go_at_call 55; (try rw [show (g0 : Int).toNat = (b0.take (g0 : Int).toNat).length by rw [List.length_take]; exact (Nat.min_eq_left (by first | omega | (simp at *; omega))).symm]); (with_reducible refine (spec_l4Has.calls k2 _ _ (b0.take (g0 : Int).toNat) (rd b0 g0) false _ ?side1 ?side2 A15.out).mono ?_); (case side1 => exact uc (Kd.C_below v1.out bl)); (case side2 => exact b2.out); rintro e w' ⟨rfl, ⟨nd, rfl⟩⟩; (try first | exact ⟨rfl, _, World.drewN_drewN _ _ _⟩ | exact ⟨rfl, _, Eq.trans (World.drewN_drewN _ _ _) (congrArg (World.drewN _) (Nat.add_assoc _ _ _))⟩)))))
         go_roundg k2
         case measure => have := HJ1.out; have := HK2.out; omega
         case rel => exact ⟨(wrap64 (g0 + 1)), (by first | rfl | (simp; done) | (simp [*]; done)), H', ⟨by have := HJ1.out; have := HK2.out; omega⟩, ⟨ub q0.out⟩, ⟨bl⟩⟩
       ·replace c12 := Bool.eq_false_iff.mpr c12
        subst c12
        rw [if_neg nf] at H
        obtain rfl := Option.some.inj H
        obtain ⟨o7, m7, k7, q6, o6, m6⟩ := bz3 q0
        have o2 : 0 ≤ (g0 : Int) := dt
        have m2 : g0 < (b0.length : Int) := dt
        obtain ⟨b1, z5, k0⟩ := Kd.at_int z0.out g0 o2 m2
        cases z5
        replace k0 := (HB.out.cell (World.block_lt_of_cell? w _ k0)).trans k0
        replace o2 := eq_true o2
        replace m2 := eq_true m2
        iterate 3 ((try go_quiet (first | (go_at_call 54; (with_reducible refine (spec_l1In.calls (rd b0 g0) 0 999 false _ A11.out).mono ?_); rintro e w' ⟨rfl, ⟨nd, rfl⟩⟩; (try first | exact ⟨rfl, _, World.drewN_drewN _ _ _⟩ | exact ⟨rfl, _, Eq.trans (World.drewN_drewN _ _ _) (congrArg (World.drewN _) (Nat.add_assoc _ _ _))⟩)))); (try go_wp2_with (first | (go_at_call 54; (with_reducible refine (spec_l1In.calls (rd b0 g0) 0 999 false _ A11.out).mono ?_); rintro e w' ⟨rfl, ⟨nd, rfl⟩⟩; (try first | exact ⟨rfl, _, World.drewN_drewN _ _ _⟩ | exact ⟨rfl, _, Eq.trans (World.drewN_drewN _ _ _) (congrArg (World.drewN _) (Nat.add_assoc _ _ _))⟩)))))
        go_ret
        exact ⟨rx, bl⟩
      ·have k9 : decide (g0 < (b0.length : Int)) = false := decide_eq_false c9
       clear c9
       revert H; refine bo ?_; rintro a6 A22 H
       obtain rfl := Option.some.inj H
       obtain ⟨j7, g7, d7, k6, j6, g6⟩ := bz3 q0
       iterate 3 ((try go_quiet (first | (go_at_call 56; (with_reducible refine (spec_l4Pivots.calls k2 _ _ m0 _ _ v0 a6 _ ?side1 ?side2 ?side3 ?side4 A22.out).mono ?_); (case side1 => exact cb z1 HB); (case side2 => exact d2.out); (case side3 => exact cb k5 HB); (case side4 => exact m5.out); rintro e w24 ⟨rfl, hb⟩; replace q0 := wb q0 hb; replace HB := wh hb; (try clear hb)))); (try go_wp2_with (first | (go_at_call 56; (with_reducible refine (spec_l4Pivots.calls k2 _ _ m0 _ _ v0 a6 _ ?side1 ?side2 ?side3 ?side4 A22.out).mono ?_); (case side1 => exact cb z1 HB); (case side2 => exact d2.out); (case side3 => exact cb k5 HB); (case side4 => exact m5.out); rintro e w24 ⟨rfl, hb⟩; replace q0 := wb q0 hb; replace HB := wh hb; (try clear hb)))))
       go_ret
       exact ⟨rx, bl⟩

/-! ### spec_FindRow: function 27 -/
def spec_FindRow.l0 : Nat → Int → Int → List Int → List Int → List (S50) → Option (Int)
 | 0, _, _, _, _, _ => none
 | k + 1, x1, x5, b5, m1, a5 => if x5 < (m1.length : Int) then (if 0 ≤ x5 then (if (rd m1 x5) = x1 then (some x5) else (spec_FindRow.l0 k x1 (wrap64 (x5 + 1)) b5 m1 a5)) else (none)) else (some (-1))
def spec_FindRow.f (k : Nat) (m0 : List Int) (b0 : List Int) (v0 : List (S50)) (a1 : Int) : Option (Int) := spec_FindRow.l0 k a1 0 m0 b0 v0
theorem spec_FindRow.mono_l : ∀ k, (∀ y0 y1 y2 y3 y4, LeO (spec_FindRow.l0 k y0 y1 y2 y3 y4) (spec_FindRow.l0 (k + 1) y0 y1 y2 y3 y4))
 | 0 => fun _ _ _ _ _ r h => by simp [spec_FindRow.l0] at h
 | k + 1 => by
  have ih0 := spec_FindRow.mono_l k
  ·intro y0 y1 y2 y3 y4
   unfold spec_FindRow.l0
   exact mo
theorem spec_FindRow.mono : ∀ a0 a1 a2 a3 k, LeO (spec_FindRow.f k a0 a1 a2 a3) (spec_FindRow.f (k + 1) a0 a1 a2 a3) := by
 intro a0 a1 a2 a3 k
 have ih0 := spec_FindRow.mono_l k
 unfold spec_FindRow.f
 exact mo
instance spec_FindRow.mi (a0 a1 a2 a3 k) : LeC (spec_FindRow.f k a0 a1 a2 a3) (spec_FindRow.f (k + 1) a0 a1 a2 a3) := ⟨spec_FindRow.mono a0 a1 a2 a3 k⟩
set_option maxHeartbeats 8000000 in
set_option maxRecDepth 100000 in
theorem spec_FindRow.calls (k : Nat) (j4 : Option Addr) (b4 : Nat) (m0 : List Int) (g4 : Option Addr) (g2 : Nat) (b0 : List Int) (d4 : Option Addr) (a4 : Nat) (v0 : List (S50)) (a1 : Int) (r : Int) (w : World) (b3 : Kd.C (Kd.int .i64) w j4 m0.length m0) (hc0_0 : m0.length ≤ b4) (z2 : Kd.C (Kd.int .i64) w g4 b0.length b0) (hc0_1 : b0.length ≤ g2) (v2 : Kd.C k50 w d4 v0.length v0) (hc0_2 : v0.length ≤ a4) (h : spec_FindRow.f k m0 b0 v0 a1 = some r) :
  Calls Try.prog 27 #[.agg #[.slice j4 m0.length b4, .slice g4 b0.length g2, .slice d4 v0.length a4], .int .i64 a1] w fun e w' => e = .returned (.int .i64 r) ∧ Below w.heap.size w w' := by
 have hu29 := Try.underlying29
 have z1 := mk b3
 have d2 := mk hc0_0
 clear b3 hc0_0
 have z0 := mk z2
 have z3 := mk hc0_1
 clear z2 hc0_1
 have k5 := mk v2
 have m5 := mk hc0_2
 clear v2 hc0_2
 have HB := mk (Below.refl w.heap.size w)
 have H : (spec_FindRow.l0 k a1 0 m0 b0 v0) = some r := h
 clear h
 have H' := mk H
 clear H
 go_enter Try.func27, Try.ntmps27
 go_wp2_with (first | ((with_reducible refine gate_dst (N := 2) rfl ?_); refine bx 2 #[.slice j4 m0.length b4, .slice g4 b0.length g2, .slice d4 v0.length a4] 29 ?_; intro b8 hg w3 hbox hb; have j2 := mk hbox; have aa0 := wg hg; replace HB := wh hb; clear hb hbox hg))
 go_loopg [5] k (fun kq v5 w' => ∃ (j1 : Int), v5 = .int .i64 j1 ∧ Aside0 (spec_FindRow.l0 kq a1 j1 m0 b0 v0 = some r) ∧ Aside0 (kq ≤ k) ∧ Aside0 (w'.heap[b8]? = some (.cells #[(.slice j4 m0.length b4), (.slice g4 b0.length g2), (.slice d4 v0.length a4)] 29 (0, 0))) ∧ Aside0 (Below w.heap.size w w'))
 case atStart => exact ⟨(0), (by first | rfl | (simp; done) | (simp [*]; done)), H', ⟨Nat.le_refl _⟩, ⟨ub j2.out⟩, ⟨bl⟩⟩
 case round =>
  clear H'
  try clear c2
  try clear p2
  obtain ⟨j1, rfl, HA, HK1, j2, HB⟩ := hrel
  cases gk with
  | zero => exact absurd HA.out (by simp [spec_FindRow.l0])
  | succ k1 =>
   have H := HA.out
   clear HA
   simp only [spec_FindRow.l0] at H
   revert H; refine ci (fun c4 H => ?_) fun c4 H => ?_
   ·have q9 : decide (j1 < (b0.length : Int)) = true := decide_eq_true c4
    clear c4
    revert H; refine ca fun c5 H => ?_
    have da0 : decide (0 ≤ j1) = true := decide_eq_true c5
    clear c5
    revert H; refine ci (fun c6 H => ?_) fun c6 H => ?_
    ·have o9 : ((rd b0 j1) == a1) = true := beq_iff_eq.mpr c6
     have m9 : ((rd b0 j1) != a1) = false := bne_eq_false_iff_eq.mpr c6
     clear c6
     obtain rfl := Option.some.inj H
     obtain ⟨s3, q3, o3, m3, k3, j3⟩ := bz3 j2
     have g5 : 0 ≤ (j1 : Int) := dt
     have d5 : j1 < (b0.length : Int) := dt
     obtain ⟨g8, d8, s0⟩ := Kd.at_int z0.out j1 g5 d5
     cases d8
     replace s0 := (HB.out.cell (World.block_lt_of_cell? w _ s0)).trans s0
     replace g5 := eq_true g5
     replace d5 := eq_true d5
     go_wp2
     go_ret
     exact ⟨rx, bl⟩
    ·have o9 : ((rd b0 j1) == a1) = false := beq_eq_false_iff_ne.mpr c6
     have m9 : ((rd b0 j1) != a1) = true := bne_iff_ne.mpr c6
     have H' := mk H
     clear H
     obtain ⟨d9, b9, a9, s8, q8, o8⟩ := bz3 j2
     have g5 : 0 ≤ (j1 : Int) := dt
     have d5 : j1 < (b0.length : Int) := dt
     obtain ⟨g8, d8, s0⟩ := Kd.at_int z0.out j1 g5 d5
     cases d8
     replace s0 := (HB.out.cell (World.block_lt_of_cell? w _ s0)).trans s0
     replace g5 := eq_true g5
     replace d5 := eq_true d5
     go_wp2
     go_roundg k1
     case measure => have := HK1.out; omega
     case rel => exact ⟨(wrap64 (j1 + 1)), (by first | rfl | (simp; done) | (simp [*]; done)), H', ⟨by have := HK1.out; omega⟩, ⟨ub j2.out⟩, ⟨bl⟩⟩
   ·have q9 : decide (j1 < (b0.length : Int)) = false := decide_eq_false c4
    clear c4
    obtain rfl := Option.some.inj H
    obtain ⟨z8, y8, v8, m8, k8, j8⟩ := bz3 j2
    go_wp2
    go_ret
    exact ⟨rx, bl⟩

end Go.Proofs.Ytlikcmonejefoab.PFnRipples
