-- printed by a program of this session, a turned copy of the print of the kit
import Derived.Test.YtlikcmonejefoabSr
import Derived.Test.YtlikcmonejefoabPFnRipplesx0
import Derived.Test.YtlikcmonejefoabPFnRipplesx4
import Derived.Test.YtlikcmonejefoabPFnRipplesx5
import Derived.Test.YtlikcmonejefoabPFnRipplesx6
import Derived.Test.YtlikcmonejefoabPFnRipplesx10
namespace Go.Proofs.Ytlikcmonejefoab.PFnRipples
open Go.RowKit Go.Proofs.YtlikcmonejefoabW.PrintWords Go.Proofs.YtlikcmonejefoabW.PrintLast Go.Proofs.YtlikcmonejefoabW.PrintMore Go.Proofs.Ytlikcmonejefoab.Sq
attribute [local go_sem] max2_int min2_int max_two min_two max_three min_three max_four min_four Giv.cell_twice   -- for this text's walks alone
set_option linter.unusedVariables false
set_option linter.unusedSimpArgs false

/-! ### spec_RippleInsert: function 13 -/
mutual
def spec_RippleInsert.j0 : Nat → Bool → List Int → List Int → List (S50) → Int → Int → Option (List Int × List Int × (List (S50)) × Int × Bool)
 | 0, _, _, _, _, _, _ => none
 | k + 1, x32, o5, ka0, ja0, d4, k4 => if x32 = true then ((spec_l4Copy.f o5 ka0 ja0).bind fun qa8 => (some (qa8.1, qa8.2.1, qa8.2.2, 0, false))) else ((spec_l4Copy.f o5 ka0 ja0).bind fun ba0 => (if ba0.1.length < 17592186044416 then (if ba0.2.1.length < 17592186044416 then (spec_RippleInsert.l0 k (o5.length : Int) 0 (wrap64 ((ba0.2.2.length : Int) - 1)) d4 k4 (ba0.1 ++ [0]) (ba0.2.1 ++ [0]) ba0.2.2) else (none)) else (none)))
def spec_RippleInsert.l0 : Nat → Int → Int → Int → Int → Int → List Int → List Int → List (S50) → Option (List Int × List Int × (List (S50)) × Int × Bool)
 | 0, _, _, _, _, _, _, _, _ => none
 | k + 1, x8, x9, x10, d4, k4, g3, d3, k1 => if x10 ≥ 0 then (if 0 ≤ x10 then (if x10 < (k1.length : Int) then (if ((rd_T50 k1 x10).f0) > d4 then (if 0 ≤ ((rd_T50 k1 x10).f1) then (if ((rd_T50 k1 x10).f1) < (g3.length : Int) then (if 0 ≤ x8 then (if x8 < (g3.length : Int) then (if ((rd_T50 k1 x10).f1) < (d3.length : Int) then (if x8 < (d3.length : Int) then ((spec_l10Move.f ((rd_T50 k1 x10).f1) x8).bind fun oa5 => (spec_RippleInsert.l0 k ((rd_T50 k1 x10).f1) (wrap64 (x9 + oa5)) (wrap64 (x10 - 1)) d4 k4 (g3.set (x8 : Int).toNat (rd g3 ((rd_T50 k1 x10).f1))) (d3.set (x8 : Int).toNat (rd d3 ((rd_T50 k1 x10).f1))) (k1.set (x10 : Int).toNat (⟨(rd_T50 k1 x10).f0, wrap64 (((rd_T50 k1 x10).f1) + 1)⟩ : S50)))) else (none)) else (none)) else (none)) else (none)) else (none)) else (none)) else (if 0 ≤ x8 then (if x8 < (g3.length : Int) then (if x8 < (d3.length : Int) then (some ((g3.set (x8 : Int).toNat d4), (d3.set (x8 : Int).toNat k4), k1, x9, true)) else (none)) else (none)) else (none))) else (none)) else (none)) else (if 0 ≤ x8 then (if x8 < (g3.length : Int) then (if x8 < (d3.length : Int) then (some ((g3.set (x8 : Int).toNat d4), (d3.set (x8 : Int).toNat k4), k1, x9, true)) else (none)) else (none)) else (none))
end
def spec_RippleInsert.f (k : Nat) (s1 : List Int) (g2 : List Int) (d2 : List (S50)) (a1_0 : Int) (a1_1 : Int) : Option (List Int × List Int × (List (S50)) × Int × Bool) := (spec_IsCracker.f k s1 g2 d2).bind fun da9 => (if da9 = true then ((spec_IsItem.f a1_0 a1_1).bind fun ba9 => (if ba9 = true then ((spec_FindRow.f k s1 g2 d2 a1_1).bind fun ka5 => (if ka5 ≥ 0 then (spec_RippleInsert.j0 k true s1 g2 d2 a1_0 a1_1) else (spec_RippleInsert.j0 k (decide ((s1.length : Int) ≥ 64)) s1 g2 d2 a1_0 a1_1))) else (spec_RippleInsert.j0 k true s1 g2 d2 a1_0 a1_1))) else (spec_RippleInsert.j0 k true s1 g2 d2 a1_0 a1_1))
theorem spec_RippleInsert.mono_l : ∀ k, (∀ y0 y1 y2 y3 y4 y5, LeO (spec_RippleInsert.j0 k y0 y1 y2 y3 y4 y5) (spec_RippleInsert.j0 (k + 1) y0 y1 y2 y3 y4 y5)) ∧ (∀ y0 y1 y2 y3 y4 y5 y6 y7, LeO (spec_RippleInsert.l0 k y0 y1 y2 y3 y4 y5 y6 y7) (spec_RippleInsert.l0 (k + 1) y0 y1 y2 y3 y4 y5 y6 y7))
 | 0 => ⟨fun _ _ _ _ _ _ r h => by simp [spec_RippleInsert.j0] at h, fun _ _ _ _ _ _ _ _ r h => by simp [spec_RippleInsert.l0] at h⟩
 | k + 1 => by
  obtain ⟨ih0, ih1⟩ := spec_RippleInsert.mono_l k
  refine ⟨?_, ?_⟩
  ·intro y0 y1 y2 y3 y4 y5
   unfold spec_RippleInsert.j0
   exact mo
  ·intro y0 y1 y2 y3 y4 y5 y6 y7
   unfold spec_RippleInsert.l0
   exact mo
theorem spec_RippleInsert.mono : ∀ a0 a1 a2 a3 a4 k, LeO (spec_RippleInsert.f k a0 a1 a2 a3 a4) (spec_RippleInsert.f (k + 1) a0 a1 a2 a3 a4) := by
 intro a0 a1 a2 a3 a4 k
 obtain ⟨ih0, ih1⟩ := spec_RippleInsert.mono_l k
 unfold spec_RippleInsert.f
 exact mo
instance spec_RippleInsert.mi (a0 a1 a2 a3 a4 k) : LeC (spec_RippleInsert.f k a0 a1 a2 a3 a4) (spec_RippleInsert.f (k + 1) a0 a1 a2 a3 a4) := ⟨spec_RippleInsert.mono a0 a1 a2 a3 a4 k⟩
set_option maxHeartbeats 8000000 in
set_option maxRecDepth 100000 in
theorem spec_RippleInsert.calls (k : Nat) (q9 : Option Addr) (k9 : Nat) (s1 : List Int) (o9 : Option Addr) (j9 : Nat) (g2 : List Int) (m9 : Option Addr) (g9 : Nat) (d2 : List (S50)) (a1_0 : Int) (a1_1 : Int) (r1 : List Int) (r2 : List Int) (r3 : List (S50)) (r4 : Int) (r5 : Bool) (w : World) (ka9 : Kd.C (Kd.int .i64) w q9 s1.length s1) (hc0_0 : s1.length ≤ k9) (ja9 : Kd.C (Kd.int .i64) w o9 g2.length g2) (hc0_1 : g2.length ≤ j9) (ga9 : Kd.C k50 w m9 d2.length d2) (hc0_2 : d2.length ≤ g9) (h : spec_RippleInsert.f k s1 g2 d2 a1_0 a1_1 = some (r1, r2, r3, r4, r5)) :
  Calls Try.prog 13 #[.agg #[.slice q9 s1.length k9, .slice o9 g2.length j9, .slice m9 d2.length g9], .agg #[.int .i64 a1_0, .int .i64 a1_1]] w fun e w' => ∃ v0_ v1_ v2_ : Value, e = .returned (.tuple #[.agg #[v0_, v1_, v2_], .int .i64 r4, .bool r5]) ∧ Kd.R (Kd.int .i64) 3 w' w.heap.size (fun k_ => some k_ ≠ (v1_ : Value).ownBlock) v0_ r1 ∧ Kd.R (Kd.int .i64) 3 w' w.heap.size (fun k_ => some k_ ≠ (v0_ : Value).ownBlock) v1_ r2 ∧ Kd.R k50 50 w' w.heap.size (fun _ => True) v2_ r3 ∧ Below w.heap.size w w' := by
 have hu29 := Try.underlying29
 have hu39 := Try.underlying39
 have o3 := mk ka9
 have z3 := mk hc0_0
 clear ka9 hc0_0
 have m3 := mk ja9
 have v3 := mk hc0_1
 clear ja9 hc0_1
 have k3 := mk ga9
 have s3 := mk hc0_2
 clear ga9 hc0_2
 have HB := mk (Below.refl w.heap.size w)
 have H : ((spec_IsCracker.f k s1 g2 d2).bind fun da9 => (if da9 = true then ((spec_IsItem.f a1_0 a1_1).bind fun ba9 => (if ba9 = true then ((spec_FindRow.f k s1 g2 d2 a1_1).bind fun ka5 => (if ka5 ≥ 0 then (spec_RippleInsert.j0 k true s1 g2 d2 a1_0 a1_1) else (spec_RippleInsert.j0 k (decide ((s1.length : Int) ≥ 64)) s1 g2 d2 a1_0 a1_1))) else (spec_RippleInsert.j0 k true s1 g2 d2 a1_0 a1_1))) else (spec_RippleInsert.j0 k true s1 g2 d2 a1_0 a1_1))) = some (r1, r2, r3, r4, r5) := h
 clear h
 have HC3 := mk H
 clear H
 go_enter Try.func13, Try.ntmps13
 iterate 3 ((try go_quiet (fail)); (try go_upto_region 1 with (first | ((with_reducible refine gate_dst (N := 2) rfl ?_); (try (refine gate_guard (by rfl) ?_; dsimp only)); refine bx 2 #[.slice q9 s1.length k9, .slice o9 g2.length j9, .slice m9 d2.length g9] 29 ?_; intro s4 hg w4 hbox hb; have q0 := mk hbox; have ad5 := wg hg; replace HB := wh hb; clear hb hbox hg) | ((with_reducible refine gate_dst (N := 3) rfl ?_); (try (refine gate_guard (by rfl) ?_; dsimp only)); refine bx 3 #[.int .i64 a1_0, .int .i64 a1_1] 39 ?_; intro q4 hg w5 hbox hb; have s0 := mk hbox; have zd4 := wg hg; replace HB := wh hb; have o1 := nl q0 hg; have m1 := nr q0 hg; replace q0 := wb q0 hb; clear hb hbox hg) | ((with_reducible refine gate_dst (N := 4) rfl ?_); (try (refine gate_guard (by rfl) ?_; dsimp only)); refine bx 4 #[.slice none 0 0, .slice none 0 0, .slice none 0 0] 29 ?_; intro b4 hg w6 hbox hb; have v0 := mk hbox; have yd4 := wg hg; replace HB := wh hb; have b2 := nl q0 hg; have z1 := nr q0 hg; replace q0 := wb q0 hb; have g1 := nl s0 hg; have d1 := nr s0 hg; replace s0 := wb s0 hb; clear hb hbox hg))))
 (try simp only [Act.put, List.setIfInBounds_toArray, List.set_cons_zero, List.set_cons_succ])
 go_cut [32] (fun v32 wc => ∃ (kq : Nat) (ma5 : Bool), v32 = .bool ma5 ∧ Aside0 (spec_RippleInsert.j0 kq ma5 s1 g2 d2 a1_0 a1_1 = some (r1, r2, r3, r4, r5)) ∧ Aside0 (kq ≤ k) ∧ Aside0 (wc.heap[s4]? = some (.cells #[(.slice q9 s1.length k9), (.slice o9 g2.length j9), (.slice m9 d2.length g9)] 29 (0, 0))) ∧ Aside0 (wc.heap[q4]? = some (.cells #[.int .i64 a1_0, .int .i64 a1_1] 39 (0, 0))) ∧ Aside0 (wc.heap[b4]? = some (.cells #[(.slice none 0 0), (.slice none 0 0), (.slice none 0 0)] 29 (0, 0))) ∧ Aside0 (Below w.heap.size w wc))
 case first =>
  have H := HC3.out
  clear HC3
  revert H; refine bo ?_; rintro da9 A7 H
  by_cases c8 : da9 = true
  ·subst c8
   rw [if_pos rfl] at H
   revert H; refine bo ?_; rintro ba9 A9 H
   by_cases c10 : ba9 = true
   ·subst c10
    rw [if_pos rfl] at H
    revert H; refine bo ?_; rintro ka5 A11 H
    revert H; refine ci (fun c12 H => ?_) fun c12 H => ?_
    ·have b9 : decide (0 ≤ ka5) = true := decide_eq_true c12
     clear c12
     (first | rw [b9] | (simp only [i64_w, i32_w]; rw [b9]) | skip)
     have H' := mk H
     clear H
     have qd2 := o1.out
     have jd1 := m1.out
     have od2 := b2.out
     have gd1 := z1.out
     obtain ⟨va4, sa4, qa4, sa2, qa2, oa2⟩ := bz3 q0
     iterate 3 ((try go_quiet (first | (go_at_call 23; (with_reducible refine (spec_IsCracker.calls k _ _ s1 _ _ g2 _ _ d2 true _ ?side1 ?side2 ?side3 ?side4 ?side5 ?side6 A7.out).mono ?_); (case side1 => exact cb o3 HB); (case side2 => exact z3.out); (case side3 => exact cb m3 HB); (case side4 => exact v3.out); (case side5 => exact cb k3 HB); (case side6 => exact s3.out); rintro e w16 ⟨rfl, hb⟩; replace q0 := wb q0 hb; replace s0 := wb s0 hb; replace v0 := wb v0 hb; replace HB := wh hb; (try clear hb); have mb9 := g1.out; have zb8 := d1.out; obtain ⟨a9, z8, j7, g7⟩ := bz2 s0) | (go_at_call 40; (with_reducible refine (spec_IsItem.calls a1_0 a1_1 true _ A9.out).mono ?_); rintro e w19 ⟨rfl, hb⟩; replace q0 := wb q0 hb; replace s0 := wb s0 hb; replace v0 := wb v0 hb; replace HB := wh hb; (try clear hb); obtain ⟨y8, s8, q8, d7, b7, a7⟩ := bz3 q0; obtain ⟨o8, m8, z6, v6⟩ := bz2 s0) | (go_at_call 27; (with_reducible refine (spec_FindRow.calls k _ _ s1 _ _ g2 _ _ d2 a1_1 ka5 _ ?side1 ?side2 ?side3 ?side4 ?side5 ?side6 A11.out).mono ?_); (case side1 => exact cb o3 HB); (case side2 => exact z3.out); (case side3 => exact cb m3 HB); (case side4 => exact v3.out); (case side5 => exact cb k3 HB); (case side6 => exact s3.out); rintro e w22 ⟨rfl, hb⟩; replace q0 := wb q0 hb; replace s0 := wb s0 hb; replace v0 := wb v0 hb; replace HB := wh hb; (try clear hb)))); (try go_wp2_with (first | (go_at_call 23; (with_reducible refine (spec_IsCracker.calls k _ _ s1 _ _ g2 _ _ d2 true _ ?side1 ?side2 ?side3 ?side4 ?side5 ?side6 A7.out).mono ?_); (case side1 => exact cb o3 HB); (case side2 => exact z3.out); (case side3 => exact cb m3 HB); (case side4 => exact v3.out); (case side5 => exact cb k3 HB); (case side6 => exact s3.out); rintro e w16 ⟨rfl, hb⟩; replace q0 := wb q0 hb; replace s0 := wb s0 hb; replace v0 := wb v0 hb; replace HB := wh hb; (try clear hb); have mb9 := g1.out; have zb8 := d1.out; obtain ⟨a9, z8, j7, g7⟩ := bz2 s0) | (go_at_call 40; (with_reducible refine (spec_IsItem.calls a1_0 a1_1 true _ A9.out).mono ?_); rintro e w19 ⟨rfl, hb⟩; replace q0 := wb q0 hb; replace s0 := wb s0 hb; replace v0 := wb v0 hb; replace HB := wh hb; (try clear hb); obtain ⟨y8, s8, q8, d7, b7, a7⟩ := bz3 q0; obtain ⟨o8, m8, z6, v6⟩ := bz2 s0) | (go_at_call 27; (with_reducible refine (spec_FindRow.calls k _ _ s1 _ _ g2 _ _ d2 a1_1 ka5 _ ?side1 ?side2 ?side3 ?side4 ?side5 ?side6 A11.out).mono ?_); (case side1 => exact cb o3 HB); (case side2 => exact z3.out); (case side3 => exact cb m3 HB); (case side4 => exact v3.out); (case side5 => exact cb k3 HB); (case side6 => exact s3.out); rintro e w22 ⟨rfl, hb⟩; replace q0 := wb q0 hb; replace s0 := wb s0 hb; replace v0 := wb v0 hb; replace HB := wh hb; (try clear hb)))))
     go_meet
     case rel => exact ⟨_, (true), (by first | rfl | (simp; done) | (simp [*]; done)), H', ⟨by first | omega | exact Nat.le_refl _⟩, ⟨ub q0.out⟩, ⟨ub s0.out⟩, ⟨ub v0.out⟩, ⟨bl⟩⟩
    ·have b9 : decide (0 ≤ ka5) = false := decide_eq_false c12
     clear c12
     (first | rw [b9] | (simp only [i64_w, i32_w]; rw [b9]) | skip)
     have H' := mk H
     clear H
     have md2 := o1.out
     have dd1 := m1.out
     have kd2 := b2.out
     have bd1 := z1.out
     obtain ⟨oa4, ma4, ka4, ma2, ka2, ja2⟩ := bz3 q0
     iterate 3 ((try go_quiet (first | (go_at_call 23; (with_reducible refine (spec_IsCracker.calls k _ _ s1 _ _ g2 _ _ d2 true _ ?side1 ?side2 ?side3 ?side4 ?side5 ?side6 A7.out).mono ?_); (case side1 => exact cb o3 HB); (case side2 => exact z3.out); (case side3 => exact cb m3 HB); (case side4 => exact v3.out); (case side5 => exact cb k3 HB); (case side6 => exact s3.out); rintro e w26 ⟨rfl, hb⟩; replace q0 := wb q0 hb; replace s0 := wb s0 hb; replace v0 := wb v0 hb; replace HB := wh hb; (try clear hb); have kb9 := g1.out; have yb8 := d1.out; obtain ⟨k8, j8, s6, q6⟩ := bz2 s0) | (go_at_call 40; (with_reducible refine (spec_IsItem.calls a1_0 a1_1 true _ A9.out).mono ?_); rintro e w29 ⟨rfl, hb⟩; replace q0 := wb q0 hb; replace s0 := wb s0 hb; replace v0 := wb v0 hb; replace HB := wh hb; (try clear hb); obtain ⟨g8, d8, b8, o6, m6, k6⟩ := bz3 q0; obtain ⟨a8, z7, j6, g6⟩ := bz2 s0) | (go_at_call 27; (with_reducible refine (spec_FindRow.calls k _ _ s1 _ _ g2 _ _ d2 a1_1 ka5 _ ?side1 ?side2 ?side3 ?side4 ?side5 ?side6 A11.out).mono ?_); (case side1 => exact cb o3 HB); (case side2 => exact z3.out); (case side3 => exact cb m3 HB); (case side4 => exact v3.out); (case side5 => exact cb k3 HB); (case side6 => exact s3.out); rintro e w32 ⟨rfl, hb⟩; replace q0 := wb q0 hb; replace s0 := wb s0 hb; replace v0 := wb v0 hb; replace HB := wh hb; (try clear hb); obtain ⟨v7, s7, q7, d6, b6, a6⟩ := bz3 q0))); (try go_wp2_with (first | (go_at_call 23; (with_reducible refine (spec_IsCracker.calls k _ _ s1 _ _ g2 _ _ d2 true _ ?side1 ?side2 ?side3 ?side4 ?side5 ?side6 A7.out).mono ?_); (case side1 => exact cb o3 HB); (case side2 => exact z3.out); (case side3 => exact cb m3 HB); (case side4 => exact v3.out); (case side5 => exact cb k3 HB); (case side6 => exact s3.out); rintro e w26 ⟨rfl, hb⟩; replace q0 := wb q0 hb; replace s0 := wb s0 hb; replace v0 := wb v0 hb; replace HB := wh hb; (try clear hb); have kb9 := g1.out; have yb8 := d1.out; obtain ⟨k8, j8, s6, q6⟩ := bz2 s0) | (go_at_call 40; (with_reducible refine (spec_IsItem.calls a1_0 a1_1 true _ A9.out).mono ?_); rintro e w29 ⟨rfl, hb⟩; replace q0 := wb q0 hb; replace s0 := wb s0 hb; replace v0 := wb v0 hb; replace HB := wh hb; (try clear hb); obtain ⟨g8, d8, b8, o6, m6, k6⟩ := bz3 q0; obtain ⟨a8, z7, j6, g6⟩ := bz2 s0) | (go_at_call 27; (with_reducible refine (spec_FindRow.calls k _ _ s1 _ _ g2 _ _ d2 a1_1 ka5 _ ?side1 ?side2 ?side3 ?side4 ?side5 ?side6 A11.out).mono ?_); (case side1 => exact cb o3 HB); (case side2 => exact z3.out); (case side3 => exact cb m3 HB); (case side4 => exact v3.out); (case side5 => exact cb k3 HB); (case side6 => exact s3.out); rintro e w32 ⟨rfl, hb⟩; replace q0 := wb q0 hb; replace s0 := wb s0 hb; replace v0 := wb v0 hb; replace HB := wh hb; (try clear hb); obtain ⟨v7, s7, q7, d6, b6, a6⟩ := bz3 q0))))
     go_meet
     case rel => exact ⟨_, (decide ((s1.length : Int) ≥ 64)), (by first | rfl | (simp; done) | (simp [*]; done)), H', ⟨by first | omega | exact Nat.le_refl _⟩, ⟨ub q0.out⟩, ⟨ub s0.out⟩, ⟨ub v0.out⟩, ⟨bl⟩⟩
   ·replace c10 := Bool.eq_false_iff.mpr c10
    subst c10
    rw [if_neg nf] at H
    have H' := mk H
    clear H
    have jd2 := o1.out
    have ad1 := m1.out
    have gd2 := b2.out
    have zd0 := z1.out
    obtain ⟨ja4, ga4, da4, ga2, da2, ba2⟩ := bz3 q0
    iterate 3 ((try go_quiet (first | (go_at_call 23; (with_reducible refine (spec_IsCracker.calls k _ _ s1 _ _ g2 _ _ d2 true _ ?side1 ?side2 ?side3 ?side4 ?side5 ?side6 A7.out).mono ?_); (case side1 => exact cb o3 HB); (case side2 => exact z3.out); (case side3 => exact cb m3 HB); (case side4 => exact v3.out); (case side5 => exact cb k3 HB); (case side6 => exact s3.out); rintro e w37 ⟨rfl, hb⟩; replace q0 := wb q0 hb; replace s0 := wb s0 hb; replace v0 := wb v0 hb; replace HB := wh hb; (try clear hb); have jb9 := g1.out; have vb8 := d1.out; obtain ⟨o7, m7, z5, v5⟩ := bz2 s0) | (go_at_call 40; (with_reducible refine (spec_IsItem.calls a1_0 a1_1 false _ A9.out).mono ?_); rintro e w40 ⟨rfl, hb⟩; replace q0 := wb q0 hb; replace s0 := wb s0 hb; replace v0 := wb v0 hb; replace HB := wh hb; (try clear hb)))); (try go_wp2_with (first | (go_at_call 23; (with_reducible refine (spec_IsCracker.calls k _ _ s1 _ _ g2 _ _ d2 true _ ?side1 ?side2 ?side3 ?side4 ?side5 ?side6 A7.out).mono ?_); (case side1 => exact cb o3 HB); (case side2 => exact z3.out); (case side3 => exact cb m3 HB); (case side4 => exact v3.out); (case side5 => exact cb k3 HB); (case side6 => exact s3.out); rintro e w37 ⟨rfl, hb⟩; replace q0 := wb q0 hb; replace s0 := wb s0 hb; replace v0 := wb v0 hb; replace HB := wh hb; (try clear hb); have jb9 := g1.out; have vb8 := d1.out; obtain ⟨o7, m7, z5, v5⟩ := bz2 s0) | (go_at_call 40; (with_reducible refine (spec_IsItem.calls a1_0 a1_1 false _ A9.out).mono ?_); rintro e w40 ⟨rfl, hb⟩; replace q0 := wb q0 hb; replace s0 := wb s0 hb; replace v0 := wb v0 hb; replace HB := wh hb; (try clear hb)))))
    go_meet
    case rel => exact ⟨_, (true), (by first | rfl | (simp; done) | (simp [*]; done)), H', ⟨by first | omega | exact Nat.le_refl _⟩, ⟨ub q0.out⟩, ⟨ub s0.out⟩, ⟨ub v0.out⟩, ⟨bl⟩⟩
  ·replace c8 := Bool.eq_false_iff.mpr c8
   subst c8
   rw [if_neg nf] at H
   have H' := mk H
   clear H
   have dd2 := o1.out
   have yd0 := m1.out
   have bd2 := b2.out
   have vd0 := z1.out
   obtain ⟨ba4, aa4, za3, aa2, za1, ya1⟩ := bz3 q0
   iterate 3 ((try go_quiet (first | (go_at_call 23; (with_reducible refine (spec_IsCracker.calls k _ _ s1 _ _ g2 _ _ d2 false _ ?side1 ?side2 ?side3 ?side4 ?side5 ?side6 A7.out).mono ?_); (case side1 => exact cb o3 HB); (case side2 => exact z3.out); (case side3 => exact cb m3 HB); (case side4 => exact v3.out); (case side5 => exact cb k3 HB); (case side6 => exact s3.out); rintro e w44 ⟨rfl, hb⟩; replace q0 := wb q0 hb; replace s0 := wb s0 hb; replace v0 := wb v0 hb; replace HB := wh hb; (try clear hb)))); (try go_wp2_with (first | (go_at_call 23; (with_reducible refine (spec_IsCracker.calls k _ _ s1 _ _ g2 _ _ d2 false _ ?side1 ?side2 ?side3 ?side4 ?side5 ?side6 A7.out).mono ?_); (case side1 => exact cb o3 HB); (case side2 => exact z3.out); (case side3 => exact cb m3 HB); (case side4 => exact v3.out); (case side5 => exact cb k3 HB); (case side6 => exact s3.out); rintro e w44 ⟨rfl, hb⟩; replace q0 := wb q0 hb; replace s0 := wb s0 hb; replace v0 := wb v0 hb; replace HB := wh hb; (try clear hb)))))
   go_meet
   case rel => exact ⟨_, (true), (by first | rfl | (simp; done) | (simp [*]; done)), H', ⟨by first | omega | exact Nat.le_refl _⟩, ⟨ub q0.out⟩, ⟨ub s0.out⟩, ⟨ub v0.out⟩, ⟨bl⟩⟩
 case rest =>
  clear HC3
  try clear c1
  try clear c2
  try clear p2
  try clear c3
  try clear c4
  try clear c8
  try clear c10
  try clear c12
  try clear b9
  try clear c13
  try clear c14
  try clear c17
  try clear c23
  try clear c24
  try clear c27
  try clear c34
  try clear c35
  try clear c38
  try clear c41
  try clear c42
  try clear va4
  try clear sa4
  try clear qa4
  try clear a9
  try clear z8
  try clear y8
  try clear s8
  try clear q8
  try clear o8
  try clear m8
  try clear oa4
  try clear ma4
  try clear ka4
  try clear k8
  try clear j8
  try clear g8
  try clear d8
  try clear b8
  try clear a8
  try clear z7
  try clear v7
  try clear s7
  try clear q7
  try clear ja4
  try clear ga4
  try clear da4
  try clear o7
  try clear m7
  try clear ba4
  try clear aa4
  try clear za3
  try clear sa2
  try clear qa2
  try clear oa2
  try clear j7
  try clear g7
  try clear d7
  try clear b7
  try clear a7
  try clear z6
  try clear v6
  try clear ma2
  try clear ka2
  try clear ja2
  try clear s6
  try clear q6
  try clear o6
  try clear m6
  try clear k6
  try clear j6
  try clear g6
  try clear d6
  try clear b6
  try clear a6
  try clear ga2
  try clear da2
  try clear ba2
  try clear z5
  try clear v5
  try clear aa2
  try clear za1
  try clear ya1
  obtain ⟨kq, ma5, rfl, HA, HJ2, q0, s0, v0, HB⟩ := hcut
  cases kq with
  | zero => exact absurd HA.out (by simp [spec_RippleInsert.j0])
  | succ kj2 =>
   have H := HA.out
   clear HA
   simp only [spec_RippleInsert.j0] at H
   by_cases c45 : ma5 = true
   ·subst c45
    rw [if_pos rfl] at H
    revert H; refine bo ?_; rintro ⟨ab7, zb6, yb6⟩ A46 H
    dsimp only at H
    simp only [Option.some.injEq, Prod.mk.injEq] at H
    obtain ⟨rfl, rfl, rfl, rfl, rfl⟩ := H
    have ad2 := o1.out
    have sd0 := m1.out
    have zd1 := b2.out
    have qd0 := z1.out
    obtain ⟨ga8, da8, ba8, sa7, qa7, oa7⟩ := bz3 q0
    iterate 3 ((try go_quiet (first | (go_at_call 28; (with_reducible refine (spec_l4Copy.calls _ _ s1 _ _ g2 _ _ d2 ab7 zb6 yb6 _ ?side1 ?side2 ?side3 ?side4 ?side5 ?side6 A46.out).mono ?_); (case side1 => exact cb o3 HB); (case side2 => exact z3.out); (case side3 => exact cb m3 HB); (case side4 => exact v3.out); (case side5 => exact cb k3 HB); (case side6 => exact s3.out); rintro e w50 ⟨ad0, zc9, yc9, rfl, ho0, ho1, ho2, hb⟩; have ga6 := lo ho0; have da6 := lo ho1; have ba6 := lo ho2; replace q0 := wb q0 hb; replace s0 := wb s0 hb; replace v0 := wb v0 hb; replace HB := wh hb; (try clear hb ho0 ho1 ho2); obtain ⟨kc9, zc7, dc2⟩ := Kd.R_slice ga6.out; subst dc2; have gb9 := d1.out; have sb8 := g1.out; obtain ⟨ya3, va3, sa3, va1, sa1, qa1⟩ := bz3 v0; obtain ⟨jc9, yc7, bc2⟩ := Kd.R_slice da6.out; subst bc2; obtain ⟨gc9, vc7, ac2⟩ := Kd.R_slice ba6.out; subst ac2))); (try go_wp2_with (first | (go_at_call 28; (with_reducible refine (spec_l4Copy.calls _ _ s1 _ _ g2 _ _ d2 ab7 zb6 yb6 _ ?side1 ?side2 ?side3 ?side4 ?side5 ?side6 A46.out).mono ?_); (case side1 => exact cb o3 HB); (case side2 => exact z3.out); (case side3 => exact cb m3 HB); (case side4 => exact v3.out); (case side5 => exact cb k3 HB); (case side6 => exact s3.out); rintro e w50 ⟨ad0, zc9, yc9, rfl, ho0, ho1, ho2, hb⟩; have ga6 := lo ho0; have da6 := lo ho1; have ba6 := lo ho2; replace q0 := wb q0 hb; replace s0 := wb s0 hb; replace v0 := wb v0 hb; replace HB := wh hb; (try clear hb ho0 ho1 ho2); obtain ⟨kc9, zc7, dc2⟩ := Kd.R_slice ga6.out; subst dc2; have gb9 := d1.out; have sb8 := g1.out; obtain ⟨ya3, va3, sa3, va1, sa1, qa1⟩ := bz3 v0; obtain ⟨jc9, yc7, bc2⟩ := Kd.R_slice da6.out; subst bc2; obtain ⟨gc9, vc7, ac2⟩ := Kd.R_slice ba6.out; subst ac2))))
    refine bodyPost_ret (results_ctt rfl _ _ b4 29 #[.slice kc9 ab7.length zc7, .slice jc9 zb6.length yc7, .slice gc9 yb6.length vc7] (0, 0) _ rfl bq Try.underlying29 rfl (by kernel_rfl)) rfl ?_
    exact ⟨_, _, _, rx, (by exact rm (rs1 ga6 v0)), (by exact rm (rs1 da6 v0)), (by exact rm (rs1 ba6 v0)), bl⟩
   ·replace c45 := Bool.eq_false_iff.mpr c45
    subst c45
    rw [if_neg nf] at H
    revert H; refine bo ?_; rintro ⟨ma0, d5, q5⟩ A56 H
    dsimp only at H
    revert H; refine ca fun c57 H => ?_
    have LMc57 := mk c57
    clear c57
    obtain ⟨ja5, hy_⟩ : ∃ y_ : List Int, y_ = (ma0 ++ [0]) := ⟨_, rfl⟩
    replace H : (if d5.length < 17592186044416 then (spec_RippleInsert.l0 kj2 (s1.length : Int) 0 (wrap64 ((q5.length : Int) - 1)) a1_0 a1_1 ja5 (d5 ++ [0]) q5) else (none)) = some (r1, r2, r3, r4, r5) := hw
    have mb0 := mk hy_
    clear hy_
    revert H; refine ca fun c58 H => ?_
    have LMc58 := mk c58
    clear c58
    obtain ⟨ob6, hy_⟩ : ∃ y_ : List Int, y_ = (d5 ++ [0]) := ⟨_, rfl⟩
    replace H : (spec_RippleInsert.l0 kj2 (s1.length : Int) 0 (wrap64 ((q5.length : Int) - 1)) a1_0 a1_1 ja5 ob6 q5) = some (r1, r2, r3, r4, r5) := hw
    have kb0 := mk hy_
    clear hy_
    have H' := mk H
    clear H
    have yd1 := o1.out
    have od0 := m1.out
    have vd1 := b2.out
    have md0 := z1.out
    obtain ⟨aa8, za7, ya7, ma7, ka7, ja7⟩ := bz3 q0
    iterate 3 ((try go_quiet (first | (go_at_call 28; (with_reducible refine (spec_l4Copy.calls _ _ s1 _ _ g2 _ _ d2 ma0 d5 q5 _ ?side1 ?side2 ?side3 ?side4 ?side5 ?side6 A56.out).mono ?_); (case side1 => exact cb o3 HB); (case side2 => exact z3.out); (case side3 => exact cb m3 HB); (case side4 => exact v3.out); (case side5 => exact cb k3 HB); (case side6 => exact s3.out); rintro e w62 ⟨vc9, sc9, qc9, rfl, ho0, ho1, ho2, hb⟩; have j2 := lo ho0; have q1 := lo ho1; have q3 := lo ho2; replace q0 := wb q0 hb; replace s0 := wb s0 hb; replace v0 := wb v0 hb; replace HB := wh hb; (try clear hb ho0 ho1 ho2)) | ((with_reducible refine gate_dst (N := 7) rfl ?_); (try (refine gate_guard (by rfl) ?_; dsimp only)); refine bx 7 #[.slice none 0 0, .slice none 0 0, .slice none 0 0] 29 ?_; intro m2 hg w63 hbox hb; replace j2 := ro j2 hb; replace q1 := ro q1 hb; replace q3 := ro q3 hb; have b1 := mk hbox; have mc3 := wg hg; have yb0 := wg hg; replace HB := wh hb; have b3 := nl q0 hg; have s2 := nr q0 hg; replace q0 := wb q0 hb; have z2 := nl s0 hg; have q2 := nr s0 hg; replace s0 := wb s0 hb; have v2 := nl v0 hg; have o2 := nr v0 hg; replace v0 := wb v0 hb; clear hb hbox hg; obtain ⟨ya8, ma8, zc1⟩ := Kd.R_slice j2.out; subst zc1; have db9 := s2.out; have qb8 := b3.out; have bb9 := q2.out; have ob8 := z2.out; have ab9 := o2.out; have mb8 := v2.out; obtain ⟨qa3, oa3, ma3, oa1, ma1, ka1⟩ := bz3 b1; obtain ⟨ga5, za4, yc1⟩ := Kd.R_slice q1.out; subst yc1; obtain ⟨va6, qa6, vc1⟩ := Kd.R_slice q3.out; subst vc1) | ((with_reducible refine gate_builtin (b := .append) (xs := #[.tmp 38, .tmp 39]) rfl ?_); (try (refine gate_guard (by rfl) ?_; dsimp only)); at_builtin; refine Kd.R_append (Kd.int .i64) (w0 := w) w.heap.size rfl (.tmp 38) (.tmp 39) 22 3 (.int .i64 0) 8 rfl Try.underlying22 info3 rfl (by decide) (by omega) (.slice ya8 ma0.length ma8) ma0 0 [.int .i64 0] (fun k_ => some k_ ≠ (.slice ga5 d5.length za4 : Value).ownBlock) (fun _ => False) rfl (by first | (go_simp; done) | (go_simp; rfl)) ?aP (fun _ hk => hk.elim) ?aF ?aO ?aB ?aS ?aL ?_; (case aP => exact rfl); (case aB => exact bl); (case aF => exact (fun k_ hk => Kd.fresh' (Kd.R_lt (by exact rs1 q1 b1)) k_ hk)); (case aO => exact (by exact rm (rs1 j2 b1))); (case aS => exact (below_size bl)); (case aL => have := LMc57.out; omega); intro oc9 w71 ho hb hg hat; rw [← mb0.out] at ho; replace q0 := mk (blk_grown (g := s4) (o := .cells #[.slice q9 s1.length k9, .slice o9 g2.length j9, .slice m9 d2.length g9] 29 (0, 0)) bq hg (Kd.R_ne j2.out q0.out (by decide))); replace s0 := mk (blk_grown (g := q4) (o := .cells #[.int .i64 a1_0, .int .i64 a1_1] 39 (0, 0)) bq hg (Kd.R_ne j2.out s0.out (by decide))); replace v0 := mk (blk_grown (g := b4) (o := .cells #[.slice none 0 0, .slice none 0 0, .slice none 0 0] 29 (0, 0)) bq hg (Kd.R_ne j2.out v0.out (by decide))); replace q1 := mk (Kd.R_after (ok := (fun _ => True)) (by exact up (Kd.R_mono (Kd.R_far (p := ⟨m2, 2, none⟩) (Kd.R_far (p := ⟨m2, 1, none⟩) (Kd.R_far (p := ⟨m2, 0, none⟩) (Kd.R_types q1.out b1.out (by decide)) (fun _ hk => hk.2) (.slice ya8 ma0.length ma8)) (fun _ hk => hk.2) (.slice ga5 d5.length za4)) (fun _ hk => hk.2) (.slice va6 q5.length qa6)) (fun _ hk => ⟨trivial, hk.1⟩))) hg hat); replace q3 := mk (Kd.R_over' (by exact rs1 q3 b1) (Kd.R_typed (by exact rs1 j2 b1)) (by decide) hg); replace b1 := mk (blk_grown (g := m2) (o := .cells #[.slice ya8 ma0.length ma8, .slice ga5 d5.length za4, .slice va6 q5.length qa6] 29 (0, 0)) bq hg (Kd.R_ne j2.out b1.out (by decide))); replace HB := mk hb; have a5 := mk ho; clear j2; clear ho hb hg hat; obtain ⟨sa6, oa6, sc1⟩ := Kd.R_slice a5.out; subst sc1; obtain ⟨ka3, ja3, ga3, ja1, ga1, da1⟩ := bz3 b1) | ((with_reducible refine gate_builtin (b := .append) (xs := #[.tmp 43, .tmp 44]) rfl ?_); (try (refine gate_guard (by rfl) ?_; dsimp only)); at_builtin; refine Kd.R_append (Kd.int .i64) (w0 := w) w.heap.size rfl (.tmp 43) (.tmp 44) 22 3 (.int .i64 0) 8 rfl Try.underlying22 info3 rfl (by decide) (by omega) (.slice ga5 d5.length za4) d5 0 [.int .i64 0] (fun k_ => some k_ ≠ (.slice sa6 ja5.length oa6 : Value).ownBlock) (fun _ => False) rfl (by first | (go_simp; done) | (go_simp; rfl)) ?aP (fun _ hk => hk.elim) ?aF ?aO ?aB ?aS ?aL ?_; (case aP => exact rfl); (case aB => exact bl); (case aF => exact (fun k_ hk => Kd.fresh' (Kd.R_lt (by exact rs1 a5 b1)) k_ hk)); (case aO => exact (by exact rm (rs1 q1 b1))); (case aS => exact (below_size bl)); (case aL => have := LMc58.out; omega); intro mc9 w74 ho hb hg hat; rw [← kb0.out] at ho; replace q0 := mk (blk_grown (g := s4) (o := .cells #[.slice q9 s1.length k9, .slice o9 g2.length j9, .slice m9 d2.length g9] 29 (0, 0)) bq hg (Kd.R_ne q1.out q0.out (by decide))); replace s0 := mk (blk_grown (g := q4) (o := .cells #[.int .i64 a1_0, .int .i64 a1_1] 39 (0, 0)) bq hg (Kd.R_ne q1.out s0.out (by decide))); replace v0 := mk (blk_grown (g := b4) (o := .cells #[.slice none 0 0, .slice none 0 0, .slice none 0 0] 29 (0, 0)) bq hg (Kd.R_ne q1.out v0.out (by decide))); replace q3 := mk (Kd.R_over' (by exact rs1 q3 b1) (Kd.R_typed (by exact rs1 q1 b1)) (by decide) hg); replace a5 := mk (Kd.R_after (ok := (fun _ => True)) (by exact up (Kd.R_mono (Kd.R_far (p := ⟨m2, 0, none⟩) (Kd.R_types a5.out b1.out (by decide)) (fun _ hk => hk.2) (.slice sa6 ja5.length oa6)) (fun _ hk => ⟨trivial, hk.1⟩))) hg hat); replace b1 := mk (blk_grown (g := m2) (o := .cells #[.slice sa6 ja5.length oa6, .slice ga5 d5.length za4, .slice va6 q5.length qa6] 29 (0, 0)) bq hg (Kd.R_ne q1.out b1.out (by decide))); replace HB := mk hb; have aa6 := mk ho; clear q1; clear ho hb hg hat; obtain ⟨dc9, sc7, qc1⟩ := Kd.R_slice aa6.out; subst qc1; obtain ⟨da3, ba3, aa3, ba1, aa1, za0⟩ := bz3 b1; obtain ⟨za2, ya2, va2, ya0, va0, sa0⟩ := bz3 q0))); (try go_wp2_with (first | (go_at_call 28; (with_reducible refine (spec_l4Copy.calls _ _ s1 _ _ g2 _ _ d2 ma0 d5 q5 _ ?side1 ?side2 ?side3 ?side4 ?side5 ?side6 A56.out).mono ?_); (case side1 => exact cb o3 HB); (case side2 => exact z3.out); (case side3 => exact cb m3 HB); (case side4 => exact v3.out); (case side5 => exact cb k3 HB); (case side6 => exact s3.out); rintro e w62 ⟨vc9, sc9, qc9, rfl, ho0, ho1, ho2, hb⟩; have j2 := lo ho0; have q1 := lo ho1; have q3 := lo ho2; replace q0 := wb q0 hb; replace s0 := wb s0 hb; replace v0 := wb v0 hb; replace HB := wh hb; (try clear hb ho0 ho1 ho2)) | ((with_reducible refine gate_dst (N := 7) rfl ?_); (try (refine gate_guard (by rfl) ?_; dsimp only)); refine bx 7 #[.slice none 0 0, .slice none 0 0, .slice none 0 0] 29 ?_; intro m2 hg w63 hbox hb; replace j2 := ro j2 hb; replace q1 := ro q1 hb; replace q3 := ro q3 hb; have b1 := mk hbox; have mc3 := wg hg; have yb0 := wg hg; replace HB := wh hb; have b3 := nl q0 hg; have s2 := nr q0 hg; replace q0 := wb q0 hb; have z2 := nl s0 hg; have q2 := nr s0 hg; replace s0 := wb s0 hb; have v2 := nl v0 hg; have o2 := nr v0 hg; replace v0 := wb v0 hb; clear hb hbox hg; obtain ⟨ya8, ma8, zc1⟩ := Kd.R_slice j2.out; subst zc1; have db9 := s2.out; have qb8 := b3.out; have bb9 := q2.out; have ob8 := z2.out; have ab9 := o2.out; have mb8 := v2.out; obtain ⟨qa3, oa3, ma3, oa1, ma1, ka1⟩ := bz3 b1; obtain ⟨ga5, za4, yc1⟩ := Kd.R_slice q1.out; subst yc1; obtain ⟨va6, qa6, vc1⟩ := Kd.R_slice q3.out; subst vc1) | ((with_reducible refine gate_builtin (b := .append) (xs := #[.tmp 38, .tmp 39]) rfl ?_); (try (refine gate_guard (by rfl) ?_; dsimp only)); at_builtin; refine Kd.R_append (Kd.int .i64) (w0 := w) w.heap.size rfl (.tmp 38) (.tmp 39) 22 3 (.int .i64 0) 8 rfl Try.underlying22 info3 rfl (by decide) (by omega) (.slice ya8 ma0.length ma8) ma0 0 [.int .i64 0] (fun k_ => some k_ ≠ (.slice ga5 d5.length za4 : Value).ownBlock) (fun _ => False) rfl (by first | (go_simp; done) | (go_simp; rfl)) ?aP (fun _ hk => hk.elim) ?aF ?aO ?aB ?aS ?aL ?_; (case aP => exact rfl); (case aB => exact bl); (case aF => exact (fun k_ hk => Kd.fresh' (Kd.R_lt (by exact rs1 q1 b1)) k_ hk)); (case aO => exact (by exact rm (rs1 j2 b1))); (case aS => exact (below_size bl)); (case aL => have := LMc57.out; omega); intro oc9 w71 ho hb hg hat; rw [← mb0.out] at ho; replace q0 := mk (blk_grown (g := s4) (o := .cells #[.slice q9 s1.length k9, .slice o9 g2.length j9, .slice m9 d2.length g9] 29 (0, 0)) bq hg (Kd.R_ne j2.out q0.out (by decide))); replace s0 := mk (blk_grown (g := q4) (o := .cells #[.int .i64 a1_0, .int .i64 a1_1] 39 (0, 0)) bq hg (Kd.R_ne j2.out s0.out (by decide))); replace v0 := mk (blk_grown (g := b4) (o := .cells #[.slice none 0 0, .slice none 0 0, .slice none 0 0] 29 (0, 0)) bq hg (Kd.R_ne j2.out v0.out (by decide))); replace q1 := mk (Kd.R_after (ok := (fun _ => True)) (by exact up (Kd.R_mono (Kd.R_far (p := ⟨m2, 2, none⟩) (Kd.R_far (p := ⟨m2, 1, none⟩) (Kd.R_far (p := ⟨m2, 0, none⟩) (Kd.R_types q1.out b1.out (by decide)) (fun _ hk => hk.2) (.slice ya8 ma0.length ma8)) (fun _ hk => hk.2) (.slice ga5 d5.length za4)) (fun _ hk => hk.2) (.slice va6 q5.length qa6)) (fun _ hk => ⟨trivial, hk.1⟩))) hg hat); replace q3 := mk (Kd.R_over' (by exact rs1 q3 b1) (Kd.R_typed (by exact rs1 j2 b1)) (by decide) hg); replace b1 := mk (blk_grown (g := m2) (o := .cells #[.slice ya8 ma0.length ma8, .slice ga5 d5.length za4, .slice va6 q5.length qa6] 29 (0, 0)) bq hg (Kd.R_ne j2.out b1.out (by decide))); replace HB := mk hb; have a5 := mk ho; clear j2; clear ho hb hg hat; obtain ⟨sa6, oa6, sc1⟩ := Kd.R_slice a5.out; subst sc1; obtain ⟨ka3, ja3, ga3, ja1, ga1, da1⟩ := bz3 b1) | ((with_reducible refine gate_builtin (b := .append) (xs := #[.tmp 43, .tmp 44]) rfl ?_); (try (refine gate_guard (by rfl) ?_; dsimp only)); at_builtin; refine Kd.R_append (Kd.int .i64) (w0 := w) w.heap.size rfl (.tmp 43) (.tmp 44) 22 3 (.int .i64 0) 8 rfl Try.underlying22 info3 rfl (by decide) (by omega) (.slice ga5 d5.length za4) d5 0 [.int .i64 0] (fun k_ => some k_ ≠ (.slice sa6 ja5.length oa6 : Value).ownBlock) (fun _ => False) rfl (by first | (go_simp; done) | (go_simp; rfl)) ?aP (fun _ hk => hk.elim) ?aF ?aO ?aB ?aS ?aL ?_; (case aP => exact rfl); (case aB => exact bl); (case aF => exact (fun k_ hk => Kd.fresh' (Kd.R_lt (by exact rs1 a5 b1)) k_ hk)); (case aO => exact (by exact rm (rs1 q1 b1))); (case aS => exact (below_size bl)); (case aL => have := LMc58.out; omega); intro mc9 w74 ho hb hg hat; rw [← kb0.out] at ho; replace q0 := mk (blk_grown (g := s4) (o := .cells #[.slice q9 s1.length k9, .slice o9 g2.length j9, .slice m9 d2.length g9] 29 (0, 0)) bq hg (Kd.R_ne q1.out q0.out (by decide))); replace s0 := mk (blk_grown (g := q4) (o := .cells #[.int .i64 a1_0, .int .i64 a1_1] 39 (0, 0)) bq hg (Kd.R_ne q1.out s0.out (by decide))); replace v0 := mk (blk_grown (g := b4) (o := .cells #[.slice none 0 0, .slice none 0 0, .slice none 0 0] 29 (0, 0)) bq hg (Kd.R_ne q1.out v0.out (by decide))); replace q3 := mk (Kd.R_over' (by exact rs1 q3 b1) (Kd.R_typed (by exact rs1 q1 b1)) (by decide) hg); replace a5 := mk (Kd.R_after (ok := (fun _ => True)) (by exact up (Kd.R_mono (Kd.R_far (p := ⟨m2, 0, none⟩) (Kd.R_types a5.out b1.out (by decide)) (fun _ hk => hk.2) (.slice sa6 ja5.length oa6)) (fun _ hk => ⟨trivial, hk.1⟩))) hg hat); replace b1 := mk (blk_grown (g := m2) (o := .cells #[.slice sa6 ja5.length oa6, .slice ga5 d5.length za4, .slice va6 q5.length qa6] 29 (0, 0)) bq hg (Kd.R_ne q1.out b1.out (by decide))); replace HB := mk hb; have aa6 := mk ho; clear q1; clear ho hb hg hat; obtain ⟨dc9, sc7, qc1⟩ := Kd.R_slice aa6.out; subst qc1; obtain ⟨da3, ba3, aa3, ba1, aa1, za0⟩ := bz3 b1; obtain ⟨za2, ya2, va2, ya0, va0, sa0⟩ := bz3 q0))))
    go_loopg [8, 9, 10] kj2 (fun kq v8 v9 v10 w' => ∃ (j1 : Int) (ga0 : Int) (z0 : Int) (m0 : List Int) (o0 : List Int) (b0 : List (S50)) (b5 : Value) (j3 : Value) (m4 : Value), v8 = .int .i64 j1 ∧ v9 = .int .i64 ga0 ∧ v10 = .int .i64 z0 ∧ Aside0 (spec_RippleInsert.l0 kq j1 ga0 z0 a1_0 a1_1 m0 o0 b0 = some (r1, r2, r3, r4, r5)) ∧ Aside0 (kq ≤ kj2) ∧ Aside0 (Kd.R (Kd.int .i64) 3 w' w.heap.size (fun k_ => some k_ ≠ (j3 : Value).ownBlock) b5 m0) ∧ Aside0 (Kd.R (Kd.int .i64) 3 w' w.heap.size (fun k_ => some k_ ≠ (b5 : Value).ownBlock) j3 o0) ∧ Aside0 (Kd.R k50 50 w' w.heap.size (fun _ => True) m4 b0) ∧ Aside0 (w'.heap[s4]? = some (.cells #[(.slice q9 s1.length k9), (.slice o9 g2.length j9), (.slice m9 d2.length g9)] 29 (0, 0))) ∧ Aside0 (w'.heap[q4]? = some (.cells #[.int .i64 a1_0, .int .i64 a1_1] 39 (0, 0))) ∧ Aside0 (w'.heap[b4]? = some (.cells #[(.slice none 0 0), (.slice none 0 0), (.slice none 0 0)] 29 (0, 0))) ∧ Aside0 (w'.heap[m2]? = some (.cells #[b5, j3, m4] 29 (0, 0))) ∧ Aside0 (Below w.heap.size w w'))
    case atStart => exact ⟨((s1.length : Int)), (0), (wrap64 ((q5.length : Int) - 1)), (ja5), (ob6), (q5), (.slice sa6 ja5.length oa6), (.slice dc9 ob6.length sc7), (.slice va6 q5.length qa6), (by first | rfl | (simp; done) | (simp [*]; done)), (by first | rfl | (simp; done) | (simp [*]; done)), (by first | rfl | (simp; done) | (simp [*]; done)), H', ⟨Nat.le_refl _⟩, ⟨(by exact rm (rs1 a5 b1))⟩, ⟨(by exact rm (rs1 aa6 b1))⟩, ⟨(by exact rm (rs1 q3 b1))⟩, ⟨bq⟩, ⟨bq⟩, ⟨bq⟩, ⟨bq⟩, ⟨bl⟩⟩
    case round =>
     clear H'
     try clear c1
     try clear c2
     try clear p2
     try clear c3
     try clear c4
     try clear c5
     try clear c6
     try clear p6
     try clear c8
     try clear c10
     try clear c12
     try clear b9
     try clear c13
     try clear c14
     try clear c17
     try clear c23
     try clear c24
     try clear c27
     try clear c34
     try clear c35
     try clear c38
     try clear c41
     try clear c42
     try clear c45
     try clear c47
     try clear c48
     try clear c52
     try clear c57
     try clear c58
     try clear c59
     try clear c60
     try clear p64
     try clear c65
     try clear c66
     try clear c67
     try clear va4
     try clear sa4
     try clear qa4
     try clear a9
     try clear z8
     try clear y8
     try clear s8
     try clear q8
     try clear o8
     try clear m8
     try clear oa4
     try clear ma4
     try clear ka4
     try clear k8
     try clear j8
     try clear g8
     try clear d8
     try clear b8
     try clear a8
     try clear z7
     try clear v7
     try clear s7
     try clear q7
     try clear ja4
     try clear ga4
     try clear da4
     try clear o7
     try clear m7
     try clear ba4
     try clear aa4
     try clear za3
     try clear ga8
     try clear da8
     try clear ba8
     try clear ya3
     try clear va3
     try clear sa3
     try clear aa8
     try clear za7
     try clear ya7
     try clear qa3
     try clear oa3
     try clear ma3
     try clear ka3
     try clear ja3
     try clear ga3
     try clear da3
     try clear ba3
     try clear aa3
     try clear za2
     try clear ya2
     try clear va2
     try clear sa2
     try clear qa2
     try clear oa2
     try clear j7
     try clear g7
     try clear d7
     try clear b7
     try clear a7
     try clear z6
     try clear v6
     try clear ma2
     try clear ka2
     try clear ja2
     try clear s6
     try clear q6
     try clear o6
     try clear m6
     try clear k6
     try clear j6
     try clear g6
     try clear d6
     try clear b6
     try clear a6
     try clear ga2
     try clear da2
     try clear ba2
     try clear z5
     try clear v5
     try clear aa2
     try clear za1
     try clear ya1
     try clear sa7
     try clear qa7
     try clear oa7
     try clear va1
     try clear sa1
     try clear qa1
     try clear ma7
     try clear ka7
     try clear ja7
     try clear oa1
     try clear ma1
     try clear ka1
     try clear ja1
     try clear ga1
     try clear da1
     try clear ba1
     try clear aa1
     try clear za0
     try clear ya0
     try clear va0
     try clear sa0
     try clear p2
     obtain ⟨j1, ga0, z0, m0, o0, b0, b5, j3, m4, rfl, rfl, rfl, HA, HK2, g0, d0, k0, q0, s0, v0, b1, HB⟩ := hrel
     cases gk with
     | zero => exact absurd HA.out (by simp [spec_RippleInsert.l0])
     | succ k2 =>
      have H := HA.out
      clear HA
      simp only [spec_RippleInsert.l0] at H
      revert H; refine ci (fun c78 H => ?_) fun c78 H => ?_
      ·have yc2 : decide (0 ≤ z0) = true := decide_eq_true c78
       clear c78
       revert H; refine ca fun c79 H => ?_
       have bd4 : decide (0 ≤ z0) = true := decide_eq_true c79
       clear c79
       revert H; refine ca fun c80 H => ?_
       have ad4 : decide (z0 < (b0.length : Int)) = true := decide_eq_true c80
       clear c80
       revert H; refine ci (fun c81 H => ?_) fun c81 H => ?_
       ·have vc2 : decide (a1_0 < ((rd_T50 b0 z0).f0)) = true := decide_eq_true c81
        clear c81
        revert H; refine ca fun c82 H => ?_
        have zd3 : decide (0 ≤ ((rd_T50 b0 z0).f1)) = true := decide_eq_true c82
        clear c82
        revert H; refine ca fun c83 H => ?_
        have yd3 : decide (((rd_T50 b0 z0).f1) < (m0.length : Int)) = true := decide_eq_true c83
        clear c83
        revert H; refine ca fun c84 H => ?_
        have vd3 : decide (0 ≤ j1) = true := decide_eq_true c84
        clear c84
        revert H; refine ca fun c85 H => ?_
        have sd3 : decide (j1 < (m0.length : Int)) = true := decide_eq_true c85
        clear c85
        obtain ⟨za8, hy_⟩ : ∃ y_ : List Int, y_ = (m0.set (j1 : Int).toNat (rd m0 ((rd_T50 b0 z0).f1))) := ⟨_, rfl⟩
        replace H : (if ((rd_T50 b0 z0).f1) < (o0.length : Int) then (if j1 < (o0.length : Int) then ((spec_l10Move.f ((rd_T50 b0 z0).f1) j1).bind fun oa5 => (spec_RippleInsert.l0 k2 ((rd_T50 b0 z0).f1) (wrap64 (ga0 + oa5)) (wrap64 (z0 - 1)) a1_0 a1_1 za8 (o0.set (j1 : Int).toNat (rd o0 ((rd_T50 b0 z0).f1))) (b0.set (z0 : Int).toNat (⟨(rd_T50 b0 z0).f0, wrap64 (((rd_T50 b0 z0).f1) + 1)⟩ : S50)))) else (none)) else (none)) = some (r1, r2, r3, r4, r5) := hw
        have jb0 := mk hy_
        clear hy_
        revert H; refine ca fun c87 H => ?_
        have qd3 : decide (((rd_T50 b0 z0).f1) < (o0.length : Int)) = true := decide_eq_true c87
        clear c87
        revert H; refine ca fun c88 H => ?_
        have od3 : decide (j1 < (o0.length : Int)) = true := decide_eq_true c88
        clear c88
        obtain ⟨aa9, hy_⟩ : ∃ y_ : List Int, y_ = (o0.set (j1 : Int).toNat (rd o0 ((rd_T50 b0 z0).f1))) := ⟨_, rfl⟩
        replace H : ((spec_l10Move.f ((rd_T50 b0 z0).f1) j1).bind fun oa5 => (spec_RippleInsert.l0 k2 ((rd_T50 b0 z0).f1) (wrap64 (ga0 + oa5)) (wrap64 (z0 - 1)) a1_0 a1_1 za8 aa9 (b0.set (z0 : Int).toNat (⟨(rd_T50 b0 z0).f0, wrap64 (((rd_T50 b0 z0).f1) + 1)⟩ : S50)))) = some (r1, r2, r3, r4, r5) := hw
        have gb0 := mk hy_
        clear hy_
        revert H; refine bo ?_; rintro oa5 A90 H
        obtain ⟨mb6, hy_⟩ : ∃ y_ : List (S50), y_ = (b0.set (z0 : Int).toNat (⟨(rd_T50 b0 z0).f0, wrap64 (((rd_T50 b0 z0).f1) + 1)⟩ : S50)) := ⟨_, rfl⟩
        replace H : (spec_RippleInsert.l0 k2 ((rd_T50 b0 z0).f1) (wrap64 (ga0 + oa5)) (wrap64 (z0 - 1)) a1_0 a1_1 za8 aa9 mb6) = some (r1, r2, r3, r4, r5) := hw
        have jc3 := mk hy_
        clear hy_
        have H' := mk H
        clear H
        have sd1 := s2.out
        have kd0 := b3.out
        have qd1 := q2.out
        have jd0 := z2.out
        have od1 := o2.out
        have gd0 := v2.out
        obtain ⟨yc0, vc0, sc0, yb9, vb9, sb9⟩ := bz3 b1
        obtain ⟨jd6, ma6, zd2⟩ := Kd.R_slice k0.out
        subst zd2
        have za6 : 0 ≤ (z0 : Int) := dt
        have ya6 : z0 < (b0.length : Int) := dt
        obtain ⟨da0, oc2, qa0, oa0⟩ := at_T50 (Kd.R_reads' k0.out).2.2 z0 za6 ya6
        cases oc2
        replace za6 := eq_true za6
        replace ya6 := eq_true ya6
        have md1 := m1.out
        have dd0 := o1.out
        have kd1 := g1.out
        have bd0 := d1.out
        obtain ⟨qc0, oc0, qb9, ob9⟩ := bz2 s0
        have vb7 : 0 ≤ (z0 : Int) := dt
        have gb7 : z0 < (b0.length : Int) := dt
        obtain ⟨zc2, dd3, ga7, da7⟩ := at_T50 (Kd.R_reads' k0.out).2.2 z0 vb7 gb7
        obtain rfl : da0 = zc2 := (by injection dd3)
        replace vb7 := eq_true vb7
        replace gb7 := eq_true gb7
        obtain ⟨jd5, ba5, mc2⟩ := Kd.R_slice g0.out
        subst mc2
        have sb7 : 0 ≤ (((rd_T50 b0 z0).f1) : Int) := dt
        have db7 : ((rd_T50 b0 z0).f1) < (m0.length : Int) := dt
        obtain ⟨md4, bd3, ba7⟩ := Kd.at_int (Kd.R_reads' g0.out).2.2 ((rd_T50 b0 z0).f1) sb7 db7
        cases bd3
        replace sb7 := eq_true sb7
        replace db7 := eq_true db7
        have p86 : 0 ≤ (j1 : Int) := dt
        have q86 : (j1 : Int) < ((m0.length : Int) : Int) := dt
        obtain ⟨oa9, od5, qc7, kc7, yd2, vd5, bc9⟩ := Kd.R_form g0.out (by omega)
        (first | cases qc7 | (injection qc7 with ea_ en_ ec_; (first | subst ea_ | (injection ea_ with ea_; subst ea_)); subst ec_; clear en_))
        have gd6 := mk kc7
        have bd6 := mk bc9
        clear kc7 yd2 bc9
        (first | simp only [add_plain] at ba7 | skip)
        obtain ⟨jc4, vc6⟩ := Kd.R_celln 0 g0.out (j1 : Int) p86 q86
        replace p86 := eq_true p86
        replace q86 := eq_true q86
        have kc3 := Kd.R_putg g0.out (j1 : Int) (rd m0 ((rd_T50 b0 z0).f1))
        iterate 3 ((try go_quiet (fail)); (try go_wp2_with (first | (go_at_call 29; (try (rw [drewN_self wr]; generalize hq_ : World.drewN wr _ = wr; replace g0 := mk (Kd.R_at hq_ g0.out); replace d0 := mk (Kd.R_at hq_ d0.out); replace k0 := mk (Kd.R_at hq_ k0.out); replace q0 := mk (blk_at hq_ q0.out); replace s0 := mk (blk_at hq_ s0.out); replace v0 := mk (blk_at hq_ v0.out); replace b1 := mk (blk_at hq_ b1.out); replace HB := mk (below_at hq_ HB.out); clear hq_; (try (have kc3 := Kd.R_putg g0.out (j1 : Int) (rd m0 ((rd_T50 b0 z0).f1)))))); obtain ⟨gd5, aa5, kc2⟩ := Kd.R_slice d0.out; subst kc2; have qb7 : 0 ≤ (((rd_T50 b0 z0).f1) : Int) := dt; have bb7 : ((rd_T50 b0 z0).f1) < (o0.length : Int) := dt; obtain ⟨kd4, ad3, aa7⟩ := Kd.at_int (Kd.R_reads' d0.out).2.2 ((rd_T50 b0 z0).f1) qb7 bb7; cases ad3; replace qb7 := eq_true qb7; replace bb7 := eq_true bb7; have p89 : 0 ≤ (j1 : Int) := dt; have q89 : (j1 : Int) < ((o0.length : Int) : Int) := dt; obtain ⟨ma9, md5, oc7, jc7, vd2, sd5, ac9⟩ := Kd.R_form d0.out (by omega); (first | cases oc7 | (injection oc7 with ea_ en_ ec_; (first | subst ea_ | (injection ea_ with ea_; subst ea_)); subst ec_; clear en_)); have dd6 := mk jc7; have ad6 := mk ac9; clear jc7 vd2 ac9; (first | simp only [add_plain] at aa7 | skip); obtain ⟨gc4, sc6⟩ := Kd.R_celln 0 d0.out (j1 : Int) p89 q89; replace p89 := eq_true p89; replace q89 := eq_true q89; (with_reducible refine (spec_l10Move.callsS w _ m2 (.slice (some ⟨oa9, 0, none⟩) m0.length ba5) (.slice (some ⟨ma9, 0, none⟩) o0.length aa5) (.slice (some da0) b0.length ma6) m0 o0 _ j1 ((rd_T50 b0 z0).f1) oa5 bl ⟨ub b1.out, yb0.out, up g0.out, up d0.out, up k0.out⟩ (show 0 ≤ (j1 : Int) from dt) (show (j1 : Int) < (m0.length : Int) from dt) (show (j1 : Int) < (o0.length : Int) from dt) (show 0 ≤ (((rd_T50 b0 z0).f1) : Int) from dt) (show (((rd_T50 b0 z0).f1) : Int) < (m0.length : Int) from dt) (show (((rd_T50 b0 z0).f1) : Int) < (o0.length : Int) from dt) A90.out).mono ?_); rintro e s9 ⟨rfl, hcs, hb, hfar⟩; have n0_ := mk (show Kd.R (Kd.int .i64) 3 s9 w.heap.size (fun k_ => True ∧ some k_ ≠ (.slice (some ⟨ma9, 0, none⟩) o0.length aa5 : Value).ownBlock) (.slice (some ⟨oa9, 0, none⟩) m0.length ba5) za8 from by rw [jb0.out]; exact Kd.R_mono hcs.r0 (fun _ hk => ⟨trivial, hk⟩)); have n1_ := mk (show Kd.R (Kd.int .i64) 3 s9 w.heap.size (fun k_ => some k_ ≠ (.slice (some ⟨oa9, 0, none⟩) m0.length ba5 : Value).ownBlock) (.slice (some ⟨ma9, 0, none⟩) o0.length aa5) aa9 from by rw [gb0.out]; exact hcs.r1); have n2_ := mk (hcs.r2); have n3_ := mk (hfar.at (ub q0.out) (by decide)); have n4_ := mk (hfar.at (ub s0.out) (by decide)); have n5_ := mk (hfar.at (ub v0.out) (by decide)); have n6_ := mk (hcs.blk); have n7_ := mk (hb); have lyy284_ : za8.length = m0.length := (by rw [jb0.out, List.length_set]); have lyy286_ : aa9.length = o0.length := (by rw [gb0.out, List.length_set]); clear g0; clear d0; clear k0; clear q0; clear s0; clear v0; clear b1; clear HB; have g0 := n0_; have d0 := n1_; have k0 := n2_; have q0 := n3_; have s0 := n4_; have v0 := n5_; have b1 := n6_; have HB := n7_; clear n0_ n1_ n2_ n3_ n4_ n5_ n6_ n7_; (try clear hb hcs hfar); obtain ⟨gb6, db6, bb6, ob3, mb3, kb3⟩ := bz3 b1; have p91 : 0 ≤ (z0 : Int) := dt; have q91 : (z0 : Int) < ((b0.length : Int) : Int) := dt; obtain ⟨y9, kd5, mc7, gc7, sd2, qd5, zc8⟩ := Kd.R_form k0.out (by omega); (first | cases mc7 | (injection mc7 with ea_ en_ ec_; (first | subst ea_ | (injection ea_ with ea_; subst ea_)); subst ec_; clear en_)); have bd5 := mk gc7; have zd5 := mk zc8; clear gc7 sd2 zc8; (first | simp only [add_plain] at qa0 | skip); (first | simp only [add_plain] at oa0 | skip); (first | simp only [add_plain] at ga7 | skip); (first | simp only [add_plain] at da7 | skip); obtain ⟨yd5, gc1, dc7, ja8, va7⟩ := Kd.R_elem k0.out z50 (z0 : Int) p91 q91; obtain rfl := k50_openM dc7; have dc4 : s9.cell? ⟨y9, (z0 : Int).toNat * 2, none⟩ = some (.int .i64 ((rd_T50 b0 z0).f0)) := ja8 0 _ rfl; have bc4 : s9.cell? ⟨y9, (z0 : Int).toNat * 2 + 1, none⟩ = some (.int .i64 ((rd_T50 b0 z0).f1)) := ja8 1 _ rfl; have qc6 : s9.frozen? ⟨y9, (z0 : Int).toNat * 2, none⟩ = false := va7 0; have oc6 : s9.frozen? ⟨y9, (z0 : Int).toNat * 2 + 1, none⟩ = false := va7 1; clear gc1 ja8 va7 dc7; replace p91 := eq_true p91; replace q91 := eq_true q91; have da5 := mk (show Kd.R k50 50 s9 w.heap.size (fun _ => True) (.slice (some ⟨y9, 0, none⟩) b0.length ma6) b0 from (up k0.out)); obtain ⟨sc2, j5, ya4, o4, g5⟩ := Kd.R_elem da5.out z50 (z0 : Int) dt (by have h_ : (z0 : Int) < ((b0.length : Int) : Int) := dt; first | exact h_ | (have e_ := (Kd.R_reads' k0.out).1; omega) | simpa using h_); obtain rfl := k50_openM ya4; have za5 := Kd.R_seg da5.out (z0 : Int) dt (by have h_ : (z0 : Int) < ((b0.length : Int) : Int) := dt; first | exact h_ | (have e_ := (Kd.R_reads' k0.out).1; omega) | simpa using h_) (seg := [.int .i64 (wrap64 (((rd_T50 b0 z0).f1) + 1))]) (j := 1) j5 o4 (show 2 ≤ 2 from by decide) (x' := (⟨(rd_T50 b0 z0).f0, wrap64 (((rd_T50 b0 z0).f1) + 1)⟩ : S50)) (k50_mkM _ _ _ (⟨(rd_T50 b0 z0).f0, wrap64 (((rd_T50 b0 z0).f1) + 1)⟩ : S50) ) (fun _ hk => hk); have s5 := o4 1 _ rfl; (try simp only [show (k50).sz = 2 from rfl, Nat.mul_one, Nat.add_zero] at s5); have k7 := g5 1; (try simp only [show (k50).sz = 2 from rfl, Nat.mul_one, Nat.add_zero] at k7); clear j5 o4 g5 ya4) | ((with_reducible refine gate_store (t := 3) (p := 87) rfl ?_); (try (rw [drewN_self s9]; generalize hq_ : World.drewN s9 _ = s9; replace g0 := mk (Kd.R_at hq_ g0.out); replace d0 := mk (Kd.R_at hq_ d0.out); replace k0 := mk (Kd.R_at hq_ k0.out); replace q0 := mk (blk_at hq_ q0.out); replace s0 := mk (blk_at hq_ s0.out); replace v0 := mk (blk_at hq_ v0.out); replace b1 := mk (blk_at hq_ b1.out); replace HB := mk (below_at hq_ HB.out); clear hq_; (try (have da5 := mk (show Kd.R k50 50 s9 w.heap.size (fun _ => True) (.slice (some ⟨y9, 0, none⟩) b0.length ma6) b0 from (up k0.out)))); (try (obtain ⟨sc2, j5, ya4, o4, g5⟩ := Kd.R_elem da5.out z50 (z0 : Int) dt (by have h_ : (z0 : Int) < ((b0.length : Int) : Int) := dt; first | exact h_ | (have e_ := (Kd.R_reads' k0.out).1; omega) | simpa using h_))); (try (obtain rfl := k50_openM ya4)); (try (have za5 := Kd.R_seg da5.out (z0 : Int) dt (by have h_ : (z0 : Int) < ((b0.length : Int) : Int) := dt; first | exact h_ | (have e_ := (Kd.R_reads' k0.out).1; omega) | simpa using h_) (seg := [.int .i64 (wrap64 (((rd_T50 b0 z0).f1) + 1))]) (j := 1) j5 o4 (show 2 ≤ 2 from by decide) (x' := (⟨(rd_T50 b0 z0).f0, wrap64 (((rd_T50 b0 z0).f1) + 1)⟩ : S50)) (k50_mkM _ _ _ (⟨(rd_T50 b0 z0).f0, wrap64 (((rd_T50 b0 z0).f1) + 1)⟩ : S50) ) (fun _ hk => hk))); (try (have s5 := o4 1 _ rfl)); (try (try simp only [show (k50).sz = 2 from rfl, Nat.mul_one, Nat.add_zero] at s5)); (try (have k7 := g5 1)); (try (try simp only [show (k50).sz = 2 from rfl, Nat.mul_one, Nat.add_zero] at k7)); (try (clear j5 o4 g5 ya4)))); refine store_event (t := 3) (p := 87) (v := ?vo_w110) (w1 := (s9.setCell ⟨y9, (z0 : Int).toNat * 2 + 1, none⟩ (.int .i64 (wrap64 (((rd_T50 b0 z0).f1) + 1))))) ?hg ?ho ?hn ?hr ?_; (case ho => rfl); (case hg => rfl); (case hn => rfl); (case hr => first | (go_simp; done) | (go_simp; rfl)); intro vb6 hw; have hg : s9.grownBy vb6 (some y9) := (by rw [hw]; exact za5.2); have hp_ : Kd.R k50 50 vb6 w.heap.size (fun _ => True) (.slice (some ⟨y9, 0, none⟩) b0.length ma6) mb6 := (by rw [hw, jc3.out]; exact za5.1); clear za5; replace g0 := mk (Kd.R_over' (v := (.slice (some ⟨y9, 0, none⟩) b0.length ma6)) (up g0.out) (Kd.R_typed k0.out) (by decide) hg); replace d0 := mk (Kd.R_over' (v := (.slice (some ⟨y9, 0, none⟩) b0.length ma6)) (up d0.out) (Kd.R_typed k0.out) (by decide) hg); replace q0 := mk (blk_grown (g := s4) (o := .cells #[.slice q9 s1.length k9, .slice o9 g2.length j9, .slice m9 d2.length g9] 29 (0, 0)) (ub q0.out) hg (Kd.R_ne k0.out q0.out (by decide))); replace s0 := mk (blk_grown (g := q4) (o := .cells #[.int .i64 a1_0, .int .i64 a1_1] 39 (0, 0)) (ub s0.out) hg (Kd.R_ne k0.out s0.out (by decide))); replace v0 := mk (blk_grown (g := b4) (o := .cells #[.slice none 0 0, .slice none 0 0, .slice none 0 0] 29 (0, 0)) (ub v0.out) hg (Kd.R_ne k0.out v0.out (by decide))); replace b1 := mk (blk_grown (g := m2) (o := .cells #[.slice (some ⟨oa9, 0, none⟩) m0.length ba5, .slice (some ⟨ma9, 0, none⟩) o0.length aa5, .slice (some ⟨y9, 0, none⟩) b0.length ma6] 29 (0, 0)) (ub b1.out) hg (Kd.R_ne k0.out b1.out (by decide))); replace k0 := mk hp_; replace HB := mk ((by rw [hw]; exact below_set (HB.out) bd5.out : Below w.heap.size w vb6)); clear hg hw hp_))))
        go_roundg k2
        case measure => have := HJ2.out; have := HK2.out; omega
        case rel => exact ⟨((rd_T50 b0 z0).f1), (wrap64 (ga0 + oa5)), (wrap64 (z0 - 1)), (za8), (aa9), (mb6), (.slice (some ⟨oa9, 0, none⟩) m0.length ba5), (.slice (some ⟨ma9, 0, none⟩) o0.length aa5), (.slice (some ⟨y9, 0, none⟩) b0.length ma6), (by first | rfl | (simp; done) | (simp [*]; done)), (by first | rfl | (simp; done) | (simp [*]; done)), (by first | rfl | (simp; done) | (simp [*]; done)), H', ⟨by have := HJ2.out; have := HK2.out; omega⟩, ⟨by exact up (Kd.R_mono g0.out (fun _ hk => hk.2))⟩, ⟨up d0.out⟩, ⟨up k0.out⟩, ⟨ub q0.out⟩, ⟨ub s0.out⟩, ⟨ub v0.out⟩, ⟨ub b1.out⟩, ⟨bl⟩⟩
       ·have vc2 : decide (a1_0 < ((rd_T50 b0 z0).f0)) = false := decide_eq_false c81
        clear c81
        revert H; refine ca fun yc8 H => ?_
        have vc8 : decide (0 ≤ j1) = true := decide_eq_true yc8
        clear yc8
        revert H; refine ca fun sc8 H => ?_
        have qc8 : decide (j1 < (m0.length : Int)) = true := decide_eq_true sc8
        clear sc8
        obtain ⟨kb6, hy_⟩ : ∃ y_ : List Int, y_ = (m0.set (j1 : Int).toNat a1_0) := ⟨_, rfl⟩
        replace H : (if j1 < (o0.length : Int) then (some (kb6, (o0.set (j1 : Int).toNat a1_1), b0, ga0, true)) else (none)) = some (r1, r2, r3, r4, r5) := hw
        have gc3 := mk hy_
        clear hy_
        revert H; refine ca fun oc8 H => ?_
        have mc8 : decide (j1 < (o0.length : Int)) = true := decide_eq_true oc8
        clear oc8
        obtain ⟨ac4, hy_⟩ : ∃ y_ : List Int, y_ = (o0.set (j1 : Int).toNat a1_1) := ⟨_, rfl⟩
        replace H : (some (kb6, ac4, b0, ga0, true)) = some (r1, r2, r3, r4, r5) := hw
        have dc3 := mk hy_
        clear hy_
        simp only [Option.some.injEq, Prod.mk.injEq] at H
        obtain ⟨rfl, rfl, rfl, rfl, rfl⟩ := H
        have dc6 := s2.out
        have gc5 := b3.out
        have bc6 := q2.out
        have dc5 := z2.out
        have ac6 := o2.out
        have bc5 := v2.out
        obtain ⟨ab6, zb5, yb5, jb3, gb3, db3⟩ := bz3 b1
        obtain ⟨dd5, oa8, jc2⟩ := Kd.R_slice k0.out
        subst jc2
        have za6 : 0 ≤ (z0 : Int) := dt
        have ya6 : z0 < (b0.length : Int) := dt
        obtain ⟨da0, oc2, qa0, oa0⟩ := at_T50 (Kd.R_reads' k0.out).2.2 z0 za6 ya6
        cases oc2
        replace za6 := eq_true za6
        replace ya6 := eq_true ya6
        have zc5 := m1.out
        have ac5 := o1.out
        have yc5 := g1.out
        have zc4 := d1.out
        obtain ⟨vb5, sb5, bb3, ab3⟩ := bz2 s0
        have bb8 : 0 ≤ (j1 : Int) := dt
        have ob7 : (j1 : Int) < ((m0.length : Int) : Int) := dt
        obtain ⟨j4, z4, db0, ya9, oc1, md3, vb0⟩ := Kd.R_form g0.out (by omega)
        (first | cases db0 | (injection db0 with ea_ en_ ec_; (first | subst ea_ | (injection ea_ with ea_; subst ea_)); subst ec_; clear en_))
        have vc3 := mk ya9
        have vd4 := mk vb0
        clear ya9 oc1 vb0
        obtain ⟨kb8, mc0⟩ := Kd.R_celln 0 g0.out (j1 : Int) bb8 ob7
        replace bb8 := eq_true bb8
        replace ob7 := eq_true ob7
        have ya5 := Kd.R_putg g0.out (j1 : Int) a1_0
        iterate 3 ((try go_quiet (fail)); (try go_wp2_with (first | ((with_reducible refine gate_store (t := 3) (p := 93) rfl ?_); (try (rw [drewN_self wr]; generalize hq_ : World.drewN wr _ = wr; replace g0 := mk (Kd.R_at hq_ g0.out); replace d0 := mk (Kd.R_at hq_ d0.out); replace k0 := mk (Kd.R_at hq_ k0.out); replace q0 := mk (blk_at hq_ q0.out); replace s0 := mk (blk_at hq_ s0.out); replace v0 := mk (blk_at hq_ v0.out); replace b1 := mk (blk_at hq_ b1.out); replace HB := mk (below_at hq_ HB.out); clear hq_; (try (obtain ⟨hyq124_, hzq124_⟩ := Kd.R_celln 0 g0.out (j1 : Int) dt dt)); (try (have ya5 := Kd.R_putg g0.out (j1 : Int) a1_0)))); refine store_event (t := 3) (p := 93) (v := ?vo_w125) (w1 := (wr.setCell ⟨j4, (j1 : Int).toNat, none⟩ (.int .i64 a1_0))) ?hg ?ho ?hn ?hr ?_; (case ho => rfl); (case hg => rfl); (case hn => rfl); (case hr => first | (go_simp; done) | (go_simp; rfl)); intro ka6 hw; have hg : wr.grownBy ka6 (some j4) := (by rw [hw]; exact ya5.2); have hp_ : Kd.R (Kd.int .i64) 3 ka6 w.heap.size (fun k_ => some k_ ≠ (j3 : Value).ownBlock) (.slice (some ⟨j4, 0, none⟩) m0.length z4) kb6 := (by rw [hw, gc3.out]; exact ya5.1); clear ya5; replace d0 := mk (Kd.R_after (v := (.slice (some ⟨j4, 0, none⟩) m0.length z4)) (v1 := (.slice (some ⟨j4, 0, none⟩) m0.length z4)) (ok := (fun _ => True)) (by exact up (Kd.R_mono d0.out (fun _ hk => ⟨trivial, hk⟩))) hg (.inl rfl)); replace k0 := mk (Kd.R_over' (v := (.slice (some ⟨j4, 0, none⟩) m0.length z4)) (up k0.out) (Kd.R_typed g0.out) (by decide) hg); replace q0 := mk (blk_grown (g := s4) (o := .cells #[.slice q9 s1.length k9, .slice o9 g2.length j9, .slice m9 d2.length g9] 29 (0, 0)) (ub q0.out) hg (Kd.R_ne g0.out q0.out (by decide))); replace s0 := mk (blk_grown (g := q4) (o := .cells #[.int .i64 a1_0, .int .i64 a1_1] 39 (0, 0)) (ub s0.out) hg (Kd.R_ne g0.out s0.out (by decide))); replace v0 := mk (blk_grown (g := b4) (o := .cells #[.slice none 0 0, .slice none 0 0, .slice none 0 0] 29 (0, 0)) (ub v0.out) hg (Kd.R_ne g0.out v0.out (by decide))); replace b1 := mk (blk_grown (g := m2) (o := .cells #[.slice (some ⟨j4, 0, none⟩) m0.length z4, j3, .slice (some da0) b0.length oa8] 29 (0, 0)) (ub b1.out) hg (Kd.R_ne g0.out b1.out (by decide))); replace g0 := mk hp_; replace HB := mk ((by rw [hw]; exact below_set (HB.out) vc3.out : Below w.heap.size w ka6)); clear hg hw hp_; obtain ⟨qb5, ob5, mb5, zb2, yb2, vb2⟩ := bz3 b1; obtain ⟨kb5, jb5, sb2, qb2⟩ := bz2 s0; have ab8 : 0 ≤ (j1 : Int) := dt; have mb7 : (j1 : Int) < ((o0.length : Int) : Int) := dt; obtain ⟨m5, aa0, bb0, va9, mc1, kd3, sb0⟩ := Kd.R_form d0.out (by omega); (first | cases bb0 | (injection bb0 with ea_ en_ ec_; (first | subst ea_ | (injection ea_ with ea_; subst ea_)); subst ec_; clear en_)); have sc3 := mk va9; have sd4 := mk sb0; clear va9 mc1 sb0; obtain ⟨jb8, kc0⟩ := Kd.R_celln 0 d0.out (j1 : Int) ab8 mb7; replace ab8 := eq_true ab8; replace mb7 := eq_true mb7; replace d0 := ko1 (.slice (some ⟨j4, 0, none⟩) m0.length z4) d0; obtain ⟨hy128_, hz128_⟩ := Kd.R_celln 0 d0.out (j1 : Int) dt dt; have va5 := Kd.R_putg d0.out (j1 : Int) a1_1) | ((with_reducible refine gate_store (t := 3) (p := 99) rfl ?_); (try (rw [drewN_self ka6]; generalize hq_ : World.drewN ka6 _ = ka6; replace g0 := mk (Kd.R_at hq_ g0.out); replace d0 := mk (Kd.R_at hq_ d0.out); replace k0 := mk (Kd.R_at hq_ k0.out); replace q0 := mk (blk_at hq_ q0.out); replace s0 := mk (blk_at hq_ s0.out); replace v0 := mk (blk_at hq_ v0.out); replace b1 := mk (blk_at hq_ b1.out); replace HB := mk (below_at hq_ HB.out); clear hq_; (try (replace d0 := ko1 (.slice (some ⟨j4, 0, none⟩) m0.length z4) d0)); (try (obtain ⟨hy128_, hz128_⟩ := Kd.R_celln 0 d0.out (j1 : Int) dt dt)); (try (have va5 := Kd.R_putg d0.out (j1 : Int) a1_1)))); refine store_event (t := 3) (p := 99) (v := ?vo_w129) (w1 := (ka6.setCell ⟨m5, (j1 : Int).toNat, none⟩ (.int .i64 a1_1))) ?hg ?ho ?hn ?hr ?_; (case ho => rfl); (case hg => rfl); (case hn => rfl); (case hr => first | (go_simp; done) | (go_simp; rfl)); intro sb6 hw; have hg : ka6.grownBy sb6 (some m5) := (by rw [hw]; exact va5.2); have hp_ : Kd.R (Kd.int .i64) 3 sb6 w.heap.size (fun k_ => some k_ ≠ (.slice (some ⟨j4, 0, none⟩) m0.length z4 : Value).ownBlock) (.slice (some ⟨m5, 0, none⟩) o0.length aa0) ac4 := (by rw [hw, dc3.out]; exact va5.1); clear va5; replace g0 := mk (Kd.R_after (v := (.slice (some ⟨m5, 0, none⟩) o0.length aa0)) (v1 := (.slice (some ⟨m5, 0, none⟩) o0.length aa0)) (ok := (fun _ => True)) (by exact up (Kd.R_mono g0.out (fun _ hk => ⟨trivial, hk⟩))) hg (.inl rfl)); replace k0 := mk (Kd.R_over' (v := (.slice (some ⟨m5, 0, none⟩) o0.length aa0)) (up k0.out) (Kd.R_typed d0.out) (by decide) hg); replace q0 := mk (blk_grown (g := s4) (o := .cells #[.slice q9 s1.length k9, .slice o9 g2.length j9, .slice m9 d2.length g9] 29 (0, 0)) (ub q0.out) hg (Kd.R_ne d0.out q0.out (by decide))); replace s0 := mk (blk_grown (g := q4) (o := .cells #[.int .i64 a1_0, .int .i64 a1_1] 39 (0, 0)) (ub s0.out) hg (Kd.R_ne d0.out s0.out (by decide))); replace v0 := mk (blk_grown (g := b4) (o := .cells #[.slice none 0 0, .slice none 0 0, .slice none 0 0] 29 (0, 0)) (ub v0.out) hg (Kd.R_ne d0.out v0.out (by decide))); replace b1 := mk (blk_grown (g := m2) (o := .cells #[.slice (some ⟨j4, 0, none⟩) m0.length z4, .slice (some ⟨m5, 0, none⟩) o0.length aa0, .slice (some da0) b0.length oa8] 29 (0, 0)) (ub b1.out) hg (Kd.R_ne d0.out b1.out (by decide))); replace d0 := mk hp_; replace HB := mk ((by rw [hw]; exact below_set (HB.out) sc3.out : Below w.heap.size w sb6)); clear hg hw hp_; obtain ⟨gb5, db5, bb5, ob2, mb2, kb2⟩ := bz3 b1; have vc5 := z1.out; have yc4 := b2.out; obtain ⟨ab5, zb4, yb4, jb2, gb2, db2⟩ := bz3 v0))))
        refine bodyPost_ret (results_ctt rfl _ _ b4 29 #[.slice (some ⟨j4, 0, none⟩) m0.length z4, .slice (some ⟨m5, 0, none⟩) o0.length aa0, .slice (some da0) b0.length oa8] (0, 0) _ rfl bq Try.underlying29 rfl (by kernel_rfl)) rfl ?_
        exact ⟨_, _, _, rx, (by exact rm (rs1 g0 v0)), (by exact rm (rs1 d0 v0)), (by exact rm (rs1 k0 v0)), bl⟩
      ·have yc2 : decide (0 ≤ z0) = false := decide_eq_false c78
       clear c78
       revert H; refine ca fun kc8 H => ?_
       have jc8 : decide (0 ≤ j1) = true := decide_eq_true kc8
       clear kc8
       revert H; refine ca fun gc8 H => ?_
       have dc8 : decide (j1 < (m0.length : Int)) = true := decide_eq_true gc8
       clear gc8
       obtain ⟨jb6, hy_⟩ : ∃ y_ : List Int, y_ = (m0.set (j1 : Int).toNat a1_0) := ⟨_, rfl⟩
       replace H : (if j1 < (o0.length : Int) then (some (jb6, (o0.set (j1 : Int).toNat a1_1), b0, ga0, true)) else (none)) = some (r1, r2, r3, r4, r5) := hw
       have bc3 := mk hy_
       clear hy_
       revert H; refine ca fun bc8 H => ?_
       have ac8 : decide (j1 < (o0.length : Int)) = true := decide_eq_true bc8
       clear bc8
       obtain ⟨zc3, hy_⟩ : ∃ y_ : List Int, y_ = (o0.set (j1 : Int).toNat a1_1) := ⟨_, rfl⟩
       replace H : (some (jb6, zc3, b0, ga0, true)) = some (r1, r2, r3, r4, r5) := hw
       have ac3 := mk hy_
       clear hy_
       simp only [Option.some.injEq, Prod.mk.injEq] at H
       obtain ⟨rfl, rfl, rfl, rfl, rfl⟩ := H
       have sc5 := s2.out
       have vc4 := b3.out
       have qc5 := q2.out
       have sc4 := z2.out
       have oc5 := o2.out
       have qc4 := v2.out
       obtain ⟨vb4, sb4, qb4, bb2, ab2, zb1⟩ := bz3 b1
       have mc5 := m1.out
       have oc4 := o1.out
       have kc5 := g1.out
       have mc4 := d1.out
       obtain ⟨ob4, mb4, yb1, vb1⟩ := bz2 s0
       have zb7 : 0 ≤ (j1 : Int) := dt
       have kb7 : (j1 : Int) < ((m0.length : Int) : Int) := dt
       obtain ⟨g4, v4, ab0, sa9, kc1, jd3, qb0⟩ := Kd.R_form g0.out (by omega)
       (first | cases ab0 | (injection ab0 with ea_ en_ ec_; (first | subst ea_ | (injection ea_ with ea_; subst ea_)); subst ec_; clear en_))
       have qc3 := mk sa9
       have qd4 := mk qb0
       clear sa9 kc1 qb0
       obtain ⟨gb8, jc0⟩ := Kd.R_celln 0 g0.out (j1 : Int) zb7 kb7
       replace zb7 := eq_true zb7
       replace kb7 := eq_true kb7
       have sa5 := Kd.R_putg g0.out (j1 : Int) a1_0
       iterate 3 ((try go_quiet (fail)); (try go_wp2_with (first | ((with_reducible refine gate_store (t := 3) (p := 93) rfl ?_); (try (rw [drewN_self wr]; generalize hq_ : World.drewN wr _ = wr; replace g0 := mk (Kd.R_at hq_ g0.out); replace d0 := mk (Kd.R_at hq_ d0.out); replace k0 := mk (Kd.R_at hq_ k0.out); replace q0 := mk (blk_at hq_ q0.out); replace s0 := mk (blk_at hq_ s0.out); replace v0 := mk (blk_at hq_ v0.out); replace b1 := mk (blk_at hq_ b1.out); replace HB := mk (below_at hq_ HB.out); clear hq_; (try (obtain ⟨hyq145_, hzq145_⟩ := Kd.R_celln 0 g0.out (j1 : Int) dt dt)); (try (have sa5 := Kd.R_putg g0.out (j1 : Int) a1_0)))); refine store_event (t := 3) (p := 93) (v := ?vo_w146) (w1 := (wr.setCell ⟨g4, (j1 : Int).toNat, none⟩ (.int .i64 a1_0))) ?hg ?ho ?hn ?hr ?_; (case ho => rfl); (case hg => rfl); (case hn => rfl); (case hr => first | (go_simp; done) | (go_simp; rfl)); intro ja6 hw; have hg : wr.grownBy ja6 (some g4) := (by rw [hw]; exact sa5.2); have hp_ : Kd.R (Kd.int .i64) 3 ja6 w.heap.size (fun k_ => some k_ ≠ (j3 : Value).ownBlock) (.slice (some ⟨g4, 0, none⟩) m0.length v4) jb6 := (by rw [hw, bc3.out]; exact sa5.1); clear sa5; replace d0 := mk (Kd.R_after (v := (.slice (some ⟨g4, 0, none⟩) m0.length v4)) (v1 := (.slice (some ⟨g4, 0, none⟩) m0.length v4)) (ok := (fun _ => True)) (by exact up (Kd.R_mono d0.out (fun _ hk => ⟨trivial, hk⟩))) hg (.inl rfl)); replace k0 := mk (Kd.R_over' (v := (.slice (some ⟨g4, 0, none⟩) m0.length v4)) (up k0.out) (Kd.R_typed g0.out) (by decide) hg); replace q0 := mk (blk_grown (g := s4) (o := .cells #[.slice q9 s1.length k9, .slice o9 g2.length j9, .slice m9 d2.length g9] 29 (0, 0)) (ub q0.out) hg (Kd.R_ne g0.out q0.out (by decide))); replace s0 := mk (blk_grown (g := q4) (o := .cells #[.int .i64 a1_0, .int .i64 a1_1] 39 (0, 0)) (ub s0.out) hg (Kd.R_ne g0.out s0.out (by decide))); replace v0 := mk (blk_grown (g := b4) (o := .cells #[.slice none 0 0, .slice none 0 0, .slice none 0 0] 29 (0, 0)) (ub v0.out) hg (Kd.R_ne g0.out v0.out (by decide))); replace b1 := mk (blk_grown (g := m2) (o := .cells #[.slice (some ⟨g4, 0, none⟩) m0.length v4, j3, m4] 29 (0, 0)) (ub b1.out) hg (Kd.R_ne g0.out b1.out (by decide))); replace g0 := mk hp_; replace HB := mk ((by rw [hw]; exact below_set (HB.out) qc3.out : Below w.heap.size w ja6)); clear hg hw hp_; obtain ⟨kb4, jb4, gb4, sb1, qb1, ob1⟩ := bz3 b1; obtain ⟨db4, bb4, mb1, kb1⟩ := bz2 s0; have yb7 : 0 ≤ (j1 : Int) := dt; have jb7 : (j1 : Int) < ((o0.length : Int) : Int) := dt; obtain ⟨k5, z9, za9, qa9, jc1, gd3, ob0⟩ := Kd.R_form d0.out (by omega); (first | cases za9 | (injection za9 with ea_ en_ ec_; (first | subst ea_ | (injection ea_ with ea_; subst ea_)); subst ec_; clear en_)); have oc3 := mk qa9; have od4 := mk ob0; clear qa9 jc1 ob0; obtain ⟨db8, gc0⟩ := Kd.R_celln 0 d0.out (j1 : Int) yb7 jb7; replace yb7 := eq_true yb7; replace jb7 := eq_true jb7; replace d0 := ko1 (.slice (some ⟨g4, 0, none⟩) m0.length v4) d0; obtain ⟨hy149_, hz149_⟩ := Kd.R_celln 0 d0.out (j1 : Int) dt dt; have qa5 := Kd.R_putg d0.out (j1 : Int) a1_1) | ((with_reducible refine gate_store (t := 3) (p := 99) rfl ?_); (try (rw [drewN_self ja6]; generalize hq_ : World.drewN ja6 _ = ja6; replace g0 := mk (Kd.R_at hq_ g0.out); replace d0 := mk (Kd.R_at hq_ d0.out); replace k0 := mk (Kd.R_at hq_ k0.out); replace q0 := mk (blk_at hq_ q0.out); replace s0 := mk (blk_at hq_ s0.out); replace v0 := mk (blk_at hq_ v0.out); replace b1 := mk (blk_at hq_ b1.out); replace HB := mk (below_at hq_ HB.out); clear hq_; (try (replace d0 := ko1 (.slice (some ⟨g4, 0, none⟩) m0.length v4) d0)); (try (obtain ⟨hy149_, hz149_⟩ := Kd.R_celln 0 d0.out (j1 : Int) dt dt)); (try (have qa5 := Kd.R_putg d0.out (j1 : Int) a1_1)))); refine store_event (t := 3) (p := 99) (v := ?vo_w150) (w1 := (ja6.setCell ⟨k5, (j1 : Int).toNat, none⟩ (.int .i64 a1_1))) ?hg ?ho ?hn ?hr ?_; (case ho => rfl); (case hg => rfl); (case hn => rfl); (case hr => first | (go_simp; done) | (go_simp; rfl)); intro qb6 hw; have hg : ja6.grownBy qb6 (some k5) := (by rw [hw]; exact qa5.2); have hp_ : Kd.R (Kd.int .i64) 3 qb6 w.heap.size (fun k_ => some k_ ≠ (.slice (some ⟨g4, 0, none⟩) m0.length v4 : Value).ownBlock) (.slice (some ⟨k5, 0, none⟩) o0.length z9) zc3 := (by rw [hw, ac3.out]; exact qa5.1); clear qa5; replace g0 := mk (Kd.R_after (v := (.slice (some ⟨k5, 0, none⟩) o0.length z9)) (v1 := (.slice (some ⟨k5, 0, none⟩) o0.length z9)) (ok := (fun _ => True)) (by exact up (Kd.R_mono g0.out (fun _ hk => ⟨trivial, hk⟩))) hg (.inl rfl)); replace k0 := mk (Kd.R_over' (v := (.slice (some ⟨k5, 0, none⟩) o0.length z9)) (up k0.out) (Kd.R_typed d0.out) (by decide) hg); replace q0 := mk (blk_grown (g := s4) (o := .cells #[.slice q9 s1.length k9, .slice o9 g2.length j9, .slice m9 d2.length g9] 29 (0, 0)) (ub q0.out) hg (Kd.R_ne d0.out q0.out (by decide))); replace s0 := mk (blk_grown (g := q4) (o := .cells #[.int .i64 a1_0, .int .i64 a1_1] 39 (0, 0)) (ub s0.out) hg (Kd.R_ne d0.out s0.out (by decide))); replace v0 := mk (blk_grown (g := b4) (o := .cells #[.slice none 0 0, .slice none 0 0, .slice none 0 0] 29 (0, 0)) (ub v0.out) hg (Kd.R_ne d0.out v0.out (by decide))); replace b1 := mk (blk_grown (g := m2) (o := .cells #[.slice (some ⟨g4, 0, none⟩) m0.length v4, .slice (some ⟨k5, 0, none⟩) o0.length z9, m4] 29 (0, 0)) (ub b1.out) hg (Kd.R_ne d0.out b1.out (by decide))); replace d0 := mk hp_; replace HB := mk ((by rw [hw]; exact below_set (HB.out) oc3.out : Below w.heap.size w qb6)); clear hg hw hp_; obtain ⟨ab4, zb3, yb3, jb1, gb1, db1⟩ := bz3 b1; have jc5 := z1.out; have kc4 := b2.out; obtain ⟨vb3, sb3, qb3, bb1, ab1, zb0⟩ := bz3 v0; obtain ⟨yc3, qc2, gc2⟩ := Kd.R_slice k0.out; subst gc2))))
       refine bodyPost_ret (results_ctt rfl _ _ b4 29 #[.slice (some ⟨g4, 0, none⟩) m0.length v4, .slice (some ⟨k5, 0, none⟩) o0.length z9, .slice yc3 b0.length qc2] (0, 0) _ rfl bq Try.underlying29 rfl (by kernel_rfl)) rfl ?_
       exact ⟨_, _, _, rx, (by exact rm (rs1 g0 v0)), (by exact rm (rs1 d0 v0)), (by exact rm (rs1 k0 v0)), bl⟩

/-! ### impl_IsItem: function 41 -/
def impl_IsItem.f (a0_0 : Int) (a0_1 : Int) : Option (Bool) := if a0_0 ≥ (-999) then (if a0_0 ≤ 999 then (if a0_1 ≥ 0 then (some (decide (a0_1 ≤ 999))) else (some false)) else (some false)) else (some false)
set_option maxHeartbeats 8000000 in
set_option maxRecDepth 100000 in
theorem impl_IsItem.calls (a0_0 : Int) (a0_1 : Int) (r : Bool) (w : World) (h : impl_IsItem.f a0_0 a0_1 = some r) :
    Calls Try.prog 41 #[.agg #[.int .i64 a0_0, .int .i64 a0_1]] w fun e w' => e = .returned (.bool r) ∧ Below w.heap.size w w' := by
  have hu39 := Try.underlying39
  have HB := mk (Below.refl w.heap.size w)
  have H : (if a0_0 ≥ (-999) then (if a0_0 ≤ 999 then (if a0_1 ≥ 0 then (some (decide (a0_1 ≤ 999))) else (some false)) else (some false)) else (some false)) = some r := h
  clear h
  by_cases c2 : a0_0 ≥ (-999)
  · rw [if_pos c2] at H
    have jd4 : decide ((-999) ≤ a0_0) = true := decide_eq_true c2
    clear c2
    by_cases c3 : a0_0 ≤ 999
    · rw [if_pos c3] at H
      have gd4 : decide (a0_0 ≤ 999) = true := decide_eq_true c3
      clear c3
      by_cases c4 : a0_1 ≥ 0
      · rw [if_pos c4] at H
        have dd4 : decide (0 ≤ a0_1) = true := decide_eq_true c4
        clear c4
        obtain rfl := Option.some.inj H
        go_enter Try.func41, Try.ntmps41
        go_wp2_with (first | ((with_reducible refine gate_dst (N := 1) rfl ?_); refine bx 1 #[.int .i64 a0_0, .int .i64 a0_1] 39 ?_; intro ka8 hg w5 hbox hb; have d9 := mk hbox; have sa8 := wg hg; have va8 := wg hg; replace HB := wh hb; clear hb hbox hg; obtain ⟨bc7, ac7, mc6, kc6⟩ := bz2 d9))
        go_ret
        exact ⟨rx, bl⟩
      · rw [if_neg c4] at H
        have dd4 : decide (0 ≤ a0_1) = false := decide_eq_false c4
        clear c4
        obtain rfl := Option.some.inj H
        go_enter Try.func41, Try.ntmps41
        go_wp2_with (first | ((with_reducible refine gate_dst (N := 1) rfl ?_); refine bx 1 #[.int .i64 a0_0, .int .i64 a0_1] 39 ?_; intro ka8 hg w7 hbox hb; have d9 := mk hbox; have sa8 := wg hg; have va8 := wg hg; replace HB := wh hb; clear hb hbox hg; obtain ⟨zc6, yc6, jc6, gc6⟩ := bz2 d9))
        go_ret
        exact ⟨rx, bl⟩
    · rw [if_neg c3] at H
      have gd4 : decide (a0_0 ≤ 999) = false := decide_eq_false c3
      clear c3
      obtain rfl := Option.some.inj H
      go_enter Try.func41, Try.ntmps41
      go_wp2_with (first | ((with_reducible refine gate_dst (N := 1) rfl ?_); refine bx 1 #[.int .i64 a0_0, .int .i64 a0_1] 39 ?_; intro ka8 hg w9 hbox hb; have d9 := mk hbox; have sa8 := wg hg; have va8 := wg hg; replace HB := wh hb; clear hb hbox hg; obtain ⟨dc1, bc1, dc0, bc0⟩ := bz2 d9))
      go_ret
      exact ⟨rx, bl⟩
  · rw [if_neg c2] at H
    have jd4 : decide ((-999) ≤ a0_0) = false := decide_eq_false c2
    clear c2
    obtain rfl := Option.some.inj H
    go_enter Try.func41, Try.ntmps41
    go_wp2_with (first | ((with_reducible refine gate_dst (N := 1) rfl ?_); refine bx 1 #[.int .i64 a0_0, .int .i64 a0_1] 39 ?_; intro ka8 hg w11 hbox hb; have d9 := mk hbox; have sa8 := wg hg; have va8 := wg hg; replace HB := wh hb; clear hb hbox hg; obtain ⟨ac1, zc0, ac0, zb9⟩ := bz2 d9))
    go_ret
    exact ⟨rx, bl⟩

end Go.Proofs.Ytlikcmonejefoab.PFnRipples
