-- printed by a program of this session, a turned copy of the print of the kit
import Derived.Test.YtlikcmonejefoabSr
import Derived.Test.YtlikcmonejefoabPFnRipplesx0
import Derived.Test.YtlikcmonejefoabPFnRipplesx8
import Derived.Test.YtlikcmonejefoabPFnRipplesx9
import Derived.Test.YtlikcmonejefoabPFnRipplesx11
namespace Go.Proofs.Ytlikcmonejefoab.PFnRipples
open Go.RowKit Go.Proofs.YtlikcmonejefoabW.PrintWords Go.Proofs.YtlikcmonejefoabW.PrintLast Go.Proofs.YtlikcmonejefoabW.PrintMore Go.Proofs.Ytlikcmonejefoab.Sq
attribute [local go_sem] max2_int min2_int max_two min_two max_three min_three max_four min_four Giv.cell_twice   -- for this text's walks alone
set_option linter.unusedVariables false
set_option linter.unusedSimpArgs false

/-! ### impl_RippleInsert: function 15 -/
mutual
def impl_RippleInsert.j0 : Nat → Bool → List Int → List Int → List (S50) → Int → Int → List Int → List Int → List (S50) → Option (List Int × List Int × (List (S50)) × Int × Bool)
 | 0, _, _, _, _, _, _, _, _, _ => none
 | k + 1, x34, y9, bb5, ab5, q4, a5, v2, s2, k1 => if x34 = true then (some (v2, s2, k1, 0, false)) else ((some (([q4] : List Int) : List Int)).bind fun o5 => (if v2.length + o5.length < 17592186044416 then ((some (([a5] : List Int) : List Int)).bind fun q6 => (if s2.length + q6.length < 17592186044416 then (impl_RippleInsert.l0 k (y9.length : Int) 0 (wrap64 ((k1.length : Int) - 1)) q4 a5 (v2 ++ o5) (s2 ++ q6) k1) else (none))) else (none)))
def impl_RippleInsert.l0 : Nat → Int → Int → Int → Int → Int → List Int → List Int → List (S50) → Option (List Int × List Int × (List (S50)) × Int × Bool)
 | 0, _, _, _, _, _, _, _, _ => none
 | k + 1, x8, x9, x10, q4, a5, v2, s2, k1 => if x10 ≥ 0 then (if 0 ≤ x10 then (if x10 < (k1.length : Int) then (if ((rd_T50 k1 x10).f0) > q4 then (if 0 ≤ ((rd_T50 k1 x10).f1) then (if ((rd_T50 k1 x10).f1) < (v2.length : Int) then (if 0 ≤ x8 then (if x8 < (v2.length : Int) then (if ((rd_T50 k1 x10).f1) < (s2.length : Int) then (if x8 < (s2.length : Int) then ((impl_Cracker_put.f x8 ((rd_T50 k1 x10).f1)).bind fun a9 => (impl_RippleInsert.l0 k ((rd_T50 k1 x10).f1) (wrap64 (x9 + a9)) (wrap64 (x10 - 1)) q4 a5 (v2.set (x8 : Int).toNat (rd v2 ((rd_T50 k1 x10).f1))) (s2.set (x8 : Int).toNat (rd s2 ((rd_T50 k1 x10).f1))) (k1.set (x10 : Int).toNat (⟨(rd_T50 k1 x10).f0, wrap64 (((rd_T50 k1 x10).f1) + 1)⟩ : S50)))) else (none)) else (none)) else (none)) else (none)) else (none)) else (none)) else (if 0 ≤ x8 then (if x8 < (v2.length : Int) then (if x8 < (s2.length : Int) then (some ((v2.set (x8 : Int).toNat q4), (s2.set (x8 : Int).toNat a5), k1, x9, true)) else (none)) else (none)) else (none))) else (none)) else (none)) else (if 0 ≤ x8 then (if x8 < (v2.length : Int) then (if x8 < (s2.length : Int) then (some ((v2.set (x8 : Int).toNat q4), (s2.set (x8 : Int).toNat a5), k1, x9, true)) else (none)) else (none)) else (none))
end
def impl_RippleInsert.f (k : Nat) (d2 : List Int) (m3 : List Int) (k3 : List (S50)) (a1_0 : Int) (a1_1 : Int) : Option (List Int × List Int × (List (S50)) × Int × Bool) := (impl_copyCracker.f d2 m3 k3).bind fun z2 => ((impl_IsCracker.f k d2 m3 k3).bind fun sa7 => (if sa7 = true then ((impl_IsItem.f a1_0 a1_1).bind fun qa7 => (if qa7 = true then ((impl_FindRow.f k d2 m3 k3 a1_1).bind fun k9 => (if k9 ≥ 0 then (impl_RippleInsert.j0 k true d2 m3 k3 a1_0 a1_1 z2.1 z2.2.1 z2.2.2) else (impl_RippleInsert.j0 k (decide ((d2.length : Int) ≥ 64)) d2 m3 k3 a1_0 a1_1 z2.1 z2.2.1 z2.2.2))) else (impl_RippleInsert.j0 k true d2 m3 k3 a1_0 a1_1 z2.1 z2.2.1 z2.2.2))) else (impl_RippleInsert.j0 k true d2 m3 k3 a1_0 a1_1 z2.1 z2.2.1 z2.2.2)))
theorem impl_RippleInsert.mono_l : ∀ k, (∀ y0 y1 y2 y3 y4 y5 y6 y7 y8, LeO (impl_RippleInsert.j0 k y0 y1 y2 y3 y4 y5 y6 y7 y8) (impl_RippleInsert.j0 (k + 1) y0 y1 y2 y3 y4 y5 y6 y7 y8)) ∧ (∀ y0 y1 y2 y3 y4 y5 y6 y7, LeO (impl_RippleInsert.l0 k y0 y1 y2 y3 y4 y5 y6 y7) (impl_RippleInsert.l0 (k + 1) y0 y1 y2 y3 y4 y5 y6 y7))
 | 0 => ⟨fun _ _ _ _ _ _ _ _ _ r h => by simp [impl_RippleInsert.j0] at h, fun _ _ _ _ _ _ _ _ r h => by simp [impl_RippleInsert.l0] at h⟩
 | k + 1 => by
  obtain ⟨ih0, ih1⟩ := impl_RippleInsert.mono_l k
  refine ⟨?_, ?_⟩
  ·intro y0 y1 y2 y3 y4 y5 y6 y7 y8
   unfold impl_RippleInsert.j0
   exact mo
  ·intro y0 y1 y2 y3 y4 y5 y6 y7
   unfold impl_RippleInsert.l0
   exact mo
theorem impl_RippleInsert.mono : ∀ a0 a1 a2 a3 a4 k, LeO (impl_RippleInsert.f k a0 a1 a2 a3 a4) (impl_RippleInsert.f (k + 1) a0 a1 a2 a3 a4) := by
 intro a0 a1 a2 a3 a4 k
 obtain ⟨ih0, ih1⟩ := impl_RippleInsert.mono_l k
 unfold impl_RippleInsert.f
 exact mo
instance impl_RippleInsert.mi (a0 a1 a2 a3 a4 k) : LeC (impl_RippleInsert.f k a0 a1 a2 a3 a4) (impl_RippleInsert.f (k + 1) a0 a1 a2 a3 a4) := ⟨impl_RippleInsert.mono a0 a1 a2 a3 a4 k⟩
def impl_RippleInsert.T5 : Bool × List (List Nat × List Nat) := (true, [([], []), ([0], [0]), ([], []), ([2], [2]), ([3], [3]), ([1, 4], [1, 4]), ([], []), ([6], [6]), ([], []), ([8], [8]), ([9], [9]), ([7, 10, 5], [7, 10]), ([0, 1, 2, 3, 4, 5, 7, 11], []), ([12, 5, 11, 0, 1, 2, 3, 4, 5, 7, 11], [5, 12]), ([0, 1, 2, 3, 4, 5, 6, 7, 8, 9, 10, 11, 12, 13], []), ([14, 11, 13, 0, 1, 2, 3, 4, 5, 6, 7, 8, 9, 10, 11, 12, 13], [11, 14])])
def impl_RippleInsert.B5 : List Nat := [0, 1, 0, 4, 12, 31, 0, 64, 0, 256, 768, 2047, 4095, 8191, 16383, 32767]
theorem impl_RippleInsert.tab5 : rtab .any (opsOf Try.f15 5) = impl_RippleInsert.T5 := by kernel_rfl
theorem impl_RippleInsert.bits5 : waitsOk impl_RippleInsert.T5.2 impl_RippleInsert.B5 = true := by kernel_rfl
def impl_RippleInsert.T7 : Bool × List (List Nat × List Nat) := (true, [([], []), ([0], [0]), ([1], [1]), ([2], [2]), ([3, 2], [2, 3]), ([2], [2]), ([4, 5, 2], [2, 4, 5]), ([6, 2], [2, 6]), ([7, 2], [2, 7]), ([2], [2]), ([9, 2], [2, 9]), ([8, 10, 2], [2, 8, 10]), ([2, 11], [2, 11])])
def impl_RippleInsert.B7 : List Nat := [0, 1, 3, 7, 15, 7, 63, 127, 255, 7, 519, 2047, 4095]
theorem impl_RippleInsert.tab7 : rtab .any (opsOf Try.f15 7) = impl_RippleInsert.T7 := by kernel_rfl
theorem impl_RippleInsert.bits7 : waitsOk impl_RippleInsert.T7.2 impl_RippleInsert.B7 = true := by kernel_rfl
set_option maxHeartbeats 8000000 in
set_option maxRecDepth 100000 in
theorem impl_RippleInsert.calls (k : Nat) (g6 : Option Addr) (z5 : Nat) (d2 : List Int) (d6 : Option Addr) (v5 : Nat) (m3 : List Int) (b6 : Option Addr) (s5 : Nat) (k3 : List (S50)) (a1_0 : Int) (a1_1 : Int) (r1 : List Int) (r2 : List Int) (r3 : List (S50)) (r4 : Int) (r5 : Bool) (w : World) (za7 : Kd.C (Kd.int .i64) w g6 d2.length d2) (hc0_0 : d2.length ≤ z5) (ya7 : Kd.C (Kd.int .i64) w d6 m3.length m3) (hc0_1 : m3.length ≤ v5) (va7 : Kd.C k50 w b6 k3.length k3) (hc0_2 : k3.length ≤ s5) (h : impl_RippleInsert.f k d2 m3 k3 a1_0 a1_1 = some (r1, r2, r3, r4, r5)) :
  Calls Try.prog 15 #[.agg #[.slice g6 d2.length z5, .slice d6 m3.length v5, .slice b6 k3.length s5], .agg #[.int .i64 a1_0, .int .i64 a1_1]] w fun e w' => ∃ v0_ v1_ v2_ : Value, e = .returned (.tuple #[.agg #[v0_, v1_, v2_], .int .i64 r4, .bool r5]) ∧ Kd.R (Kd.int .i64) 3 w' w.heap.size (fun k_ => some k_ ≠ (v1_ : Value).ownBlock) v0_ r1 ∧ Kd.R (Kd.int .i64) 3 w' w.heap.size (fun k_ => some k_ ≠ (v0_ : Value).ownBlock) v1_ r2 ∧ Kd.R k50 50 w' w.heap.size (fun _ => True) v2_ r3 ∧ Below w.heap.size w w' := by
 have hu29 := Try.underlying29
 have hu39 := Try.underlying39
 have k7 := mk za7
 have q7 := mk hc0_0
 clear za7 hc0_0
 have j7 := mk ya7
 have o7 := mk hc0_1
 clear ya7 hc0_1
 have g7 := mk va7
 have m7 := mk hc0_2
 clear va7 hc0_2
 have HB := mk (Below.refl w.heap.size w)
 have H : ((impl_copyCracker.f d2 m3 k3).bind fun z2 => ((impl_IsCracker.f k d2 m3 k3).bind fun sa7 => (if sa7 = true then ((impl_IsItem.f a1_0 a1_1).bind fun qa7 => (if qa7 = true then ((impl_FindRow.f k d2 m3 k3 a1_1).bind fun k9 => (if k9 ≥ 0 then (impl_RippleInsert.j0 k true d2 m3 k3 a1_0 a1_1 z2.1 z2.2.1 z2.2.2) else (impl_RippleInsert.j0 k (decide ((d2.length : Int) ≥ 64)) d2 m3 k3 a1_0 a1_1 z2.1 z2.2.1 z2.2.2))) else (impl_RippleInsert.j0 k true d2 m3 k3 a1_0 a1_1 z2.1 z2.2.1 z2.2.2))) else (impl_RippleInsert.j0 k true d2 m3 k3 a1_0 a1_1 z2.1 z2.2.1 z2.2.2)))) = some (r1, r2, r3, r4, r5) := h
 clear h
 revert H; refine bo ?_; rintro ⟨v4, j3, g4⟩ A3 H
 dsimp only at H
 have HC4 := mk H
 clear H
 go_enter Try.func15, Try.ntmps15
 go_upto_region 2 with (first | ((with_reducible refine gate_dst (N := 2) rfl ?_); (try (refine gate_guard (by rfl) ?_; dsimp only)); refine bx 2 #[.slice g6 d2.length z5, .slice d6 m3.length v5, .slice b6 k3.length s5] 29 ?_; intro z3 hg w5 hbox hb; have v0 := mk hbox; have md4 := wg hg; replace HB := wh hb; clear hb hbox hg) | ((with_reducible refine gate_dst (N := 3) rfl ?_); (try (refine gate_guard (by rfl) ?_; dsimp only)); refine bx 3 #[.int .i64 a1_0, .int .i64 a1_1] 39 ?_; intro g2 hg w6 hbox hb; have s0 := mk hbox; have kd4 := wg hg; replace HB := wh hb; have q2 := nl v0 hg; have o2 := nr v0 hg; replace v0 := wb v0 hb; clear hb hbox hg) | ((with_reducible refine gate_dst (N := 4) rfl ?_); (try (refine gate_guard (by rfl) ?_; dsimp only)); refine bx 4 #[.slice none 0 0, .slice none 0 0, .slice none 0 0] 29 ?_; intro o3 hg w7 hbox hb; have z0 := mk hbox; have jd4 := wg hg; replace HB := wh hb; have z1 := nl v0 hg; have s1 := nr v0 hg; replace v0 := wb v0 hb; have s3 := nl s0 hg; have q3 := nr s0 hg; replace s0 := wb s0 hb; clear hb hbox hg; have yd5 := q2.out; have sd5 := o2.out; have vd5 := z1.out; have qd5 := s1.out; obtain ⟨va6, sa6, qa6, qa3, oa3, ma3⟩ := bz3 v0) | ((with_reducible refine gate_callee (f := 32) rfl ?_); refine gl (some 13) rfl Try.func32 #[.agg #[.slice g6 d2.length z5, .slice d6 m3.length v5, .slice b6 k3.length s5]] ?_; (with_reducible refine (impl_copyCracker.calls _ _ d2 _ _ m3 _ _ k3 v4 j3 g4 _ ?side1 ?side2 ?side3 ?side4 ?side5 ?side6 A3.out).mono ?_); (case side1 => exact cb k7 HB); (case side2 => exact q7.out); (case side3 => exact cb j7 HB); (case side4 => exact o7.out); (case side5 => exact cb g7 HB); (case side6 => exact m7.out); rintro e w11 ⟨od5, md5, kd5, rfl, ho0, ho1, ho2, hb⟩; refine ⟨_, rfl, ?_⟩; have g3 := lo ho0; have d3 := lo ho1; have b3 := lo ho2; replace v0 := wb v0 hb; replace s0 := wb s0 hb; replace z0 := wb z0 hb; replace HB := wh hb; (try clear hb ho0 ho1 ho2)) | ((with_reducible refine gate_dst (N := 7) rfl ?_); (try (refine gate_guard (by rfl) ?_; dsimp only)); refine bx 7 #[.slice none 0 0, .slice none 0 0, .slice none 0 0] 29 ?_; intro d1 hg w12 hbox hb; replace g3 := ro g3 hb; replace d3 := ro d3 hb; replace b3 := ro b3 hb; have o0 := mk hbox; have oc1 := wg hg; replace HB := wh hb; have j1 := nl v0 hg; have g1 := nr v0 hg; replace v0 := wb v0 hb; have o1 := nl s0 hg; have m1 := nr s0 hg; replace s0 := wb s0 hb; have m2 := nl z0 hg; have j2 := nr z0 hg; replace z0 := wb z0 hb; clear hb hbox hg; obtain ⟨a6, q5, zd1⟩ := Kd.R_slice g3.out; subst zd1; have sd1 := g1.out; have jc9 := j1.out; have qd1 := m1.out; have gc9 := o1.out; have od1 := j2.out; have dc9 := m2.out; obtain ⟨oa6, ma6, ka6, ka3, ja3, ga3⟩ := bz3 o0; obtain ⟨d4, b4, yd1⟩ := Kd.R_slice d3.out; subst yd1; obtain ⟨o6, j6, vd1⟩ := Kd.R_slice b3.out; subst vd1))
 (try simp only [Act.put, List.setIfInBounds_toArray, List.set_cons_zero, List.set_cons_succ])
 go_cut [34] (fun v34 wc => ∃ (kq : Nat) (q8 : Bool), v34 = .bool q8 ∧ Aside0 (impl_RippleInsert.j0 kq q8 d2 m3 k3 a1_0 a1_1 v4 j3 g4 = some (r1, r2, r3, r4, r5)) ∧ Aside0 (kq ≤ k) ∧ Aside0 (Kd.R (Kd.int .i64) 3 wc w.heap.size (fun k_ => some k_ ≠ ((.slice d4 j3.length b4) : Value).ownBlock) (.slice a6 v4.length q5) v4) ∧ Aside0 (Kd.R (Kd.int .i64) 3 wc w.heap.size (fun k_ => some k_ ≠ ((.slice a6 v4.length q5) : Value).ownBlock) (.slice d4 j3.length b4) j3) ∧ Aside0 (Kd.R k50 50 wc w.heap.size (fun _ => True) (.slice o6 g4.length j6) g4) ∧ Aside0 (wc.heap[z3]? = some (.cells #[(.slice g6 d2.length z5), (.slice d6 m3.length v5), (.slice b6 k3.length s5)] 29 (0, 0))) ∧ Aside0 (wc.heap[g2]? = some (.cells #[.int .i64 a1_0, .int .i64 a1_1] 39 (0, 0))) ∧ Aside0 (wc.heap[o3]? = some (.cells #[(.slice none 0 0), (.slice none 0 0), (.slice none 0 0)] 29 (0, 0))) ∧ Aside0 (wc.heap[d1]? = some (.cells #[(.slice a6 v4.length q5), (.slice d4 j3.length b4), (.slice o6 g4.length j6)] 29 (0, 0))) ∧ Aside0 (Below w.heap.size w wc))
 case first =>
  have H := HC4.out
  clear HC4
  revert H; refine bo ?_; rintro sa7 A20 H
  by_cases c21 : sa7 = true
  ·subst c21
   rw [if_pos rfl] at H
   revert H; refine bo ?_; rintro qa7 A22 H
   by_cases c23 : qa7 = true
   ·subst c23
    rw [if_pos rfl] at H
    revert H; refine bo ?_; rintro k9 A24 H
    revert H; refine ci (fun c25 H => ?_) fun c25 H => ?_
    ·have v7 : decide (0 ≤ k9) = true := decide_eq_true c25
     clear c25
     (first | rw [v7] | (simp only [i64_w, i32_w]; rw [v7]) | skip)
     have H' := mk H
     clear H
     have md1 := q2.out
     have bc9 := o2.out
     have kd1 := z1.out
     have ac9 := s1.out
     have jd1 := j1.out
     have zc8 := g1.out
     obtain ⟨ja6, ga6, da6, da3, ba3, aa3⟩ := bz3 v0
     go_wp2_with (first | ((with_reducible refine gate_callee (f := 19) rfl ?_); refine gl (some 15) rfl Try.func19 #[.agg #[.slice g6 d2.length z5, .slice d6 m3.length v5, .slice b6 k3.length s5]] ?_; (with_reducible refine (impl_IsCracker.calls k _ _ d2 _ _ m3 _ _ k3 true _ ?side1 ?side2 ?side3 ?side4 ?side5 ?side6 A20.out).mono ?_); (case side1 => exact Kd.C_below k7.out bl); (case side2 => exact q7.out); (case side3 => exact Kd.C_below j7.out bl); (case side4 => exact o7.out); (case side5 => exact Kd.C_below g7.out bl); (case side6 => exact m7.out); rintro e w30 ⟨rfl, hb⟩; refine ⟨_, rfl, ?_⟩; replace g3 := ro1 g3 o0 hb; replace d3 := ro1 d3 o0 hb; replace b3 := ro1 b3 o0 hb; replace v0 := wx v0 hb; replace s0 := wx s0 hb; replace z0 := wx z0 hb; replace o0 := wq d1 #[.slice a6 v4.length q5, .slice d4 j3.length b4, .slice o6 g4.length j6] 29 hb; replace HB := wh hb; (try clear hb); have gd1 := s3.out; have yc8 := q3.out; have dd1 := o1.out; have vc8 := m1.out; obtain ⟨ba6, aa6, za2, ya2⟩ := bz2 s0) | (go_at_call 41; (with_reducible refine (impl_IsItem.calls a1_0 a1_1 true _ A22.out).mono ?_); rintro e w34 ⟨rfl, hb⟩; replace g3 := ro g3 hb; replace d3 := ro d3 hb; replace b3 := ro b3 hb; replace v0 := wb v0 hb; replace s0 := wb s0 hb; replace z0 := wb z0 hb; replace o0 := wb o0 hb; replace HB := wh hb; (try clear hb); obtain ⟨za5, ya5, va5, va2, sa2, qa2⟩ := bz3 v0; obtain ⟨sa5, qa5, oa2, ma2⟩ := bz2 s0) | (go_at_call 24; (with_reducible refine (impl_FindRow.calls k _ _ d2 _ _ m3 _ _ k3 a1_1 k9 _ ?side1 ?side2 ?side3 ?side4 ?side5 ?side6 A24.out).mono ?_); (case side1 => exact cb k7 HB); (case side2 => exact q7.out); (case side3 => exact cb j7 HB); (case side4 => exact o7.out); (case side5 => exact cb g7 HB); (case side6 => exact m7.out); rintro e w37 ⟨rfl, hb⟩; replace g3 := ro g3 hb; replace d3 := ro d3 hb; replace b3 := ro b3 hb; replace v0 := wb v0 hb; replace s0 := wb s0 hb; replace z0 := wb z0 hb; replace o0 := wb o0 hb; replace HB := wh hb; (try clear hb)))
     go_meet
     case rel => exact ⟨_, (true), (by first | rfl | (simp; done) | (simp [*]; done)), H', ⟨by first | omega | exact Nat.le_refl _⟩, ⟨up g3.out⟩, ⟨up d3.out⟩, ⟨up b3.out⟩, ⟨ub v0.out⟩, ⟨ub s0.out⟩, ⟨ub z0.out⟩, ⟨ub o0.out⟩, ⟨bl⟩⟩
    ·have v7 : decide (0 ≤ k9) = false := decide_eq_false c25
     clear c25
     (first | rw [v7] | (simp only [i64_w, i32_w]; rw [v7]) | skip)
     have H' := mk H
     clear H
     have bd1 := q2.out
     have sc8 := o2.out
     have ad1 := z1.out
     have qc8 := s1.out
     have zd0 := j1.out
     have oc8 := g1.out
     obtain ⟨oa5, ma5, ka5, ka2, ja2, ga2⟩ := bz3 v0
     go_wp2_with (first | ((with_reducible refine gate_callee (f := 19) rfl ?_); refine gl (some 15) rfl Try.func19 #[.agg #[.slice g6 d2.length z5, .slice d6 m3.length v5, .slice b6 k3.length s5]] ?_; (with_reducible refine (impl_IsCracker.calls k _ _ d2 _ _ m3 _ _ k3 true _ ?side1 ?side2 ?side3 ?side4 ?side5 ?side6 A20.out).mono ?_); (case side1 => exact Kd.C_below k7.out bl); (case side2 => exact q7.out); (case side3 => exact Kd.C_below j7.out bl); (case side4 => exact o7.out); (case side5 => exact Kd.C_below g7.out bl); (case side6 => exact m7.out); rintro e w42 ⟨rfl, hb⟩; refine ⟨_, rfl, ?_⟩; replace g3 := ro1 g3 o0 hb; replace d3 := ro1 d3 o0 hb; replace b3 := ro1 b3 o0 hb; replace v0 := wx v0 hb; replace s0 := wx s0 hb; replace z0 := wx z0 hb; replace o0 := wq d1 #[.slice a6 v4.length q5, .slice d4 j3.length b4, .slice o6 g4.length j6] 29 hb; replace HB := wh hb; (try clear hb); have yd0 := s3.out; have mc8 := q3.out; have vd0 := o1.out; have kc8 := m1.out; obtain ⟨ja5, ga5, da2, ba2⟩ := bz2 s0) | (go_at_call 41; (with_reducible refine (impl_IsItem.calls a1_0 a1_1 true _ A22.out).mono ?_); rintro e w46 ⟨rfl, hb⟩; replace g3 := ro g3 hb; replace d3 := ro d3 hb; replace b3 := ro b3 hb; replace v0 := wb v0 hb; replace s0 := wb s0 hb; replace z0 := wb z0 hb; replace o0 := wb o0 hb; replace HB := wh hb; (try clear hb); obtain ⟨da5, ba5, aa5, aa2, za1, ya1⟩ := bz3 v0; obtain ⟨za4, ya4, va1, sa1⟩ := bz2 s0) | (go_at_call 24; (with_reducible refine (impl_FindRow.calls k _ _ d2 _ _ m3 _ _ k3 a1_1 k9 _ ?side1 ?side2 ?side3 ?side4 ?side5 ?side6 A24.out).mono ?_); (case side1 => exact cb k7 HB); (case side2 => exact q7.out); (case side3 => exact cb j7 HB); (case side4 => exact o7.out); (case side5 => exact cb g7 HB); (case side6 => exact m7.out); rintro e w49 ⟨rfl, hb⟩; replace g3 := ro g3 hb; replace d3 := ro d3 hb; replace b3 := ro b3 hb; replace v0 := wb v0 hb; replace s0 := wb s0 hb; replace z0 := wb z0 hb; replace o0 := wb o0 hb; replace HB := wh hb; (try clear hb); obtain ⟨va4, sa4, qa4, qa1, oa1, ma1⟩ := bz3 v0))
     go_meet
     case rel => exact ⟨_, (decide ((d2.length : Int) ≥ 64)), (by first | rfl | (simp; done) | (simp [*]; done)), H', ⟨by first | omega | exact Nat.le_refl _⟩, ⟨up g3.out⟩, ⟨up d3.out⟩, ⟨up b3.out⟩, ⟨ub v0.out⟩, ⟨ub s0.out⟩, ⟨ub z0.out⟩, ⟨ub o0.out⟩, ⟨bl⟩⟩
   ·replace c23 := Bool.eq_false_iff.mpr c23
    subst c23
    rw [if_neg nf] at H
    have H' := mk H
    clear H
    have sd0 := q2.out
    have jc8 := o2.out
    have qd0 := z1.out
    have gc8 := s1.out
    have od0 := j1.out
    have dc8 := g1.out
    obtain ⟨oa4, ma4, ka4, ka1, ja1, ga1⟩ := bz3 v0
    go_wp2_with (first | ((with_reducible refine gate_callee (f := 19) rfl ?_); refine gl (some 15) rfl Try.func19 #[.agg #[.slice g6 d2.length z5, .slice d6 m3.length v5, .slice b6 k3.length s5]] ?_; (with_reducible refine (impl_IsCracker.calls k _ _ d2 _ _ m3 _ _ k3 true _ ?side1 ?side2 ?side3 ?side4 ?side5 ?side6 A20.out).mono ?_); (case side1 => exact Kd.C_below k7.out bl); (case side2 => exact q7.out); (case side3 => exact Kd.C_below j7.out bl); (case side4 => exact o7.out); (case side5 => exact Kd.C_below g7.out bl); (case side6 => exact m7.out); rintro e w55 ⟨rfl, hb⟩; refine ⟨_, rfl, ?_⟩; replace g3 := ro1 g3 o0 hb; replace d3 := ro1 d3 o0 hb; replace b3 := ro1 b3 o0 hb; replace v0 := wx v0 hb; replace s0 := wx s0 hb; replace z0 := wx z0 hb; replace o0 := wq d1 #[.slice a6 v4.length q5, .slice d4 j3.length b4, .slice o6 g4.length j6] 29 hb; replace HB := wh hb; (try clear hb); have md0 := s3.out; have bc8 := q3.out; have kd0 := o1.out; have ac8 := m1.out; obtain ⟨ja4, ga4, da1, ba1⟩ := bz2 s0) | (go_at_call 41; (with_reducible refine (impl_IsItem.calls a1_0 a1_1 false _ A22.out).mono ?_); rintro e w59 ⟨rfl, hb⟩; replace g3 := ro g3 hb; replace d3 := ro d3 hb; replace b3 := ro b3 hb; replace v0 := wb v0 hb; replace s0 := wb s0 hb; replace z0 := wb z0 hb; replace o0 := wb o0 hb; replace HB := wh hb; (try clear hb)))
    go_meet
    case rel => exact ⟨_, (true), (by first | rfl | (simp; done) | (simp [*]; done)), H', ⟨by first | omega | exact Nat.le_refl _⟩, ⟨up g3.out⟩, ⟨up d3.out⟩, ⟨up b3.out⟩, ⟨ub v0.out⟩, ⟨ub s0.out⟩, ⟨ub z0.out⟩, ⟨ub o0.out⟩, ⟨bl⟩⟩
  ·replace c21 := Bool.eq_false_iff.mpr c21
   subst c21
   rw [if_neg nf] at H
   have H' := mk H
   clear H
   have jd0 := q2.out
   have zc7 := o2.out
   have gd0 := z1.out
   have yc7 := s1.out
   have dd0 := j1.out
   have vc7 := g1.out
   obtain ⟨da4, ba4, aa4, aa1, za0, ya0⟩ := bz3 v0
   go_wp2_with (first | ((with_reducible refine gate_callee (f := 19) rfl ?_); refine gl (some 15) rfl Try.func19 #[.agg #[.slice g6 d2.length z5, .slice d6 m3.length v5, .slice b6 k3.length s5]] ?_; (with_reducible refine (impl_IsCracker.calls k _ _ d2 _ _ m3 _ _ k3 false _ ?side1 ?side2 ?side3 ?side4 ?side5 ?side6 A20.out).mono ?_); (case side1 => exact Kd.C_below k7.out bl); (case side2 => exact q7.out); (case side3 => exact Kd.C_below j7.out bl); (case side4 => exact o7.out); (case side5 => exact Kd.C_below g7.out bl); (case side6 => exact m7.out); rintro e w64 ⟨rfl, hb⟩; refine ⟨_, rfl, ?_⟩; replace g3 := ro1 g3 o0 hb; replace d3 := ro1 d3 o0 hb; replace b3 := ro1 b3 o0 hb; replace v0 := wx v0 hb; replace s0 := wx s0 hb; replace z0 := wx z0 hb; replace o0 := wq d1 #[.slice a6 v4.length q5, .slice d4 j3.length b4, .slice o6 g4.length j6] 29 hb; replace HB := wh hb; (try clear hb)))
   go_meet
   case rel => exact ⟨_, (true), (by first | rfl | (simp; done) | (simp [*]; done)), H', ⟨by first | omega | exact Nat.le_refl _⟩, ⟨up g3.out⟩, ⟨up d3.out⟩, ⟨up b3.out⟩, ⟨ub v0.out⟩, ⟨ub s0.out⟩, ⟨ub z0.out⟩, ⟨ub o0.out⟩, ⟨bl⟩⟩
 case rest =>
  clear HC4
  try clear c1
  try clear c2
  try clear p2
  try clear c3
  try clear c4
  try clear c5
  try clear c6
  try clear c8
  try clear c9
  try clear c14
  try clear c15
  try clear c16
  try clear c19
  try clear c21
  try clear c23
  try clear c25
  try clear v7
  try clear c26
  try clear c27
  try clear c28
  try clear c31
  try clear c32
  try clear c38
  try clear c39
  try clear c40
  try clear c43
  try clear c44
  try clear c51
  try clear c52
  try clear c53
  try clear c56
  try clear c57
  try clear c60
  try clear c61
  try clear c62
  try clear va6
  try clear sa6
  try clear qa6
  try clear oa6
  try clear ma6
  try clear ka6
  try clear ja6
  try clear ga6
  try clear da6
  try clear ba6
  try clear aa6
  try clear za5
  try clear ya5
  try clear va5
  try clear sa5
  try clear qa5
  try clear oa5
  try clear ma5
  try clear ka5
  try clear ja5
  try clear ga5
  try clear da5
  try clear ba5
  try clear aa5
  try clear za4
  try clear ya4
  try clear va4
  try clear sa4
  try clear qa4
  try clear oa4
  try clear ma4
  try clear ka4
  try clear ja4
  try clear ga4
  try clear da4
  try clear ba4
  try clear aa4
  try clear qa3
  try clear oa3
  try clear ma3
  try clear ka3
  try clear ja3
  try clear ga3
  try clear da3
  try clear ba3
  try clear aa3
  try clear za2
  try clear ya2
  try clear va2
  try clear sa2
  try clear qa2
  try clear oa2
  try clear ma2
  try clear ka2
  try clear ja2
  try clear ga2
  try clear da2
  try clear ba2
  try clear aa2
  try clear za1
  try clear ya1
  try clear va1
  try clear sa1
  try clear qa1
  try clear oa1
  try clear ma1
  try clear ka1
  try clear ja1
  try clear ga1
  try clear da1
  try clear ba1
  try clear aa1
  try clear za0
  try clear ya0
  obtain ⟨kq, q8, rfl, HA, HJ3, d0, b0, k0, v0, s0, z0, o0, HB⟩ := hcut
  cases kq with
  | zero => exact absurd HA.out (by simp [impl_RippleInsert.j0])
  | succ kj3 =>
   have H := HA.out
   clear HA
   simp only [impl_RippleInsert.j0] at H
   by_cases c65 : q8 = true
   ·subst c65
    rw [if_pos rfl] at H
    simp only [Option.some.injEq, Prod.mk.injEq] at H
    obtain ⟨rfl, rfl, rfl, rfl, rfl⟩ := H
    have bd0 := g1.out
    have sc7 := j1.out
    have ad0 := m1.out
    have qc7 := o1.out
    have zc9 := j2.out
    have oc7 := m2.out
    obtain ⟨qb9, ob9, mb9, jb8, gb8, db8⟩ := bz3 o0
    have yc9 := s1.out
    have mc7 := z1.out
    have vc9 := q3.out
    have kc7 := s3.out
    obtain ⟨kb9, jb9, gb9, bb8, ab8, zb7⟩ := bz3 z0
    go_wp2
    refine bodyPost_ret (results_ctt rfl _ _ o3 29 #[.slice a6 v4.length q5, .slice d4 j3.length b4, .slice o6 g4.length j6] (0, 0) _ rfl bq Try.underlying29 rfl (by kernel_rfl)) rfl ?_
    exact ⟨_, _, _, rx, (by exact rm (rs1 d0 z0)), (by exact rm (rs1 b0 z0)), (by exact rm (rs1 k0 z0)), bl⟩
   ·replace c65 := Bool.eq_false_iff.mpr c65
    subst c65
    rw [if_neg nf] at H
    obtain ⟨o5, hy_⟩ : ∃ y_ : List Int, y_ = (([a1_0] : List Int)) := ⟨_, rfl⟩
    replace H : (if v4.length + o5.length < 17592186044416 then ((some (([a1_1] : List Int) : List Int)).bind fun q6 => (if j3.length + q6.length < 17592186044416 then (impl_RippleInsert.l0 kj3 (d2.length : Int) 0 (wrap64 ((g4.length : Int) - 1)) a1_0 a1_1 (v4 ++ o5) (j3 ++ q6) g4) else (none))) else (none)) = some (r1, r2, r3, r4, r5) := hw
    have g9 := mk hy_
    clear hy_
    revert H; refine ca fun c73 H => ?_
    have LMc73 := mk c73
    clear c73
    obtain ⟨s9, hy_⟩ : ∃ y_ : List Int, y_ = (v4 ++ o5) := ⟨_, rfl⟩
    replace H : ((some (([a1_1] : List Int) : List Int)).bind fun q6 => (if j3.length + q6.length < 17592186044416 then (impl_RippleInsert.l0 kj3 (d2.length : Int) 0 (wrap64 ((g4.length : Int) - 1)) a1_0 a1_1 s9 (j3 ++ q6) g4) else (none))) = some (r1, r2, r3, r4, r5) := hw
    have ya6 := mk hy_
    clear hy_
    obtain ⟨q6, hy_⟩ : ∃ y_ : List Int, y_ = (([a1_1] : List Int)) := ⟨_, rfl⟩
    replace H : (if j3.length + q6.length < 17592186044416 then (impl_RippleInsert.l0 kj3 (d2.length : Int) 0 (wrap64 ((g4.length : Int) - 1)) a1_0 a1_1 s9 (j3 ++ q6) g4) else (none)) = some (r1, r2, r3, r4, r5) := hw
    have z7 := mk hy_
    clear hy_
    revert H; refine ca fun c74 H => ?_
    have LMc74 := mk c74
    clear c74
    obtain ⟨zb4, hy_⟩ : ∃ y_ : List Int, y_ = (j3 ++ q6) := ⟨_, rfl⟩
    replace H : (impl_RippleInsert.l0 kj3 (d2.length : Int) 0 (wrap64 ((g4.length : Int) - 1)) a1_0 a1_1 s9 zb4 g4) = some (r1, r2, r3, r4, r5) := hw
    have mc1 := mk hy_
    clear hy_
    have H' := mk H
    clear H
    have sc9 := q2.out
    have jc7 := o2.out
    have qc9 := z1.out
    have gc7 := s1.out
    have oc9 := j1.out
    have dc7 := g1.out
    obtain ⟨db9, bb9, ab9, yb7, vb7, sb7⟩ := bz3 v0
    try go_wp2
    replace d0 := mk (Kd.R_drew d0.out)
    replace b0 := mk (Kd.R_drew b0.out)
    replace k0 := mk (Kd.R_drew k0.out)
    replace v0 := wd v0
    replace s0 := wd s0
    replace z0 := wd z0
    replace o0 := wd o0
    replace HB := mk (below_drew1 HB.out)
    refine start_ (n := 16) (S := fun w' => w'.cell? ⟨d1, 0, none⟩ = some (.slice a6 v4.length q5) ∧ w'.cell? ⟨d1, 1, none⟩ = some (.slice d4 j3.length b4) ∧ w'.cell? ⟨d1, 2, none⟩ = some (.slice o6 g4.length j6) ∧ w'.cell? ⟨g2, 0, none⟩ = some (.int .i64 a1_0) ∧ w'.cell? ⟨g2, 1, none⟩ = some (.int .i64 a1_1)) (ds := [13, 15]) #[F_, F_, F_, F_, F_, F_, F_, F_, F_, F_, F_, F_, F_, F_, F_, F_] (by kernel_rfl) rfl rfl ⟨bc o0 0, bc o0 1, bc o0 2, bc s0 0, bc s0 1⟩ (fun hHeld => ?_); refine with_tabW impl_RippleInsert.tab5 impl_RippleInsert.bits5 (fun HT_ HW_ => ?_)
    generalize wc.drew = w79 at d0 b0 k0 v0 s0 z0 o0 HB hHeld ⊢
    refine pu 0 39 (tf 1 15) ?_
    refine pu 2 41 #[T_,F_,T_,F_,F_,F_,F_,F_,F_,F_,F_,F_,F_,F_,F_,F_] ?_
    refine pu 6 45 #[T_,F_,T_,F_,F_,F_,T_,F_,F_,F_,F_,F_,F_,F_,F_,F_] ?_
    refine pu 8 47 #[T_,F_,T_,F_,F_,F_,T_,F_,T_,F_,F_,F_,F_,F_,F_,F_] ?_
    refine tk 1 40 #[T_,T_,T_,F_,F_,F_,T_,F_,T_,F_,F_,F_,F_,F_,F_,F_] hHeld ?_
    refine tk 3 42 #[T_,T_,T_,T_,F_,F_,T_,F_,T_,F_,F_,F_,F_,F_,F_,F_] hHeld ?_
    refine tk 7 46 #[T_,T_,T_,T_,F_,F_,T_,T_,T_,F_,F_,F_,F_,F_,F_,F_] hHeld ?_
    refine tk 9 48 #[T_,T_,T_,T_,F_,F_,T_,T_,T_,T_,F_,F_,F_,F_,F_,F_] hHeld ?_
    refine join_ (σ := Value × Value × Value) 5 #[T_, T_, T_, T_, T_, T_, T_, T_, T_, T_, T_, F_, F_, F_, F_, F_] (fun s_ => [(43, s_.1), (44, s_.2.1), (49, s_.2.2)]) (fun s_ w' => (w'.cell? ⟨d1, 0, none⟩ = some (.slice a6 v4.length q5) ∧ w'.cell? ⟨d1, 1, none⟩ = some (.slice d4 j3.length b4) ∧ w'.cell? ⟨d1, 2, none⟩ = some (.slice o6 g4.length j6) ∧ w'.cell? ⟨g2, 0, none⟩ = some (.int .i64 a1_0) ∧ w'.cell? ⟨g2, 1, none⟩ = some (.int .i64 a1_1)) ∧ (Kd.R (Kd.int .i64) 3 w' w.heap.size (fun k_ => some k_ ≠ (s_.2.1 : Value).ownBlock ∧ some k_ ≠ (s_.2.2 : Value).ownBlock ∧ some k_ ≠ (.slice d4 j3.length b4 : Value).ownBlock) s_.1 o5) ∧ (Kd.R (Kd.int .i64) 3 w' w.heap.size (fun k_ => some k_ ≠ (s_.1 : Value).ownBlock ∧ some k_ ≠ (s_.2.2 : Value).ownBlock ∧ some k_ ≠ (.slice d4 j3.length b4 : Value).ownBlock) s_.2.1 s9) ∧ (Kd.R (Kd.int .i64) 3 w' w.heap.size (fun k_ => some k_ ≠ (s_.1 : Value).ownBlock ∧ some k_ ≠ (s_.2.1 : Value).ownBlock ∧ some k_ ≠ (.slice d4 j3.length b4 : Value).ownBlock) s_.2.2 q6) ∧ (Kd.R (Kd.int .i64) 3 w' w.heap.size (fun k_ => some k_ ≠ (s_.1 : Value).ownBlock ∧ some k_ ≠ (s_.2.1 : Value).ownBlock ∧ some k_ ≠ (s_.2.2 : Value).ownBlock) (.slice d4 j3.length b4) j3) ∧ (Kd.R k50 50 w' w.heap.size (fun _ => True) (.slice o6 g4.length j6) g4) ∧ (w'.heap[z3]? = some (.cells #[.slice g6 d2.length z5, .slice d6 m3.length v5, .slice b6 k3.length s5] 29 (0, 0))) ∧ (w'.heap[g2]? = some (.cells #[.int .i64 a1_0, .int .i64 a1_1] 39 (0, 0))) ∧ (w'.heap[o3]? = some (.cells #[.slice none 0 0, .slice none 0 0, .slice none 0 0] 29 (0, 0))) ∧ (w'.heap[d1]? = some (.cells #[.slice a6 v4.length q5, .slice d4 j3.length b4, .slice o6 g4.length j6] 29 (0, 0))) ∧ (Below w.heap.size w w')) ?_ ?_
    rotate_left
    ·intro hCont
     refine two_ (i := 4) (j := 10) (Ni := some 43) (Nj := some 49) #[T_, T_, T_, T_, T_, F_, T_, T_, T_, T_, F_, F_, F_, F_, F_, F_] #[T_, T_, T_, T_, F_, F_, T_, T_, T_, T_, T_, F_, F_, F_, F_, F_] rfl rfl rfl rfl (two_of HT_.out (by kernel_rfl)) (by decide) (by decide) (fun K hK => ?_) (fun K hK => ?_)
     ·skip
      refine Kd.R_lit_step (Kd.int .i64) _ 3 ?hg (N := 43) ?hd (xs := ([a1_0] : List Int)) (inner := [.int .i64 a1_0]) (ok := fun _ => True) (okp := fun _ => True) ?hr ?hp (fun _ hk => hk) trivial (Below.refl _ _) (Nat.le_refl _) (by simp) ?_; (case hd => rfl); (case hg => rfl); (case hr => first | (go_simp; done) | (go_simp; rfl)); (case hp => exact (Reps.one (show Kd.M (Kd.int .i64) _ _ _ a1_0 [.int .i64 a1_0] from rfl) (Reps.none _ _)))
      intro z8 w80 d7 hb hg_ hnew_
      clear hg_ hnew_
      (first | rw [← g9.out] at d7 | (simp only [Int.reduceToNat] at d7; rw [← g9.out] at d7))
      replace k0 := ro k0 hb
      have b2 := lo (nw (nw d7 d0) b0)
      replace d0 := el d0 d7 hb
      replace b0 := el b0 d7 hb
      replace v0 := wb v0 hb
      replace s0 := wb s0 hb
      replace z0 := wb z0 hb
      replace o0 := wb o0 hb
      replace HB := wh hb
      clear hb d7
      obtain ⟨bc2, qc0, bc5⟩ := Kd.R_slice b2.out
      (first | subst bc5 | (injection bc5 with f1_ f2_ f3_; have f4_ := f1_.symm; have f5_ := f3_.symm; clear f1_ f2_ f3_; subst f4_; subst f5_))
      refine hK.out _ _ ⟨bc o0 0, bc o0 1, bc o0 2, bc s0 0, bc s0 1⟩ (fun hHeld => ?_)
      clear hK K
      refine nm 43 ?_
      refine two_ (i := 5) (j := 10) (Ni := some 44) (Nj := some 49) #[T_, T_, T_, T_, T_, T_, T_, T_, T_, T_, F_, F_, F_, F_, F_, F_] #[T_, T_, T_, T_, T_, F_, T_, T_, T_, T_, T_, F_, F_, F_, F_, F_] rfl rfl rfl rfl (two_of HT_.out (by kernel_rfl)) (by decide) (by decide) (fun K hK => ?_) (fun K hK => ?_)
      ·skip
       refine Kd.R_append_rows_step (Kd.int .i64) (w0 := w) w.heap.size (by rfl) (.tmp 40) (.tmp 43) 22 3 (.int .i64 0) 8 rfl Try.underlying22 info3 rfl (by decide) (by omega) (.slice a6 v4.length q5) v4 o5 _ _ _ (fun k_ => some k_ ≠ (.slice d4 j3.length b4 : Value).ownBlock ∧ some k_ ≠ (.slice bc2 o5.length qc0 : Value).ownBlock) (fun _ => False) rfl rfl ?aO ?aR (fun _ _ h => h) (fun _ h => h.elim) ?aF ?aB ?aS ?aL ?_
       (case aR => exact uc (Kd.R_reads' b2.out).2.2)
       (case aB => exact bl)
       (case aF => exact (fun k_ hk => ⟨Kd.fresh' (Kd.R_lt (up b0.out)) k_ hk, Kd.fresh' (Kd.R_lt (up b2.out)) k_ hk⟩))
       (case aO => exact (up d0.out))
       (case aS => exact (below_size bl))
       (case aL => have := LMc73.out; omega)
       intro s7 w82 ho hb hg hat
       rw [← ya6.out] at ho
       replace b0 := mk (Kd.R_after (ok := (fun k_ => some k_ ≠ (.slice bc2 o5.length qc0 : Value).ownBlock)) (by exact up (Kd.R_mono b0.out (fun _ hk => by first | exact ⟨hk.2, hk.1⟩ | (revert hk; simp only [and_imp]; intros; (repeat' (refine And.intro ?_ ?_)) <;> assumption)))) hg hat)
       replace k0 := mk (Kd.R_over' (up k0.out) (Kd.R_typed (up d0.out)) (by decide) hg)
       replace v0 := mk (blk_grown (g := z3) (o := .cells #[.slice g6 d2.length z5, .slice d6 m3.length v5, .slice b6 k3.length s5] 29 (0, 0)) (ub v0.out) hg (Kd.R_ne d0.out v0.out (by decide)))
       replace s0 := mk (blk_grown (g := g2) (o := .cells #[.int .i64 a1_0, .int .i64 a1_1] 39 (0, 0)) (ub s0.out) hg (Kd.R_ne d0.out s0.out (by decide)))
       replace z0 := mk (blk_grown (g := o3) (o := .cells #[.slice none 0 0, .slice none 0 0, .slice none 0 0] 29 (0, 0)) (ub z0.out) hg (Kd.R_ne d0.out z0.out (by decide)))
       replace o0 := mk (blk_grown (g := d1) (o := .cells #[.slice a6 v4.length q5, .slice d4 j3.length b4, .slice o6 g4.length j6] 29 (0, 0)) (ub o0.out) hg (Kd.R_ne d0.out o0.out (by decide)))
       replace b2 := mk (Kd.R_after (ok := (fun k_ => some k_ ≠ (.slice d4 j3.length b4 : Value).ownBlock)) (by exact up (Kd.R_mono b2.out (fun _ hk => by first | exact ⟨hk.2, hk.1.2⟩ | (revert hk; simp only [and_imp]; intros; (repeat' (refine And.intro ?_ ?_)) <;> assumption)))) hg hat)
       replace HB := mk hb
       have z4 := mk ho
       clear d0
       clear ho hb hg hat
       refine hK.out _ _ ⟨bc o0 0, bc o0 1, bc o0 2, bc s0 0, bc s0 1⟩ (fun hHeld => ?_)
       clear hK K
       refine nm 44 ?_
       refine on 10 49 (tf 11 5) (fun K hK => ?_)
       refine Kd.R_lit_step (Kd.int .i64) _ 3 ?hg (N := 49) ?hd (xs := ([a1_1] : List Int)) (inner := [.int .i64 a1_1]) (ok := fun _ => True) (okp := fun _ => True) ?hr ?hp (fun _ hk => hk) trivial (Below.refl _ _) (Nat.le_refl _) (by simp) ?_; (case hd => rfl); (case hg => rfl); (case hr => first | (go_simp; done) | (go_simp; rfl)); (case hp => exact (Reps.one (show Kd.M (Kd.int .i64) _ _ _ a1_1 [.int .i64 a1_1] from rfl) (Reps.none _ _)))
       intro b7 w84 m9 hb hg_ hnew_
       clear hg_ hnew_
       (first | rw [← z7.out] at m9 | (simp only [Int.reduceToNat] at m9; rw [← z7.out] at m9))
       replace k0 := ro k0 hb
       have v3 := lo (nw (nw (nw m9 b0) b2) z4)
       replace b0 := el b0 m9 hb
       replace b2 := el b2 m9 hb
       replace z4 := el z4 m9 hb
       replace v0 := wb v0 hb
       replace s0 := wb s0 hb
       replace z0 := wb z0 hb
       replace o0 := wb o0 hb
       replace HB := wh hb
       clear hb m9
       refine hK.out _ _ ⟨bc o0 0, bc o0 1, bc o0 2, bc s0 0, bc s0 1⟩ (fun hHeld => ?_)
       clear hK K
       refine nm 49 ?_
       exact nz (hCont (.slice bc2 o5.length qc0, s7, b7) _ ⟨hHeld, (by exact up (Kd.R_mono b2.out (fun _ hk => by first | exact ⟨hk.1.2, ⟨hk.2, hk.1.1⟩⟩ | (revert hk; simp only [and_imp]; intros; (repeat' (refine And.intro ?_ ?_)) <;> assumption)))), (by exact up (Kd.R_mono z4.out (fun _ hk => by first | exact ⟨hk.1.2, ⟨hk.2, hk.1.1⟩⟩ | (revert hk; simp only [and_imp]; intros; (repeat' (refine And.intro ?_ ?_)) <;> assumption)))), (by exact up (Kd.R_mono v3.out (fun _ hk => by first | exact ⟨hk.1.2, ⟨hk.2, hk.1.1.2⟩⟩ | (revert hk; simp only [and_imp]; intros; (repeat' (refine And.intro ?_ ?_)) <;> assumption)))), (by exact up (Kd.R_mono b0.out (fun _ hk => by first | exact ⟨hk.1.1, ⟨hk.1.2, hk.2⟩⟩ | (revert hk; simp only [and_imp]; intros; (repeat' (refine And.intro ?_ ?_)) <;> assumption)))), (up k0.out), (ub v0.out), (ub s0.out), (ub z0.out), (ub o0.out), bl⟩)
      ·skip
       refine Kd.R_lit_step (Kd.int .i64) _ 3 ?hg (N := 49) ?hd (xs := ([a1_1] : List Int)) (inner := [.int .i64 a1_1]) (ok := fun _ => True) (okp := fun _ => True) ?hr ?hp (fun _ hk => hk) trivial (Below.refl _ _) (Nat.le_refl _) (by simp) ?_; (case hd => rfl); (case hg => rfl); (case hr => first | (go_simp; done) | (go_simp; rfl)); (case hp => exact (Reps.one (show Kd.M (Kd.int .i64) _ _ _ a1_1 [.int .i64 a1_1] from rfl) (Reps.none _ _)))
       intro b7 w82 s6 hb hg_ hnew_
       clear hg_ hnew_
       (first | rw [← z7.out] at s6 | (simp only [Int.reduceToNat] at s6; rw [← z7.out] at s6))
       replace k0 := ro k0 hb
       have v3 := lo (nw (nw (nw s6 d0) b0) b2)
       replace d0 := el d0 s6 hb
       replace b0 := el b0 s6 hb
       replace b2 := el b2 s6 hb
       replace v0 := wb v0 hb
       replace s0 := wb s0 hb
       replace z0 := wb z0 hb
       replace o0 := wb o0 hb
       replace HB := wh hb
       clear hb s6
       obtain ⟨j9, b9, va8⟩ := Kd.R_slice b2.out
       (first | subst va8 | (injection va8 with f1_ f2_ f3_; have f4_ := f1_.symm; have f5_ := f3_.symm; clear f1_ f2_ f3_; subst f4_; subst f5_))
       refine hK.out _ _ ⟨bc o0 0, bc o0 1, bc o0 2, bc s0 0, bc s0 1⟩ (fun hHeld => ?_)
       clear hK K
       refine nm 49 ?_
       refine on 5 44 (tf 11 5) (fun K hK => ?_)
       refine Kd.R_append_rows_step (Kd.int .i64) (w0 := w) w.heap.size (by rfl) (.tmp 40) (.tmp 43) 22 3 (.int .i64 0) 8 rfl Try.underlying22 info3 rfl (by decide) (by omega) (.slice a6 v4.length q5) v4 o5 _ _ _ (fun k_ => some k_ ≠ (.slice d4 j3.length b4 : Value).ownBlock ∧ some k_ ≠ (.slice j9 o5.length b9 : Value).ownBlock ∧ some k_ ≠ (b7 : Value).ownBlock) (fun _ => False) rfl rfl ?aO ?aR (fun _ _ h => h) (fun _ h => h.elim) ?aF ?aB ?aS ?aL ?_
       (case aR => exact uc (Kd.R_reads' b2.out).2.2)
       (case aB => exact bl)
       (case aF => exact (fun k_ hk => ⟨Kd.fresh' (Kd.R_lt (up b0.out)) k_ hk, Kd.fresh' (Kd.R_lt (up b2.out)) k_ hk, Kd.fresh' (Kd.R_lt (up v3.out)) k_ hk⟩))
       (case aO => exact (by exact up (Kd.R_mono d0.out (fun _ hk => by first | exact ⟨hk.1.1, ⟨hk.1.2, hk.2⟩⟩ | (revert hk; simp only [and_imp]; intros; (repeat' (refine And.intro ?_ ?_)) <;> assumption)))))
       (case aS => exact (below_size bl))
       (case aL => have := LMc73.out; omega)
       intro s7 w84 ho hb hg hat
       rw [← ya6.out] at ho
       replace b0 := mk (Kd.R_after (ok := (fun k_ => some k_ ≠ (.slice j9 o5.length b9 : Value).ownBlock ∧ some k_ ≠ (b7 : Value).ownBlock)) (by exact up (Kd.R_mono b0.out (fun _ hk => by first | exact ⟨⟨hk.1.2, hk.2⟩, hk.1.1⟩ | (revert hk; simp only [and_imp]; intros; (repeat' (refine And.intro ?_ ?_)) <;> assumption)))) hg hat)
       replace k0 := mk (Kd.R_over' (up k0.out) (Kd.R_typed (up d0.out)) (by decide) hg)
       replace v0 := mk (blk_grown (g := z3) (o := .cells #[.slice g6 d2.length z5, .slice d6 m3.length v5, .slice b6 k3.length s5] 29 (0, 0)) (ub v0.out) hg (Kd.R_ne d0.out v0.out (by decide)))
       replace s0 := mk (blk_grown (g := g2) (o := .cells #[.int .i64 a1_0, .int .i64 a1_1] 39 (0, 0)) (ub s0.out) hg (Kd.R_ne d0.out s0.out (by decide)))
       replace z0 := mk (blk_grown (g := o3) (o := .cells #[.slice none 0 0, .slice none 0 0, .slice none 0 0] 29 (0, 0)) (ub z0.out) hg (Kd.R_ne d0.out z0.out (by decide)))
       replace o0 := mk (blk_grown (g := d1) (o := .cells #[.slice a6 v4.length q5, .slice d4 j3.length b4, .slice o6 g4.length j6] 29 (0, 0)) (ub o0.out) hg (Kd.R_ne d0.out o0.out (by decide)))
       replace b2 := mk (Kd.R_after (ok := (fun k_ => some k_ ≠ (.slice d4 j3.length b4 : Value).ownBlock ∧ some k_ ≠ (b7 : Value).ownBlock)) (by exact up (Kd.R_mono b2.out (fun _ hk => by first | exact ⟨⟨hk.1.2, hk.2⟩, hk.1.1.2⟩ | (revert hk; simp only [and_imp]; intros; (repeat' (refine And.intro ?_ ?_)) <;> assumption)))) hg hat)
       replace v3 := mk (Kd.R_after (ok := (fun k_ => some k_ ≠ (.slice d4 j3.length b4 : Value).ownBlock ∧ some k_ ≠ (.slice j9 o5.length b9 : Value).ownBlock)) (by exact up (Kd.R_mono v3.out (fun _ hk => by first | exact ⟨⟨hk.1.2, hk.2⟩, hk.1.1.2⟩ | (revert hk; simp only [and_imp]; intros; (repeat' (refine And.intro ?_ ?_)) <;> assumption)))) hg hat)
       replace HB := mk hb
       have z4 := mk ho
       clear d0
       clear ho hb hg hat
       refine hK.out _ _ ⟨bc o0 0, bc o0 1, bc o0 2, bc s0 0, bc s0 1⟩ (fun hHeld => ?_)
       clear hK K
       refine nm 44 ?_
       exact nz (hCont (.slice j9 o5.length b9, s7, b7) _ ⟨hHeld, (by exact up (Kd.R_mono b2.out (fun _ hk => by first | exact ⟨hk.2, ⟨hk.1.2, hk.1.1⟩⟩ | (revert hk; simp only [and_imp]; intros; (repeat' (refine And.intro ?_ ?_)) <;> assumption)))), (by exact up (Kd.R_mono z4.out (fun _ hk => by first | exact ⟨hk.2.1, ⟨hk.2.2, hk.1⟩⟩ | (revert hk; simp only [and_imp]; intros; (repeat' (refine And.intro ?_ ?_)) <;> assumption)))), (by exact up (Kd.R_mono v3.out (fun _ hk => by first | exact ⟨hk.1.2, ⟨hk.2, hk.1.1⟩⟩ | (revert hk; simp only [and_imp]; intros; (repeat' (refine And.intro ?_ ?_)) <;> assumption)))), (by exact up (Kd.R_mono b0.out (fun _ hk => by first | exact ⟨hk.1.1, ⟨hk.2, hk.1.2⟩⟩ | (revert hk; simp only [and_imp]; intros; (repeat' (refine And.intro ?_ ?_)) <;> assumption)))), (up k0.out), (ub v0.out), (ub s0.out), (ub z0.out), (ub o0.out), bl⟩)
     ·skip
      refine Kd.R_lit_step (Kd.int .i64) _ 3 ?hg (N := 49) ?hd (xs := ([a1_1] : List Int)) (inner := [.int .i64 a1_1]) (ok := fun _ => True) (okp := fun _ => True) ?hr ?hp (fun _ hk => hk) trivial (Below.refl _ _) (Nat.le_refl _) (by simp) ?_; (case hd => rfl); (case hg => rfl); (case hr => first | (go_simp; done) | (go_simp; rfl)); (case hp => exact (Reps.one (show Kd.M (Kd.int .i64) _ _ _ a1_1 [.int .i64 a1_1] from rfl) (Reps.none _ _)))
      intro b7 w80 d7 hb hg_ hnew_
      clear hg_ hnew_
      (first | rw [← z7.out] at d7 | (simp only [Int.reduceToNat] at d7; rw [← z7.out] at d7))
      replace k0 := ro k0 hb
      have v3 := lo (nw (nw d7 d0) b0)
      replace d0 := el d0 d7 hb
      replace b0 := el b0 d7 hb
      replace v0 := wb v0 hb
      replace s0 := wb s0 hb
      replace z0 := wb z0 hb
      replace o0 := wb o0 hb
      replace HB := wh hb
      clear hb d7
      refine hK.out _ _ ⟨bc o0 0, bc o0 1, bc o0 2, bc s0 0, bc s0 1⟩ (fun hHeld => ?_)
      clear hK K
      refine nm 49 ?_
      refine on 4 43 #[T_,T_,T_,T_,T_,F_,T_,T_,T_,T_,T_,F_,F_,F_,F_,F_] (fun K hK => ?_)
      refine Kd.R_lit_step (Kd.int .i64) _ 3 ?hg (N := 43) ?hd (xs := ([a1_0] : List Int)) (inner := [.int .i64 a1_0]) (ok := fun _ => True) (okp := fun _ => True) ?hr ?hp (fun _ hk => hk) trivial (Below.refl _ _) (Nat.le_refl _) (by simp) ?_; (case hd => rfl); (case hg => rfl); (case hr => first | (go_simp; done) | (go_simp; rfl)); (case hp => exact (Reps.one (show Kd.M (Kd.int .i64) _ _ _ a1_0 [.int .i64 a1_0] from rfl) (Reps.none _ _)))
      intro z8 w82 s6 hb hg_ hnew_
      clear hg_ hnew_
      (first | rw [← g9.out] at s6 | (simp only [Int.reduceToNat] at s6; rw [← g9.out] at s6))
      replace k0 := ro k0 hb
      have b2 := lo (nw (nw (nw s6 d0) b0) v3)
      replace d0 := el d0 s6 hb
      replace b0 := el b0 s6 hb
      replace v3 := el v3 s6 hb
      replace v0 := wb v0 hb
      replace s0 := wb s0 hb
      replace z0 := wb z0 hb
      replace o0 := wb o0 hb
      replace HB := wh hb
      clear hb s6
      obtain ⟨j9, b9, va8⟩ := Kd.R_slice b2.out
      (first | subst va8 | (injection va8 with f1_ f2_ f3_; have f4_ := f1_.symm; have f5_ := f3_.symm; clear f1_ f2_ f3_; subst f4_; subst f5_))
      refine hK.out _ _ ⟨bc o0 0, bc o0 1, bc o0 2, bc s0 0, bc s0 1⟩ (fun hHeld => ?_)
      clear hK K
      refine nm 43 ?_
      refine on 5 44 (tf 11 5) (fun K hK => ?_)
      refine Kd.R_append_rows_step (Kd.int .i64) (w0 := w) w.heap.size (by rfl) (.tmp 40) (.tmp 43) 22 3 (.int .i64 0) 8 rfl Try.underlying22 info3 rfl (by decide) (by omega) (.slice a6 v4.length q5) v4 o5 _ _ _ (fun k_ => some k_ ≠ (.slice d4 j3.length b4 : Value).ownBlock ∧ some k_ ≠ (b7 : Value).ownBlock ∧ some k_ ≠ (.slice j9 o5.length b9 : Value).ownBlock) (fun _ => False) rfl rfl ?aO ?aR (fun _ _ h => h) (fun _ h => h.elim) ?aF ?aB ?aS ?aL ?_
      (case aR => exact uc (Kd.R_reads' b2.out).2.2)
      (case aB => exact bl)
      (case aF => exact (fun k_ hk => ⟨Kd.fresh' (Kd.R_lt (up b0.out)) k_ hk, Kd.fresh' (Kd.R_lt (up v3.out)) k_ hk, Kd.fresh' (Kd.R_lt (up b2.out)) k_ hk⟩))
      (case aO => exact (by exact up (Kd.R_mono d0.out (fun _ hk => by first | exact ⟨hk.1.1, ⟨hk.1.2, hk.2⟩⟩ | (revert hk; simp only [and_imp]; intros; (repeat' (refine And.intro ?_ ?_)) <;> assumption)))))
      (case aS => exact (below_size bl))
      (case aL => have := LMc73.out; omega)
      intro s7 w84 ho hb hg hat
      rw [← ya6.out] at ho
      replace b0 := mk (Kd.R_after (ok := (fun k_ => some k_ ≠ (b7 : Value).ownBlock ∧ some k_ ≠ (.slice j9 o5.length b9 : Value).ownBlock)) (by exact up (Kd.R_mono b0.out (fun _ hk => by first | exact ⟨⟨hk.1.2, hk.2⟩, hk.1.1⟩ | (revert hk; simp only [and_imp]; intros; (repeat' (refine And.intro ?_ ?_)) <;> assumption)))) hg hat)
      replace k0 := mk (Kd.R_over' (up k0.out) (Kd.R_typed (up d0.out)) (by decide) hg)
      replace v0 := mk (blk_grown (g := z3) (o := .cells #[.slice g6 d2.length z5, .slice d6 m3.length v5, .slice b6 k3.length s5] 29 (0, 0)) (ub v0.out) hg (Kd.R_ne d0.out v0.out (by decide)))
      replace s0 := mk (blk_grown (g := g2) (o := .cells #[.int .i64 a1_0, .int .i64 a1_1] 39 (0, 0)) (ub s0.out) hg (Kd.R_ne d0.out s0.out (by decide)))
      replace z0 := mk (blk_grown (g := o3) (o := .cells #[.slice none 0 0, .slice none 0 0, .slice none 0 0] 29 (0, 0)) (ub z0.out) hg (Kd.R_ne d0.out z0.out (by decide)))
      replace o0 := mk (blk_grown (g := d1) (o := .cells #[.slice a6 v4.length q5, .slice d4 j3.length b4, .slice o6 g4.length j6] 29 (0, 0)) (ub o0.out) hg (Kd.R_ne d0.out o0.out (by decide)))
      replace v3 := mk (Kd.R_after (ok := (fun k_ => some k_ ≠ (.slice d4 j3.length b4 : Value).ownBlock ∧ some k_ ≠ (.slice j9 o5.length b9 : Value).ownBlock)) (by exact up (Kd.R_mono v3.out (fun _ hk => by first | exact ⟨⟨hk.1.2, hk.2⟩, hk.1.1.2⟩ | (revert hk; simp only [and_imp]; intros; (repeat' (refine And.intro ?_ ?_)) <;> assumption)))) hg hat)
      replace b2 := mk (Kd.R_after (ok := (fun k_ => some k_ ≠ (.slice d4 j3.length b4 : Value).ownBlock ∧ some k_ ≠ (b7 : Value).ownBlock)) (by exact up (Kd.R_mono b2.out (fun _ hk => by first | exact ⟨⟨hk.1.2, hk.2⟩, hk.1.1.2⟩ | (revert hk; simp only [and_imp]; intros; (repeat' (refine And.intro ?_ ?_)) <;> assumption)))) hg hat)
      replace HB := mk hb
      have z4 := mk ho
      clear d0
      clear ho hb hg hat
      refine hK.out _ _ ⟨bc o0 0, bc o0 1, bc o0 2, bc s0 0, bc s0 1⟩ (fun hHeld => ?_)
      clear hK K
      refine nm 44 ?_
      exact nz (hCont (.slice j9 o5.length b9, s7, b7) _ ⟨hHeld, (by exact up (Kd.R_mono b2.out (fun _ hk => by first | exact ⟨hk.2, ⟨hk.1.2, hk.1.1⟩⟩ | (revert hk; simp only [and_imp]; intros; (repeat' (refine And.intro ?_ ?_)) <;> assumption)))), (by exact up (Kd.R_mono z4.out (fun _ hk => by first | exact ⟨hk.2.2, ⟨hk.2.1, hk.1⟩⟩ | (revert hk; simp only [and_imp]; intros; (repeat' (refine And.intro ?_ ?_)) <;> assumption)))), (by exact up (Kd.R_mono v3.out (fun _ hk => by first | exact ⟨hk.1.2, ⟨hk.2, hk.1.1⟩⟩ | (revert hk; simp only [and_imp]; intros; (repeat' (refine And.intro ?_ ?_)) <;> assumption)))), (by exact up (Kd.R_mono b0.out (fun _ hk => by first | exact ⟨hk.1.2, ⟨hk.2, hk.1.1⟩⟩ | (revert hk; simp only [and_imp]; intros; (repeat' (refine And.intro ?_ ?_)) <;> assumption)))), (up k0.out), (ub v0.out), (ub s0.out), (ub z0.out), (ub o0.out), bl⟩)
    rintro ⟨z8, s7, b7⟩ w86 ⟨hS_, h0_, h1_, h2_, h3_, h4_, h5_, h6_, h7_, h8_, h9_⟩
    have n0_ : Aside0 (Kd.R (Kd.int .i64) 3 w86 w.heap.size (fun k_ => some k_ ≠ (s7 : Value).ownBlock ∧ some k_ ≠ (b7 : Value).ownBlock ∧ some k_ ≠ (.slice d4 j3.length b4 : Value).ownBlock) z8 o5) := ⟨h0_⟩
    have n1_ : Aside0 (Kd.R (Kd.int .i64) 3 w86 w.heap.size (fun k_ => some k_ ≠ (z8 : Value).ownBlock ∧ some k_ ≠ (b7 : Value).ownBlock ∧ some k_ ≠ (.slice d4 j3.length b4 : Value).ownBlock) s7 s9) := ⟨h1_⟩
    have n2_ : Aside0 (Kd.R (Kd.int .i64) 3 w86 w.heap.size (fun k_ => some k_ ≠ (z8 : Value).ownBlock ∧ some k_ ≠ (s7 : Value).ownBlock ∧ some k_ ≠ (.slice d4 j3.length b4 : Value).ownBlock) b7 q6) := ⟨h2_⟩
    have n3_ : Aside0 (Kd.R (Kd.int .i64) 3 w86 w.heap.size (fun k_ => some k_ ≠ (z8 : Value).ownBlock ∧ some k_ ≠ (s7 : Value).ownBlock ∧ some k_ ≠ (b7 : Value).ownBlock) (.slice d4 j3.length b4) j3) := ⟨h3_⟩
    have n4_ : Aside0 (Kd.R k50 50 w86 w.heap.size (fun _ => True) (.slice o6 g4.length j6) g4) := ⟨h4_⟩
    have n5_ : Aside0 (w86.heap[z3]? = some (.cells #[.slice g6 d2.length z5, .slice d6 m3.length v5, .slice b6 k3.length s5] 29 (0, 0))) := ⟨h5_⟩
    have n6_ : Aside0 (w86.heap[g2]? = some (.cells #[.int .i64 a1_0, .int .i64 a1_1] 39 (0, 0))) := ⟨h6_⟩
    have n7_ : Aside0 (w86.heap[o3]? = some (.cells #[.slice none 0 0, .slice none 0 0, .slice none 0 0] 29 (0, 0))) := ⟨h7_⟩
    have n8_ : Aside0 (w86.heap[d1]? = some (.cells #[.slice a6 v4.length q5, .slice d4 j3.length b4, .slice o6 g4.length j6] 29 (0, 0))) := ⟨h8_⟩
    have n9_ : Aside0 (Below w.heap.size w w86) := ⟨h9_⟩
    clear d0
    clear b0
    clear k0
    clear v0
    clear s0
    clear z0
    clear o0
    clear HB
    clear h0_ h1_ h2_ h3_ h4_ h5_ h6_ h7_ h8_ h9_
    have b2 := n0_
    have z4 := n1_
    have v3 := n2_
    have b0 := n3_
    have k0 := n4_
    have v0 := n5_
    have s0 := n6_
    have z0 := n7_
    have o0 := n8_
    have HB := n9_
    clear n0_ n1_ n2_ n3_ n4_ n5_ n6_ n7_ n8_ n9_
    have hHeld : w86.cell? ⟨d1, 0, none⟩ = some (.slice a6 v4.length q5) ∧ w86.cell? ⟨d1, 1, none⟩ = some (.slice d4 j3.length b4) ∧ w86.cell? ⟨d1, 2, none⟩ = some (.slice o6 g4.length j6) ∧ w86.cell? ⟨g2, 0, none⟩ = some (.int .i64 a1_0) ∧ w86.cell? ⟨g2, 1, none⟩ = some (.int .i64 a1_1) := hS_
    obtain ⟨ac2, oc0, ac5⟩ := Kd.R_slice v3.out
    (first | subst ac5 | (injection ac5 with f1_ f2_ f3_; have f4_ := f1_.symm; have f5_ := f3_.symm; clear f1_ f2_ f3_; subst f4_; subst f5_))
    refine norm_ (a' := ?_) ?_ ?_
    rotate_left
    ·simp only [putAll, Act.put, List.setIfInBounds_toArray, List.set_cons_zero, List.set_cons_succ]
     rfl
    refine on 11 50 (tf 12 4) (fun K hK => ?_)
    refine Kd.R_append_rows_step (Kd.int .i64) (w0 := w) w.heap.size (by rfl) (.tmp 46) (.tmp 49) 22 3 (.int .i64 0) 8 rfl Try.underlying22 info3 rfl (by decide) (by omega) (.slice d4 j3.length b4) j3 q6 _ _ _ (fun k_ => some k_ ≠ (z8 : Value).ownBlock ∧ some k_ ≠ (s7 : Value).ownBlock ∧ some k_ ≠ (.slice ac2 q6.length oc0 : Value).ownBlock) (fun _ => False) rfl rfl ?aO ?aR (fun _ _ h => h) (fun _ h => h.elim) ?aF ?aB ?aS ?aL ?_
    (case aR => exact uc (Kd.R_reads' v3.out).2.2)
    (case aB => exact bl)
    (case aF => exact (fun k_ hk => ⟨Kd.fresh' (Kd.R_lt (up b2.out)) k_ hk, Kd.fresh' (Kd.R_lt (up z4.out)) k_ hk, Kd.fresh' (Kd.R_lt (up v3.out)) k_ hk⟩))
    (case aO => exact (up b0.out))
    (case aS => exact (below_size bl))
    (case aL => have := LMc74.out; omega)
    intro jd5 w87 ho hb hg hat
    rw [← mc1.out] at ho
    replace k0 := mk (Kd.R_over' (up k0.out) (Kd.R_typed (up b0.out)) (by decide) hg)
    replace v0 := mk (blk_grown (g := z3) (o := .cells #[.slice g6 d2.length z5, .slice d6 m3.length v5, .slice b6 k3.length s5] 29 (0, 0)) (ub v0.out) hg (Kd.R_ne b0.out v0.out (by decide)))
    replace s0 := mk (blk_grown (g := g2) (o := .cells #[.int .i64 a1_0, .int .i64 a1_1] 39 (0, 0)) (ub s0.out) hg (Kd.R_ne b0.out s0.out (by decide)))
    replace z0 := mk (blk_grown (g := o3) (o := .cells #[.slice none 0 0, .slice none 0 0, .slice none 0 0] 29 (0, 0)) (ub z0.out) hg (Kd.R_ne b0.out z0.out (by decide)))
    replace o0 := mk (blk_grown (g := d1) (o := .cells #[.slice a6 v4.length q5, .slice d4 j3.length b4, .slice o6 g4.length j6] 29 (0, 0)) (ub o0.out) hg (Kd.R_ne b0.out o0.out (by decide)))
    replace b2 := mk (Kd.R_after (ok := (fun k_ => some k_ ≠ (s7 : Value).ownBlock ∧ some k_ ≠ (.slice ac2 q6.length oc0 : Value).ownBlock)) (by exact up (Kd.R_mono b2.out (fun _ hk => by first | exact ⟨⟨hk.1, hk.2.1⟩, hk.2.2⟩ | (revert hk; simp only [and_imp]; intros; (repeat' (refine And.intro ?_ ?_)) <;> assumption)))) hg hat)
    replace z4 := mk (Kd.R_after (ok := (fun k_ => some k_ ≠ (z8 : Value).ownBlock ∧ some k_ ≠ (.slice ac2 q6.length oc0 : Value).ownBlock)) (by exact up (Kd.R_mono z4.out (fun _ hk => by first | exact ⟨⟨hk.1, hk.2.1⟩, hk.2.2⟩ | (revert hk; simp only [and_imp]; intros; (repeat' (refine And.intro ?_ ?_)) <;> assumption)))) hg hat)
    replace v3 := mk (Kd.R_after (ok := (fun k_ => some k_ ≠ (z8 : Value).ownBlock ∧ some k_ ≠ (s7 : Value).ownBlock)) (by exact up (Kd.R_mono v3.out (fun _ hk => by first | exact ⟨⟨hk.1, hk.2.1⟩, hk.2.2⟩ | (revert hk; simp only [and_imp]; intros; (repeat' (refine And.intro ?_ ?_)) <;> assumption)))) hg hat)
    replace HB := mk hb
    have va9 := mk ho
    clear b0
    clear ho hb hg hat
    obtain ⟨vd4, kd2, zc4⟩ := Kd.R_slice z4.out
    (first | subst zc4 | (injection zc4 with f1_ f2_ f3_; have f4_ := f1_.symm; have f5_ := f3_.symm; clear f1_ f2_ f3_; subst f4_; subst f5_))
    obtain ⟨sd4, jd2, yc4⟩ := Kd.R_slice va9.out
    (first | subst yc4 | (injection yc4 with f1_ f2_ f3_; have f4_ := f1_.symm; have f5_ := f3_.symm; clear f1_ f2_ f3_; subst f4_; subst f5_))
    refine hK.out _ _ ⟨bc o0 0, bc o0 1, bc o0 2, bc s0 0, bc s0 1⟩ (fun hHeld => ?_)
    clear hK K
    refine nm 50 ?_
    refine pu 12 51 (tf 13 3) ?_
    refine last_ (i := 13) (N := none) #[T_, T_, T_, T_, T_, T_, T_, T_, T_, T_, T_, T_, T_, T_, F_, F_] rfl rfl (one_of HT_.out (by kernel_rfl)) (by decide) (fun K hK => ?_)
    have hs90 : w87.cell? ⟨d1, 0, none⟩ = some (.slice a6 v4.length q5) := (blk_cell o0.out 0).trans rfl
    have hfs90 := blk_frozen o0.out 0
    have hns90_0 := j1.out
    have hns90_1 := o1.out
    have hns90_2 := m2.out
    have hms90_0 := g1.out
    have hms90_1 := m1.out
    have hms90_2 := j2.out
    refine skip_ (w1 := ?_) (by rfl) rfl ?_ ?_
    rotate_left
    ·go_simp
     rfl
    refine hK.out _ _ ?_
    clear hK K
    refine pu 14 52 (tf 15 1) ?_
    refine last_ (i := 15) (N := none) #[T_, T_, T_, T_, T_, T_, T_, T_, T_, T_, T_, T_, T_, T_, T_, T_] rfl rfl (one_of HT_.out (by kernel_rfl)) (by decide) (fun K hK => ?_)
    have hs92 : w87.cell? ⟨d1, 1, none⟩ = some (.slice d4 j3.length b4) := (blk_cell o0.out 1).trans rfl
    have hfs92 := blk_frozen o0.out 1
    have hns92_0 := j1.out
    have hns92_1 := o1.out
    have hns92_2 := m2.out
    have hms92_0 := g1.out
    have hms92_1 := m1.out
    have hms92_2 := j2.out
    refine skip_ (w1 := ?_) (by rfl) rfl ?_ ?_
    rotate_left
    ·go_simp
     rfl
    refine hK.out _ _ ?_
    clear hK K
    refine done_ (done_of HT_.out (by kernel_rfl)) ?_
    have mc9 := m1.out
    have bc7 := o1.out
    have kc9 := j2.out
    have ac7 := m2.out
    obtain ⟨za3, ya3, va3, va0, sa0, qa0⟩ := bz3 o0
    try go_wp2
    go_loopg [8, 9, 10] kj3 (fun kq v8 v9 v10 w' => ∃ (q1 : Int) (a8 : Int) (b1 : Int) (q0 : List Int) (m0 : List Int) (g0 : List (S50)) (d5 : Value) (b5 : Value) (m5 : Value), v8 = .int .i64 q1 ∧ v9 = .int .i64 a8 ∧ v10 = .int .i64 b1 ∧ Aside0 (impl_RippleInsert.l0 kq q1 a8 b1 a1_0 a1_1 q0 m0 g0 = some (r1, r2, r3, r4, r5)) ∧ Aside0 (kq ≤ kj3) ∧ Aside0 (Kd.R (Kd.int .i64) 3 w' w.heap.size (fun k_ => some k_ ≠ (b5 : Value).ownBlock) d5 q0) ∧ Aside0 (Kd.R (Kd.int .i64) 3 w' w.heap.size (fun k_ => some k_ ≠ (d5 : Value).ownBlock) b5 m0) ∧ Aside0 (Kd.R k50 50 w' w.heap.size (fun _ => True) m5 g0) ∧ Aside0 (w'.heap[z3]? = some (.cells #[(.slice g6 d2.length z5), (.slice d6 m3.length v5), (.slice b6 k3.length s5)] 29 (0, 0))) ∧ Aside0 (w'.heap[g2]? = some (.cells #[.int .i64 a1_0, .int .i64 a1_1] 39 (0, 0))) ∧ Aside0 (w'.heap[o3]? = some (.cells #[(.slice none 0 0), (.slice none 0 0), (.slice none 0 0)] 29 (0, 0))) ∧ Aside0 (w'.heap[d1]? = some (.cells #[d5, b5, m5] 29 (0, 0))) ∧ Aside0 (Below w.heap.size w w'))
    case atStart => exact ⟨((d2.length : Int)), (0), (wrap64 ((g4.length : Int) - 1)), (s9), (zb4), (g4), (.slice vd4 s9.length kd2), (.slice sd4 zb4.length jd2), (.slice o6 g4.length j6), (by first | rfl | (simp; done) | (simp [*]; done)), (by first | rfl | (simp; done) | (simp [*]; done)), (by first | rfl | (simp; done) | (simp [*]; done)), H', ⟨Nat.le_refl _⟩, ⟨(by exact rm (rs1 z4 o0))⟩, ⟨(by exact rm (rs1 va9 o0))⟩, ⟨(by exact rm (rs1 k0 o0))⟩, ⟨bq⟩, ⟨bq⟩, ⟨bq⟩, ⟨bq⟩, ⟨bl⟩⟩
    case round =>
     clear H'
     try clear p2
     try clear p6
     try clear c7
     try clear c9
     try clear p64
     try clear c73
     try clear c74
     try clear c93
     try clear c94
     try clear za3
     try clear ya3
     try clear va3
     try clear va0
     try clear sa0
     try clear qa0
     obtain ⟨q1, a8, b1, q0, m0, g0, d5, b5, m5, rfl, rfl, rfl, HA, HK2, d0, b0, k0, v0, s0, z0, o0, HB⟩ := hrel
     cases gk with
     | zero => exact absurd HA.out (by simp [impl_RippleInsert.l0])
     | succ k2 =>
      have H := HA.out
      clear HA
      simp only [impl_RippleInsert.l0] at H
      revert H; refine ci (fun c96 H => ?_) fun c96 H => ?_
      ·have yc0 : decide (0 ≤ b1) = true := decide_eq_true c96
       clear c96
       revert H; refine ca fun c97 H => ?_
       have md3 : decide (0 ≤ b1) = true := decide_eq_true c97
       clear c97
       revert H; refine ca fun c98 H => ?_
       have kd3 : decide (b1 < (g0.length : Int)) = true := decide_eq_true c98
       clear c98
       revert H; refine ci (fun c99 H => ?_) fun c99 H => ?_
       ·have vc0 : decide (a1_0 < ((rd_T50 g0 b1).f0)) = true := decide_eq_true c99
        clear c99
        revert H; refine ca fun zc6 H => ?_
        have yc6 : decide (0 ≤ ((rd_T50 g0 b1).f1)) = true := decide_eq_true zc6
        clear zc6
        revert H; refine ca fun vc6 H => ?_
        have sc6 : decide (((rd_T50 g0 b1).f1) < (q0.length : Int)) = true := decide_eq_true vc6
        clear vc6
        revert H; refine ca fun qc6 H => ?_
        have oc6 : decide (0 ≤ q1) = true := decide_eq_true qc6
        clear qc6
        revert H; refine ca fun mc6 H => ?_
        have kc6 : decide (q1 < (q0.length : Int)) = true := decide_eq_true mc6
        clear mc6
        obtain ⟨ja7, hy_⟩ : ∃ y_ : List Int, y_ = (q0.set (q1 : Int).toNat (rd q0 ((rd_T50 g0 b1).f1))) := ⟨_, rfl⟩
        replace H : (if ((rd_T50 g0 b1).f1) < (m0.length : Int) then (if q1 < (m0.length : Int) then ((impl_Cracker_put.f q1 ((rd_T50 g0 b1).f1)).bind fun a9 => (impl_RippleInsert.l0 k2 ((rd_T50 g0 b1).f1) (wrap64 (a8 + a9)) (wrap64 (b1 - 1)) a1_0 a1_1 ja7 (m0.set (q1 : Int).toNat (rd m0 ((rd_T50 g0 b1).f1))) (g0.set (b1 : Int).toNat (⟨(rd_T50 g0 b1).f0, wrap64 (((rd_T50 g0 b1).f1) + 1)⟩ : S50)))) else (none)) else (none)) = some (r1, r2, r3, r4, r5) := hw
        have qa9 := mk hy_
        clear hy_
        revert H; refine ca fun jc6 H => ?_
        have gc6 : decide (((rd_T50 g0 b1).f1) < (m0.length : Int)) = true := decide_eq_true jc6
        clear jc6
        revert H; refine ca fun dc6 H => ?_
        have bc6 : decide (q1 < (m0.length : Int)) = true := decide_eq_true dc6
        clear dc6
        obtain ⟨ka7, hy_⟩ : ∃ y_ : List Int, y_ = (m0.set (q1 : Int).toNat (rd m0 ((rd_T50 g0 b1).f1))) := ⟨_, rfl⟩
        replace H : ((impl_Cracker_put.f q1 ((rd_T50 g0 b1).f1)).bind fun a9 => (impl_RippleInsert.l0 k2 ((rd_T50 g0 b1).f1) (wrap64 (a8 + a9)) (wrap64 (b1 - 1)) a1_0 a1_1 ja7 ka7 (g0.set (b1 : Int).toNat (⟨(rd_T50 g0 b1).f0, wrap64 (((rd_T50 g0 b1).f1) + 1)⟩ : S50)))) = some (r1, r2, r3, r4, r5) := hw
        have oa9 := mk hy_
        clear hy_
        revert H; refine bo ?_; rintro a9 dd5 H
        obtain ⟨yb4, hy_⟩ : ∃ y_ : List (S50), y_ = (g0.set (b1 : Int).toNat (⟨(rd_T50 g0 b1).f0, wrap64 (((rd_T50 g0 b1).f1) + 1)⟩ : S50)) := ⟨_, rfl⟩
        replace H : (impl_RippleInsert.l0 k2 ((rd_T50 g0 b1).f1) (wrap64 (a8 + a9)) (wrap64 (b1 - 1)) a1_0 a1_1 ja7 ka7 yb4) = some (r1, r2, r3, r4, r5) := hw
        have kc1 := mk hy_
        clear hy_
        have H' := mk H
        clear H
        try go_wp2
        replace d0 := mk (Kd.R_drew d0.out)
        replace b0 := mk (Kd.R_drew b0.out)
        replace k0 := mk (Kd.R_drew k0.out)
        replace v0 := wd v0
        replace s0 := wd s0
        replace z0 := wd z0
        replace o0 := wd o0
        replace HB := mk (below_drew1 HB.out)
        obtain ⟨bd5, a7, ga9⟩ := Kd.R_slice k0.out
        (first | subst ga9 | (injection ga9 with f1_ f2_ f3_; have f4_ := f1_.symm; have f5_ := f3_.symm; clear f1_ f2_ f3_; subst f4_; subst f5_))
        have aa0 : 0 ≤ (b1 : Int) := dt
        have z9 : b1 < (g0.length : Int) := dt
        obtain ⟨s4, mc0, j5, g5⟩ := at_T50 (Kd.R_reads' k0.out).2.2 b1 aa0 z9
        cases mc0
        replace aa0 := eq_true aa0
        replace z9 := eq_true z9
        refine start_ (n := 13) (S := fun w' => w'.cell? ⟨d1, 0, none⟩ = some (d5) ∧ w'.cell? ⟨d1, 1, none⟩ = some (b5) ∧ w'.cell? ⟨d1, 2, none⟩ = some (.slice (some s4) g0.length a7) ∧ w'.cell? ⟨g2, 0, none⟩ = some (.int .i64 a1_0) ∧ w'.cell? ⟨g2, 1, none⟩ = some (.int .i64 a1_1) ∧ w'.cell? (s4.add ((b1).toNat * 2)) = some (.int .i64 ((rd_T50 g0 b1).f0)) ∧ w'.cell? ⟨(s4.add ((b1).toNat * 2)).block, (s4.add ((b1).toNat * 2)).off + 1, none⟩ = some (.int .i64 ((rd_T50 g0 b1).f1))) (ds := []) #[F_, F_, F_, F_, F_, F_, F_, F_, F_, F_, F_, F_, F_] (by kernel_rfl) rfl rfl ⟨bc o0 0, bc o0 1, bc o0 2, bc s0 0, bc s0 1, j5, g5⟩ (fun hHeld => ?_); refine with_tabW impl_RippleInsert.tab7 impl_RippleInsert.bits7 (fun HT_ HW_ => ?_)
        generalize wr.drew = gd5 at d0 b0 k0 v0 s0 z0 o0 HB j5 g5 hHeld ⊢
        refine pu 0 57 (tf 1 12) ?_
        refine pu 1 58 (tf 2 11) ?_
        refine pu 2 59 (tf 3 10) ?_
        refine pu 3 60 (tf 4 9) ?_
        refine pu 5 62 #[T_,T_,T_,T_,F_,T_,F_,F_,F_,F_,F_,F_,F_] ?_
        refine pu 9 66 #[T_,T_,T_,T_,F_,T_,F_,F_,F_,T_,F_,F_,F_] ?_
        refine tk 4 61 #[T_,T_,T_,T_,T_,T_,F_,F_,F_,T_,F_,F_,F_] hHeld ?_
        refine pu 6 63 #[T_,T_,T_,T_,T_,T_,T_,F_,F_,T_,F_,F_,F_] ?_
        refine pu 7 64 #[T_,T_,T_,T_,T_,T_,T_,T_,F_,T_,F_,F_,F_] ?_
        refine tk 8 65 (tf 10 3) hHeld ?_
        refine tk 10 67 (tf 11 2) hHeld ?_
        refine pu 11 68 (tf 12 1) ?_
        refine pu 12 69 (tf 13 0) ?_
        refine done_ (done_of HT_.out (by kernel_rfl)) ?_
        have vc4 := g1.out
        have qc3 := j1.out
        have sc4 := m1.out
        have oc3 := o1.out
        have qc4 := j2.out
        have mc3 := m2.out
        obtain ⟨qb4, ob4, mb4, mb2, kb2, jb2⟩ := bz3 o0
        have mb6 : 0 ≤ (b1 : Int) := dt
        have qb5 : b1 < (g0.length : Int) := dt
        obtain ⟨ac1, gd2, ma0, ka0⟩ := at_T50 (Kd.R_reads' k0.out).2.2 b1 mb6 qb5
        obtain rfl : s4 = ac1 := (by injection gd2)
        replace mb6 := eq_true mb6
        replace qb5 := eq_true qb5
        obtain ⟨ad5, o8, kc0⟩ := Kd.R_slice d0.out
        subst kc0
        have kb6 : 0 ≤ (((rd_T50 g0 b1).f1) : Int) := dt
        have ob5 : ((rd_T50 g0 b1).f1) < (q0.length : Int) := dt
        obtain ⟨qd3, dd2, ja0⟩ := Kd.at_int (Kd.R_reads' d0.out).2.2 ((rd_T50 g0 b1).f1) kb6 ob5
        cases dd2
        replace kb6 := eq_true kb6
        replace ob5 := eq_true ob5
        have ab7 : 0 ≤ (q1 : Int) := dt
        have db6 : (q1 : Int) < ((q0.length : Int) : Int) := dt
        obtain ⟨k8, qd2, ma9, sa8, dc0, dd3, jb0⟩ := Kd.R_form d0.out (by omega)
        (first | cases ma9 | (injection ma9 with ea_ en_ ec_; (first | subst ea_ | (injection ea_ with ea_; subst ea_)); subst ec_; clear en_))
        have qd4 := mk sa8
        have gd4 := mk jb0
        clear sa8 dc0 jb0
        (first | simp only [add_plain] at ja0 | skip)
        obtain ⟨qb7, zb8⟩ := Kd.R_celln 0 d0.out (q1 : Int) ab7 db6
        replace ab7 := eq_true ab7
        replace db6 := eq_true db6
        obtain ⟨hy117_, hz117_⟩ := Kd.R_celln 0 d0.out (q1 : Int) dt dt
        have sd3 := Kd.R_putg d0.out (q1 : Int) (rd q0 ((rd_T50 g0 b1).f1))
        try go_wp2_with (first | ((with_reducible refine gate_callee (f := 33) rfl ?_); obtain ⟨zd4, m8, jc0⟩ := Kd.R_slice b0.out; subst jc0; have jb6 : 0 ≤ (((rd_T50 g0 b1).f1) : Int) := dt; have mb5 : ((rd_T50 g0 b1).f1) < (m0.length : Int) := dt; obtain ⟨od3, bd2, ga0⟩ := Kd.at_int (Kd.R_reads' b0.out).2.2 ((rd_T50 g0 b1).f1) jb6 mb5; cases bd2; replace jb6 := eq_true jb6; replace mb5 := eq_true mb5; have zb6 : 0 ≤ (q1 : Int) := dt; have bb6 : (q1 : Int) < ((m0.length : Int) : Int) := dt; obtain ⟨j8, od2, ka9, qa8, bc0, bd3, gb0⟩ := Kd.R_form b0.out (by omega); (first | cases ka9 | (injection ka9 with ea_ en_ ec_; (first | subst ea_ | (injection ea_ with ea_; subst ea_)); subst ec_; clear en_)); have od4 := mk qa8; have dd4 := mk gb0; clear qa8 bc0 gb0; (first | simp only [add_plain] at ga0 | skip); obtain ⟨ob7, yb8⟩ := Kd.R_celln 0 b0.out (q1 : Int) zb6 bb6; replace zb6 := eq_true zb6; replace bb6 := eq_true bb6; refine gl (some 81) rfl Try.func33 #[.pointer (some ⟨d1, 0, none⟩), .int .i64 q1, .int .i64 ((rd_T50 g0 b1).f1)] ?_; (with_reducible refine (impl_Cracker_put.callsS w _ d1 (.slice (some ⟨k8, 0, none⟩) q0.length o8) (.slice (some ⟨j8, 0, none⟩) m0.length m8) (.slice (some s4) g0.length a7) q0 m0 _ q1 ((rd_T50 g0 b1).f1) a9 bl ⟨ub o0.out, oc1.out, up d0.out, up b0.out, up k0.out⟩ (show 0 ≤ (q1 : Int) from dt) (show (q1 : Int) < (q0.length : Int) from dt) (show (q1 : Int) < (m0.length : Int) from dt) (show 0 ≤ (((rd_T50 g0 b1).f1) : Int) from dt) (show (((rd_T50 g0 b1).f1) : Int) < (q0.length : Int) from dt) (show (((rd_T50 g0 b1).f1) : Int) < (m0.length : Int) from dt) dd5.out).mono ?_); rintro e s8 ⟨rfl, hcs, hb, hfar⟩; refine ⟨_, rfl, ?_⟩; have n0_ := mk (show Kd.R (Kd.int .i64) 3 s8 w.heap.size (fun k_ => True ∧ some k_ ≠ (.slice (some ⟨j8, 0, none⟩) m0.length m8 : Value).ownBlock) (.slice (some ⟨k8, 0, none⟩) q0.length o8) ja7 from by rw [qa9.out]; exact Kd.R_mono hcs.r0 (fun _ hk => ⟨trivial, hk⟩)); have n1_ := mk (show Kd.R (Kd.int .i64) 3 s8 w.heap.size (fun k_ => some k_ ≠ (.slice (some ⟨k8, 0, none⟩) q0.length o8 : Value).ownBlock) (.slice (some ⟨j8, 0, none⟩) m0.length m8) ka7 from by rw [oa9.out]; exact hcs.r1); have n2_ := mk (hcs.r2); have n3_ := mk (hfar.at (ub v0.out) (by decide)); have n4_ := mk (hfar.at (ub s0.out) (by decide)); have n5_ := mk (hfar.at (ub z0.out) (by decide)); have n6_ := mk (hcs.blk); have n7_ := mk (hb); have lyy325_ : ja7.length = q0.length := (by rw [qa9.out, List.length_set]); have lyy327_ : ka7.length = m0.length := (by rw [oa9.out, List.length_set]); clear d0; clear b0; clear k0; clear v0; clear s0; clear z0; clear o0; clear HB; have d0 := n0_; have b0 := n1_; have k0 := n2_; have v0 := n3_; have s0 := n4_; have z0 := n5_; have o0 := n6_; have HB := n7_; clear n0_ n1_ n2_ n3_ n4_ n5_ n6_ n7_; (try clear hb hcs hfar); obtain ⟨kb4, jb4, gb4, gb2, db2, bb2⟩ := bz3 o0; have gb6 : 0 ≤ (b1 : Int) := dt; have kb5 : b1 < (g0.length : Int) := dt; obtain ⟨zc0, ad2, da0, ba0⟩ := at_T50 (Kd.R_reads' k0.out).2.2 b1 gb6 kb5; obtain rfl : s4 = zc0 := (by injection ad2); replace gb6 := eq_true gb6; replace kb5 := eq_true kb5; have yb6 : 0 ≤ (b1 : Int) := dt; have ab6 : (b1 : Int) < ((g0.length : Int) : Int) := dt; obtain ⟨k5, md2, ja9, oa8, ac0, ad3, db0⟩ := Kd.R_form k0.out (by omega); (first | cases ja9 | (injection ja9 with ea_ en_ ec_; (first | subst ea_ | (injection ea_ with ea_; subst ea_)); subst ec_; clear en_)); have zc1 := mk oa8; have bd4 := mk db0; clear oa8 ac0 db0; (first | simp only [add_plain] at j5 | skip); (first | simp only [add_plain] at g5 | skip); (first | simp only [add_plain] at ma0 | skip); (first | simp only [add_plain] at ka0 | skip); (first | simp only [add_plain] at da0 | skip); (first | simp only [add_plain] at ba0 | skip); obtain ⟨jd3, aa8, da8, g8, b8⟩ := Kd.R_elem k0.out z50 (b1 : Int) yb6 ab6; obtain rfl := k50_openM da8; have mb7 : s8.cell? ⟨k5, (b1 : Int).toNat * 2, none⟩ = some (.int .i64 ((rd_T50 g0 b1).f0)) := g8 0 _ rfl; have kb7 : s8.cell? ⟨k5, (b1 : Int).toNat * 2 + 1, none⟩ = some (.int .i64 ((rd_T50 g0 b1).f1)) := g8 1 _ rfl; have vb8 : s8.frozen? ⟨k5, (b1 : Int).toNat * 2, none⟩ = false := b8 0; have sb8 : s8.frozen? ⟨k5, (b1 : Int).toNat * 2 + 1, none⟩ = false := b8 1; clear aa8 g8 b8 da8; replace yb6 := eq_true yb6; replace ab6 := eq_true ab6; have sa9 := mk (show Kd.R k50 50 s8 w.heap.size (fun _ => True) (.slice (some ⟨k5, 0, none⟩) g0.length a7) g0 from (up k0.out)); obtain ⟨gd3, q9, ba8, d8, o9⟩ := Kd.R_elem sa9.out z50 (b1 : Int) dt (by have h_ : (b1 : Int) < ((g0.length : Int) : Int) := dt; first | exact h_ | (have e_ := (Kd.R_reads' k0.out).1; omega) | simpa using h_); obtain rfl := k50_openM ba8; have ga7 := Kd.R_seg sa9.out (b1 : Int) dt (by have h_ : (b1 : Int) < ((g0.length : Int) : Int) := dt; first | exact h_ | (have e_ := (Kd.R_reads' k0.out).1; omega) | simpa using h_) (seg := [.int .i64 (wrap64 (((rd_T50 g0 b1).f1) + 1))]) (j := 1) q9 d8 (show 2 ≤ 2 from by decide) (x' := (⟨(rd_T50 g0 b1).f0, wrap64 (((rd_T50 g0 b1).f1) + 1)⟩ : S50)) (k50_mkM _ _ _ (⟨(rd_T50 g0 b1).f0, wrap64 (((rd_T50 g0 b1).f1) + 1)⟩ : S50) ) (fun _ hk => hk); have oa0 := d8 1 _ rfl; (try simp only [show (k50).sz = 2 from rfl, Nat.mul_one, Nat.add_zero] at oa0); have sa3 := o9 1; (try simp only [show (k50).sz = 2 from rfl, Nat.mul_one, Nat.add_zero] at sa3); clear q9 d8 o9 ba8) | ((with_reducible refine gate_store (t := 3) (p := 92) rfl ?_); refine store_event (t := 3) (p := 92) (v := ?vo_w126) (w1 := (s8.setCell ⟨k5, (b1 : Int).toNat * 2 + 1, none⟩ (.int .i64 (wrap64 (((rd_T50 g0 b1).f1) + 1))))) ?hg ?ho ?hn ?hr ?_; (case ho => rfl); (case hg => rfl); (case hn => rfl); (case hr => first | (go_simp; done) | (go_simp; rfl)); intro jb5 hw; have hg : s8.grownBy jb5 (some k5) := (by rw [hw]; exact ga7.2); have hp_ : Kd.R k50 50 jb5 w.heap.size (fun _ => True) (.slice (some ⟨k5, 0, none⟩) g0.length a7) yb4 := (by rw [hw, kc1.out]; exact ga7.1); clear ga7; replace d0 := mk (Kd.R_over' (v := (.slice (some ⟨k5, 0, none⟩) g0.length a7)) (up d0.out) (Kd.R_typed k0.out) (by decide) hg); replace b0 := mk (Kd.R_over' (v := (.slice (some ⟨k5, 0, none⟩) g0.length a7)) (up b0.out) (Kd.R_typed k0.out) (by decide) hg); replace v0 := mk (blk_grown (g := z3) (o := .cells #[.slice g6 d2.length z5, .slice d6 m3.length v5, .slice b6 k3.length s5] 29 (0, 0)) (ub v0.out) hg (Kd.R_ne k0.out v0.out (by decide))); replace s0 := mk (blk_grown (g := g2) (o := .cells #[.int .i64 a1_0, .int .i64 a1_1] 39 (0, 0)) (ub s0.out) hg (Kd.R_ne k0.out s0.out (by decide))); replace z0 := mk (blk_grown (g := o3) (o := .cells #[.slice none 0 0, .slice none 0 0, .slice none 0 0] 29 (0, 0)) (ub z0.out) hg (Kd.R_ne k0.out z0.out (by decide))); replace o0 := mk (blk_grown (g := d1) (o := .cells #[.slice (some ⟨k8, 0, none⟩) q0.length o8, .slice (some ⟨j8, 0, none⟩) m0.length m8, .slice (some ⟨k5, 0, none⟩) g0.length a7] 29 (0, 0)) (ub o0.out) hg (Kd.R_ne k0.out o0.out (by decide))); replace k0 := mk hp_; replace HB := mk ((by rw [hw]; exact below_set (HB.out) zc1.out : Below w.heap.size w jb5)); clear hg hw hp_))
        go_roundg k2
        case measure => have := HJ3.out; have := HK2.out; omega
        case rel => exact ⟨((rd_T50 g0 b1).f1), (wrap64 (a8 + a9)), (wrap64 (b1 - 1)), (ja7), (ka7), (yb4), (.slice (some ⟨k8, 0, none⟩) q0.length o8), (.slice (some ⟨j8, 0, none⟩) m0.length m8), (.slice (some ⟨k5, 0, none⟩) g0.length a7), (by first | rfl | (simp; done) | (simp [*]; done)), (by first | rfl | (simp; done) | (simp [*]; done)), (by first | rfl | (simp; done) | (simp [*]; done)), H', ⟨by have := HJ3.out; have := HK2.out; omega⟩, ⟨by exact up (Kd.R_mono d0.out (fun _ hk => hk.2))⟩, ⟨up b0.out⟩, ⟨up k0.out⟩, ⟨ub v0.out⟩, ⟨ub s0.out⟩, ⟨ub z0.out⟩, ⟨ub o0.out⟩, ⟨bl⟩⟩
       ·have vc0 : decide (a1_0 < ((rd_T50 g0 b1).f0)) = false := decide_eq_false c99
        clear c99
        revert H; refine ca fun ac6 H => ?_
        have zc5 : decide (0 ≤ q1) = true := decide_eq_true ac6
        clear ac6
        revert H; refine ca fun yc5 H => ?_
        have vc5 : decide (q1 < (q0.length : Int)) = true := decide_eq_true yc5
        clear yc5
        obtain ⟨vb4, hy_⟩ : ∃ y_ : List Int, y_ = (q0.set (q1 : Int).toNat a1_0) := ⟨_, rfl⟩
        replace H : (if q1 < (m0.length : Int) then (some (vb4, (m0.set (q1 : Int).toNat a1_1), g0, a8, true)) else (none)) = some (r1, r2, r3, r4, r5) := hw
        have jc1 := mk hy_
        clear hy_
        revert H; refine ca fun sc5 H => ?_
        have qc5 : decide (q1 < (m0.length : Int)) = true := decide_eq_true sc5
        clear sc5
        obtain ⟨jc2, hy_⟩ : ∃ y_ : List Int, y_ = (m0.set (q1 : Int).toNat a1_1) := ⟨_, rfl⟩
        replace H : (some (vb4, jc2, g0, a8, true)) = some (r1, r2, r3, r4, r5) := hw
        have gc1 := mk hy_
        clear hy_
        simp only [Option.some.injEq, Prod.mk.injEq] at H
        obtain ⟨rfl, rfl, rfl, rfl, rfl⟩ := H
        try go_wp2
        replace d0 := mk (Kd.R_drew d0.out)
        replace b0 := mk (Kd.R_drew b0.out)
        replace k0 := mk (Kd.R_drew k0.out)
        replace v0 := wd v0
        replace s0 := wd s0
        replace z0 := wd z0
        replace o0 := wd o0
        replace HB := mk (below_drew1 HB.out)
        obtain ⟨yd4, d9, aa9⟩ := Kd.R_slice k0.out
        (first | subst aa9 | (injection aa9 with f1_ f2_ f3_; have f4_ := f1_.symm; have f5_ := f3_.symm; clear f1_ f2_ f3_; subst f4_; subst f5_))
        have aa0 : 0 ≤ (b1 : Int) := dt
        have z9 : b1 < (g0.length : Int) := dt
        obtain ⟨s4, mc0, j5, g5⟩ := at_T50 (Kd.R_reads' k0.out).2.2 b1 aa0 z9
        cases mc0
        replace aa0 := eq_true aa0
        replace z9 := eq_true z9
        refine start_ (n := 13) (S := fun w' => w'.cell? ⟨d1, 0, none⟩ = some (d5) ∧ w'.cell? ⟨d1, 1, none⟩ = some (b5) ∧ w'.cell? ⟨d1, 2, none⟩ = some (.slice (some s4) g0.length d9) ∧ w'.cell? ⟨g2, 0, none⟩ = some (.int .i64 a1_0) ∧ w'.cell? ⟨g2, 1, none⟩ = some (.int .i64 a1_1) ∧ w'.cell? (s4.add ((b1).toNat * 2)) = some (.int .i64 ((rd_T50 g0 b1).f0)) ∧ w'.cell? ⟨(s4.add ((b1).toNat * 2)).block, (s4.add ((b1).toNat * 2)).off + 1, none⟩ = some (.int .i64 ((rd_T50 g0 b1).f1))) (ds := []) #[F_, F_, F_, F_, F_, F_, F_, F_, F_, F_, F_, F_, F_] (by kernel_rfl) rfl rfl ⟨bc o0 0, bc o0 1, bc o0 2, bc s0 0, bc s0 1, j5, g5⟩ (fun hHeld => ?_); refine with_tabW impl_RippleInsert.tab7 impl_RippleInsert.bits7 (fun HT_ HW_ => ?_)
        generalize wr.drew = mc2 at d0 b0 k0 v0 s0 z0 o0 HB j5 g5 hHeld ⊢
        refine pu 0 57 (tf 1 12) ?_
        refine pu 1 58 (tf 2 11) ?_
        refine pu 2 59 (tf 3 10) ?_
        refine pu 3 60 (tf 4 9) ?_
        refine pu 5 62 #[T_,T_,T_,T_,F_,T_,F_,F_,F_,F_,F_,F_,F_] ?_
        refine pu 9 66 #[T_,T_,T_,T_,F_,T_,F_,F_,F_,T_,F_,F_,F_] ?_
        refine tk 4 61 #[T_,T_,T_,T_,T_,T_,F_,F_,F_,T_,F_,F_,F_] hHeld ?_
        refine pu 6 63 #[T_,T_,T_,T_,T_,T_,T_,F_,F_,T_,F_,F_,F_] ?_
        refine pu 7 64 #[T_,T_,T_,T_,T_,T_,T_,T_,F_,T_,F_,F_,F_] ?_
        refine tk 8 65 (tf 10 3) hHeld ?_
        refine tk 10 67 (tf 11 2) hHeld ?_
        refine pu 11 68 (tf 12 1) ?_
        refine pu 12 69 (tf 13 0) ?_
        refine done_ (done_of HT_.out (by kernel_rfl)) ?_
        have oc4 := g1.out
        have kc3 := j1.out
        have mc4 := m1.out
        have jc3 := o1.out
        have kc4 := j2.out
        have gc3 := m2.out
        obtain ⟨db4, bb4, ab4, ab2, zb1, yb1⟩ := bz3 o0
        have jc4 := o2.out
        have dc3 := q2.out
        have gc4 := s3.out
        have bc3 := q3.out
        obtain ⟨zb3, yb3, vb1, sb1⟩ := bz2 s0
        have vb6 : 0 ≤ (q1 : Int) := dt
        have zb5 : (q1 : Int) < ((q0.length : Int) : Int) := dt
        obtain ⟨o4, m6, da9, ma8, zb9, zd2, bb0⟩ := Kd.R_form d0.out (by omega)
        (first | cases da9 | (injection da9 with ea_ en_ ec_; (first | subst ea_ | (injection ea_ with ea_; subst ea_)); subst ec_; clear en_))
        have yc1 := mk ma8
        have ad4 := mk bb0
        clear ma8 zb9 bb0
        obtain ⟨jb7, qb8⟩ := Kd.R_celln 0 d0.out (q1 : Int) vb6 zb5
        replace vb6 := eq_true vb6
        replace zb5 := eq_true zb5
        obtain ⟨hy141_, hz141_⟩ := Kd.R_celln 0 d0.out (q1 : Int) dt dt
        have da7 := Kd.R_putg d0.out (q1 : Int) a1_0
        have sb6 : 0 ≤ (q1 : Int) := dt
        have yb5 : (q1 : Int) < ((m0.length : Int) : Int) := dt
        obtain ⟨m4, z6, ba9, ka8, yb9, yd2, ab0⟩ := Kd.R_form b0.out (by omega)
        (first | cases ba9 | (injection ba9 with ea_ en_ ec_; (first | subst ea_ | (injection ea_ with ea_; subst ea_)); subst ec_; clear en_))
        have vc1 := mk ka8
        have zd3 := mk ab0
        clear ka8 yb9 ab0
        obtain ⟨gb7, ob8⟩ := Kd.R_celln 0 b0.out (q1 : Int) sb6 yb5
        replace sb6 := eq_true sb6
        replace yb5 := eq_true yb5
        have hq294_go129 : z3 ≠ o4 := (by have h_ := Kd.R_ne d0.out v0.out (by decide); intro e_; exact h_ (by rw [e_]; rfl))
        have hr294_go129 := Ne.symm hq294_go129
        have hq294_go131 : z3 ≠ m4 := (by have h_ := Kd.R_ne b0.out v0.out (by decide); intro e_; exact h_ (by rw [e_]; rfl))
        have hr294_go131 := Ne.symm hq294_go131
        have hq295_go129 : g2 ≠ o4 := (by have h_ := Kd.R_ne d0.out s0.out (by decide); intro e_; exact h_ (by rw [e_]; rfl))
        have hr295_go129 := Ne.symm hq295_go129
        have hq295_go131 : g2 ≠ m4 := (by have h_ := Kd.R_ne b0.out s0.out (by decide); intro e_; exact h_ (by rw [e_]; rfl))
        have hr295_go131 := Ne.symm hq295_go131
        have hq296_go129 : o3 ≠ o4 := (by have h_ := Kd.R_ne d0.out z0.out (by decide); intro e_; exact h_ (by rw [e_]; rfl))
        have hr296_go129 := Ne.symm hq296_go129
        have hq296_go131 : o3 ≠ m4 := (by have h_ := Kd.R_ne b0.out z0.out (by decide); intro e_; exact h_ (by rw [e_]; rfl))
        have hr296_go131 := Ne.symm hq296_go131
        have hq306_go129 : d1 ≠ o4 := (by have h_ := Kd.R_ne d0.out o0.out (by decide); intro e_; exact h_ (by rw [e_]; rfl))
        have hr306_go129 := Ne.symm hq306_go129
        have hq306_go131 : d1 ≠ m4 := (by have h_ := Kd.R_ne b0.out o0.out (by decide); intro e_; exact h_ (by rw [e_]; rfl))
        have hr306_go131 := Ne.symm hq306_go131
        have hq_go131_go129 : m4 ≠ o4 := fun e_ => b0.out.1 m4 rfl (by rw [e_]; rfl)
        have hr_go131_go129 := Ne.symm hq_go131_go129
        try go_wp2
        go_region
        obtain ⟨oa7, hw⟩ : ∃ w_, w_ = (mc2.setCell ⟨o4, (q1 : Int).toNat, none⟩ (.int .i64 a1_0)) := ⟨_, rfl⟩
        rw [← hw]
        have hg : mc2.grownBy oa7 (some o4) := (by rw [hw]; exact da7.2)
        have hp_ : Kd.R (Kd.int .i64) 3 oa7 w.heap.size (fun k_ => some k_ ≠ (.slice (some ⟨m4, 0, none⟩) m0.length z6 : Value).ownBlock) (.slice (some ⟨o4, 0, none⟩) q0.length m6) vb4 := (by rw [hw, jc1.out]; exact da7.1)
        clear da7
        replace b0 := mk (Kd.R_after (v := (.slice (some ⟨o4, 0, none⟩) q0.length m6)) (v1 := (.slice (some ⟨o4, 0, none⟩) q0.length m6)) (ok := (fun _ => True)) (by exact up (Kd.R_mono b0.out (fun _ hk => ⟨trivial, hk⟩))) hg (.inl rfl))
        replace k0 := mk (Kd.R_over' (v := (.slice (some ⟨o4, 0, none⟩) q0.length m6)) (up k0.out) (Kd.R_typed d0.out) (by decide) hg)
        replace v0 := mk (blk_grown (g := z3) (o := .cells #[.slice g6 d2.length z5, .slice d6 m3.length v5, .slice b6 k3.length s5] 29 (0, 0)) (ub v0.out) hg (Kd.R_ne d0.out v0.out (by decide)))
        replace s0 := mk (blk_grown (g := g2) (o := .cells #[.int .i64 a1_0, .int .i64 a1_1] 39 (0, 0)) (ub s0.out) hg (Kd.R_ne d0.out s0.out (by decide)))
        replace z0 := mk (blk_grown (g := o3) (o := .cells #[.slice none 0 0, .slice none 0 0, .slice none 0 0] 29 (0, 0)) (ub z0.out) hg (Kd.R_ne d0.out z0.out (by decide)))
        replace o0 := mk (blk_grown (g := d1) (o := .cells #[.slice (some ⟨o4, 0, none⟩) q0.length m6, .slice (some ⟨m4, 0, none⟩) m0.length z6, .slice (some s4) g0.length d9] 29 (0, 0)) (ub o0.out) hg (Kd.R_ne d0.out o0.out (by decide)))
        replace d0 := mk hp_
        replace HB := mk ((by rw [hw]; exact below_set (HB.out) yc1.out : Below w.heap.size w oa7))
        clear hg hw hp_
        replace b0 := ko1 (.slice (some ⟨o4, 0, none⟩) q0.length m6) b0
        obtain ⟨hy143_, hz143_⟩ := Kd.R_celln 0 b0.out (q1 : Int) dt dt
        have ba7 := Kd.R_putg b0.out (q1 : Int) a1_1
        obtain ⟨gb5, hw⟩ : ∃ w_, w_ = (oa7.setCell ⟨m4, (q1 : Int).toNat, none⟩ (.int .i64 a1_1)) := ⟨_, rfl⟩
        rw [← hw]
        have hg : oa7.grownBy gb5 (some m4) := (by rw [hw]; exact ba7.2)
        have hp_ : Kd.R (Kd.int .i64) 3 gb5 w.heap.size (fun k_ => some k_ ≠ (.slice (some ⟨o4, 0, none⟩) q0.length m6 : Value).ownBlock) (.slice (some ⟨m4, 0, none⟩) m0.length z6) jc2 := (by rw [hw, gc1.out]; exact ba7.1)
        clear ba7
        replace d0 := mk (Kd.R_after (v := (.slice (some ⟨m4, 0, none⟩) m0.length z6)) (v1 := (.slice (some ⟨m4, 0, none⟩) m0.length z6)) (ok := (fun _ => True)) (by exact up (Kd.R_mono d0.out (fun _ hk => ⟨trivial, hk⟩))) hg (.inl rfl))
        replace k0 := mk (Kd.R_over' (v := (.slice (some ⟨m4, 0, none⟩) m0.length z6)) (up k0.out) (Kd.R_typed b0.out) (by decide) hg)
        replace v0 := mk (blk_grown (g := z3) (o := .cells #[.slice g6 d2.length z5, .slice d6 m3.length v5, .slice b6 k3.length s5] 29 (0, 0)) (ub v0.out) hg (Kd.R_ne b0.out v0.out (by decide)))
        replace s0 := mk (blk_grown (g := g2) (o := .cells #[.int .i64 a1_0, .int .i64 a1_1] 39 (0, 0)) (ub s0.out) hg (Kd.R_ne b0.out s0.out (by decide)))
        replace z0 := mk (blk_grown (g := o3) (o := .cells #[.slice none 0 0, .slice none 0 0, .slice none 0 0] 29 (0, 0)) (ub z0.out) hg (Kd.R_ne b0.out z0.out (by decide)))
        replace o0 := mk (blk_grown (g := d1) (o := .cells #[.slice (some ⟨o4, 0, none⟩) q0.length m6, .slice (some ⟨m4, 0, none⟩) m0.length z6, .slice (some s4) g0.length d9] 29 (0, 0)) (ub o0.out) hg (Kd.R_ne b0.out o0.out (by decide)))
        replace b0 := mk hp_
        replace HB := mk ((by rw [hw]; exact below_set (HB.out) vc1.out : Below w.heap.size w gb5))
        clear hg hw hp_
        obtain ⟨vb3, sb3, qb3, qb1, ob1, mb1⟩ := bz3 o0
        have dc4 := s1.out
        have ac3 := z1.out
        obtain ⟨ob3, mb3, kb3, kb1, jb1, gb1⟩ := bz3 z0
        go_wp2
        refine bodyPost_ret (results_ctt rfl _ _ o3 29 #[.slice (some ⟨o4, 0, none⟩) q0.length m6, .slice (some ⟨m4, 0, none⟩) m0.length z6, .slice (some s4) g0.length d9] (0, 0) _ rfl bq Try.underlying29 rfl (by kernel_rfl)) rfl ?_
        exact ⟨_, _, _, rx, (by exact rm (rs1 d0 z0)), (by exact rm (rs1 b0 z0)), (by exact rm (rs1 k0 z0)), bl⟩
      ·have yc0 : decide (0 ≤ b1) = false := decide_eq_false c96
       clear c96
       revert H; refine ca fun oc5 H => ?_
       have mc5 : decide (0 ≤ q1) = true := decide_eq_true oc5
       clear oc5
       revert H; refine ca fun kc5 H => ?_
       have jc5 : decide (q1 < (q0.length : Int)) = true := decide_eq_true kc5
       clear kc5
       obtain ⟨sb4, hy_⟩ : ∃ y_ : List Int, y_ = (q0.set (q1 : Int).toNat a1_0) := ⟨_, rfl⟩
       replace H : (if q1 < (m0.length : Int) then (some (sb4, (m0.set (q1 : Int).toNat a1_1), g0, a8, true)) else (none)) = some (r1, r2, r3, r4, r5) := hw
       have dc1 := mk hy_
       clear hy_
       revert H; refine ca fun gc5 H => ?_
       have dc5 : decide (q1 < (m0.length : Int)) = true := decide_eq_true gc5
       clear gc5
       obtain ⟨gc2, hy_⟩ : ∃ y_ : List Int, y_ = (m0.set (q1 : Int).toNat a1_1) := ⟨_, rfl⟩
       replace H : (some (sb4, gc2, g0, a8, true)) = some (r1, r2, r3, r4, r5) := hw
       have bc1 := mk hy_
       clear hy_
       simp only [Option.some.injEq, Prod.mk.injEq] at H
       obtain ⟨rfl, rfl, rfl, rfl, rfl⟩ := H
       try go_wp2
       replace d0 := mk (Kd.R_drew d0.out)
       replace b0 := mk (Kd.R_drew b0.out)
       replace k0 := mk (Kd.R_drew k0.out)
       replace v0 := wd v0
       replace s0 := wd s0
       replace z0 := wd z0
       replace o0 := wd o0
       replace HB := mk (below_drew1 HB.out)
       refine start_ (n := 13) (S := fun w' => True) (ds := []) #[F_, F_, F_, F_, F_, F_, F_, F_, F_, F_, F_, F_, F_] (by kernel_rfl) rfl rfl trivial (fun hHeld => ?_); refine with_tabW impl_RippleInsert.tab7 impl_RippleInsert.bits7 (fun HT_ HW_ => ?_)
       generalize wr.drew = kc2 at d0 b0 k0 v0 s0 z0 o0 HB hHeld ⊢
       refine pu 0 57 (tf 1 12) ?_
       refine pu 1 58 (tf 2 11) ?_
       refine pu 2 59 (tf 3 10) ?_
       refine pn 3 60 (tf 4 9) ?_
       refine pn 4 61 (tf 5 8) ?_
       refine pn 5 62 (tf 6 7) ?_
       refine pn 6 63 (tf 7 6) ?_
       refine pn 7 64 (tf 8 5) ?_
       refine pn 8 65 (tf 9 4) ?_
       refine pn 9 66 (tf 10 3) ?_
       refine pn 10 67 (tf 11 2) ?_
       refine pn 11 68 (tf 12 1) ?_
       refine pu 12 69 (tf 13 0) ?_
       refine done_ (done_of HT_.out (by kernel_rfl)) ?_
       have bc4 := g1.out
       have zc2 := j1.out
       have ac4 := m1.out
       have yc2 := o1.out
       have zc3 := j2.out
       have vc2 := m2.out
       obtain ⟨jb3, gb3, db3, db1, bb1, ab1⟩ := bz3 o0
       have yc3 := o2.out
       have sc2 := q2.out
       have vc3 := s3.out
       have qc2 := q3.out
       obtain ⟨bb3, ab3, zb0, yb0⟩ := bz2 s0
       have qb6 : 0 ≤ (q1 : Int) := dt
       have vb5 : (q1 : Int) < ((q0.length : Int) : Int) := dt
       obtain ⟨k4, k6, za8, ja8, vb9, vd2, za9⟩ := Kd.R_form d0.out (by omega)
       (first | cases za8 | (injection za8 with ea_ en_ ec_; (first | subst ea_ | (injection ea_ with ea_; subst ea_)); subst ec_; clear en_))
       have sc1 := mk ja8
       have yd3 := mk za9
       clear ja8 vb9 za9
       obtain ⟨db7, mb8⟩ := Kd.R_celln 0 d0.out (q1 : Int) qb6 vb5
       replace qb6 := eq_true qb6
       replace vb5 := eq_true vb5
       obtain ⟨hy161_, hz161_⟩ := Kd.R_celln 0 d0.out (q1 : Int) dt dt
       have aa7 := Kd.R_putg d0.out (q1 : Int) a1_0
       have ob6 : 0 ≤ (q1 : Int) := dt
       have sb5 : (q1 : Int) < ((m0.length : Int) : Int) := dt
       obtain ⟨j4, v6, ya8, ga8, sb9, sd2, ya9⟩ := Kd.R_form b0.out (by omega)
       (first | cases ya8 | (injection ya8 with ea_ en_ ec_; (first | subst ea_ | (injection ea_ with ea_; subst ea_)); subst ec_; clear en_))
       have qc1 := mk ga8
       have vd3 := mk ya9
       clear ga8 sb9 ya9
       obtain ⟨bb7, kb8⟩ := Kd.R_celln 0 b0.out (q1 : Int) ob6 sb5
       replace ob6 := eq_true ob6
       replace sb5 := eq_true sb5
       have hq294_go150 : z3 ≠ k4 := (by have h_ := Kd.R_ne d0.out v0.out (by decide); intro e_; exact h_ (by rw [e_]; rfl))
       have hr294_go150 := Ne.symm hq294_go150
       have hq294_go152 : z3 ≠ j4 := (by have h_ := Kd.R_ne b0.out v0.out (by decide); intro e_; exact h_ (by rw [e_]; rfl))
       have hr294_go152 := Ne.symm hq294_go152
       have hq295_go150 : g2 ≠ k4 := (by have h_ := Kd.R_ne d0.out s0.out (by decide); intro e_; exact h_ (by rw [e_]; rfl))
       have hr295_go150 := Ne.symm hq295_go150
       have hq295_go152 : g2 ≠ j4 := (by have h_ := Kd.R_ne b0.out s0.out (by decide); intro e_; exact h_ (by rw [e_]; rfl))
       have hr295_go152 := Ne.symm hq295_go152
       have hq296_go150 : o3 ≠ k4 := (by have h_ := Kd.R_ne d0.out z0.out (by decide); intro e_; exact h_ (by rw [e_]; rfl))
       have hr296_go150 := Ne.symm hq296_go150
       have hq296_go152 : o3 ≠ j4 := (by have h_ := Kd.R_ne b0.out z0.out (by decide); intro e_; exact h_ (by rw [e_]; rfl))
       have hr296_go152 := Ne.symm hq296_go152
       have hq306_go150 : d1 ≠ k4 := (by have h_ := Kd.R_ne d0.out o0.out (by decide); intro e_; exact h_ (by rw [e_]; rfl))
       have hr306_go150 := Ne.symm hq306_go150
       have hq306_go152 : d1 ≠ j4 := (by have h_ := Kd.R_ne b0.out o0.out (by decide); intro e_; exact h_ (by rw [e_]; rfl))
       have hr306_go152 := Ne.symm hq306_go152
       have hq_go152_go150 : j4 ≠ k4 := fun e_ => b0.out.1 j4 rfl (by rw [e_]; rfl)
       have hr_go152_go150 := Ne.symm hq_go152_go150
       try go_wp2
       go_region
       obtain ⟨ma7, hw⟩ : ∃ w_, w_ = (kc2.setCell ⟨k4, (q1 : Int).toNat, none⟩ (.int .i64 a1_0)) := ⟨_, rfl⟩
       rw [← hw]
       have hg : kc2.grownBy ma7 (some k4) := (by rw [hw]; exact aa7.2)
       have hp_ : Kd.R (Kd.int .i64) 3 ma7 w.heap.size (fun k_ => some k_ ≠ (.slice (some ⟨j4, 0, none⟩) m0.length v6 : Value).ownBlock) (.slice (some ⟨k4, 0, none⟩) q0.length k6) sb4 := (by rw [hw, dc1.out]; exact aa7.1)
       clear aa7
       replace b0 := mk (Kd.R_after (v := (.slice (some ⟨k4, 0, none⟩) q0.length k6)) (v1 := (.slice (some ⟨k4, 0, none⟩) q0.length k6)) (ok := (fun _ => True)) (by exact up (Kd.R_mono b0.out (fun _ hk => ⟨trivial, hk⟩))) hg (.inl rfl))
       replace k0 := mk (Kd.R_over' (v := (.slice (some ⟨k4, 0, none⟩) q0.length k6)) (up k0.out) (Kd.R_typed d0.out) (by decide) hg)
       replace v0 := mk (blk_grown (g := z3) (o := .cells #[.slice g6 d2.length z5, .slice d6 m3.length v5, .slice b6 k3.length s5] 29 (0, 0)) (ub v0.out) hg (Kd.R_ne d0.out v0.out (by decide)))
       replace s0 := mk (blk_grown (g := g2) (o := .cells #[.int .i64 a1_0, .int .i64 a1_1] 39 (0, 0)) (ub s0.out) hg (Kd.R_ne d0.out s0.out (by decide)))
       replace z0 := mk (blk_grown (g := o3) (o := .cells #[.slice none 0 0, .slice none 0 0, .slice none 0 0] 29 (0, 0)) (ub z0.out) hg (Kd.R_ne d0.out z0.out (by decide)))
       replace o0 := mk (blk_grown (g := d1) (o := .cells #[.slice (some ⟨k4, 0, none⟩) q0.length k6, .slice (some ⟨j4, 0, none⟩) m0.length v6, m5] 29 (0, 0)) (ub o0.out) hg (Kd.R_ne d0.out o0.out (by decide)))
       replace d0 := mk hp_
       replace HB := mk ((by rw [hw]; exact below_set (HB.out) sc1.out : Below w.heap.size w ma7))
       clear hg hw hp_
       replace b0 := ko1 (.slice (some ⟨k4, 0, none⟩) q0.length k6) b0
       obtain ⟨hy163_, hz163_⟩ := Kd.R_celln 0 b0.out (q1 : Int) dt dt
       have za6 := Kd.R_putg b0.out (q1 : Int) a1_1
       obtain ⟨db5, hw⟩ : ∃ w_, w_ = (ma7.setCell ⟨j4, (q1 : Int).toNat, none⟩ (.int .i64 a1_1)) := ⟨_, rfl⟩
       rw [← hw]
       have hg : ma7.grownBy db5 (some j4) := (by rw [hw]; exact za6.2)
       have hp_ : Kd.R (Kd.int .i64) 3 db5 w.heap.size (fun k_ => some k_ ≠ (.slice (some ⟨k4, 0, none⟩) q0.length k6 : Value).ownBlock) (.slice (some ⟨j4, 0, none⟩) m0.length v6) gc2 := (by rw [hw, bc1.out]; exact za6.1)
       clear za6
       replace d0 := mk (Kd.R_after (v := (.slice (some ⟨j4, 0, none⟩) m0.length v6)) (v1 := (.slice (some ⟨j4, 0, none⟩) m0.length v6)) (ok := (fun _ => True)) (by exact up (Kd.R_mono d0.out (fun _ hk => ⟨trivial, hk⟩))) hg (.inl rfl))
       replace k0 := mk (Kd.R_over' (v := (.slice (some ⟨j4, 0, none⟩) m0.length v6)) (up k0.out) (Kd.R_typed b0.out) (by decide) hg)
       replace v0 := mk (blk_grown (g := z3) (o := .cells #[.slice g6 d2.length z5, .slice d6 m3.length v5, .slice b6 k3.length s5] 29 (0, 0)) (ub v0.out) hg (Kd.R_ne b0.out v0.out (by decide)))
       replace s0 := mk (blk_grown (g := g2) (o := .cells #[.int .i64 a1_0, .int .i64 a1_1] 39 (0, 0)) (ub s0.out) hg (Kd.R_ne b0.out s0.out (by decide)))
       replace z0 := mk (blk_grown (g := o3) (o := .cells #[.slice none 0 0, .slice none 0 0, .slice none 0 0] 29 (0, 0)) (ub z0.out) hg (Kd.R_ne b0.out z0.out (by decide)))
       replace o0 := mk (blk_grown (g := d1) (o := .cells #[.slice (some ⟨k4, 0, none⟩) q0.length k6, .slice (some ⟨j4, 0, none⟩) m0.length v6, m5] 29 (0, 0)) (ub o0.out) hg (Kd.R_ne b0.out o0.out (by decide)))
       replace b0 := mk hp_
       replace HB := mk ((by rw [hw]; exact below_set (HB.out) qc1.out : Below w.heap.size w db5))
       clear hg hw hp_
       obtain ⟨zb2, yb2, vb2, vb0, sb0, qb0⟩ := bz3 o0
       have sc3 := s1.out
       have oc2 := z1.out
       obtain ⟨sb2, qb2, ob2, ob0, mb0, kb0⟩ := bz3 z0
       obtain ⟨dc2, sc0, gc0⟩ := Kd.R_slice k0.out
       subst gc0
       go_wp2
       refine bodyPost_ret (results_ctt rfl _ _ o3 29 #[.slice (some ⟨k4, 0, none⟩) q0.length k6, .slice (some ⟨j4, 0, none⟩) m0.length v6, .slice dc2 g0.length sc0] (0, 0) _ rfl bq Try.underlying29 rfl (by kernel_rfl)) rfl ?_
       exact ⟨_, _, _, rx, (by exact rm (rs1 d0 z0)), (by exact rm (rs1 b0 z0)), (by exact rm (rs1 k0 z0)), bl⟩

end Go.Proofs.Ytlikcmonejefoab.PFnRipples
