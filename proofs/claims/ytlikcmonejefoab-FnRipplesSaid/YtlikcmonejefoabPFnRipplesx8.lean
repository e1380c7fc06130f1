-- printed by a program of this session, a turned copy of the print of the kit
import Derived.Test.YtlikcmonejefoabSr
import Derived.Test.YtlikcmonejefoabPFnRipplesx0
import Derived.Test.YtlikcmonejefoabPFnRipplesx6
import Derived.Test.YtlikcmonejefoabPFnRipplesx7
namespace Go.Proofs.Ytlikcmonejefoab.PFnRipples
open Go.RowKit Go.Proofs.YtlikcmonejefoabW.PrintWords Go.Proofs.YtlikcmonejefoabW.PrintLast Go.Proofs.YtlikcmonejefoabW.PrintMore Go.Proofs.Ytlikcmonejefoab.Sq
attribute [local go_sem] max2_int min2_int max_two min_two max_three min_three max_four min_four Giv.cell_twice   -- for this text's walks alone
set_option linter.unusedVariables false
set_option linter.unusedSimpArgs false

/-! ### impl_IsCracker: function 19 -/
mutual
def impl_IsCracker.j0 : Nat → Bool → List Int → List Int → List (S50) → Option (Bool)
 | 0, _, _, _, _ => none
 | k + 1, x33, v0, s0, o0 => if x33 = true then (some false) else (impl_IsCracker.l0 k s0 (s0.length : Int) 0 v0 s0 o0)
def impl_IsCracker.l0 : Nat → List Int → Int → Int → List Int → List Int → List (S50) → Option (Bool)
 | 0, _, _, _, _, _, _ => none
 | k + 1, x35, x36, x37, v0, s0, o0 => if x37 < x36 then (if 0 ≤ x37 then (if x37 < (x35.length : Int) then (if x37 ≤ (s0.length : Int) then ((slices_Contains_int_int.f k (s0.take (x37 : Int).toNat) (rd x35 x37)).bind fun ya2 => (if ya2 = true then (some false) else (impl_IsCracker.l0 k x35 x36 (wrap64 (x37 + 1)) v0 s0 o0))) else (none)) else (none)) else (none)) else (impl_IsCracker.l1 k o0 (o0.length : Int) 0 v0 s0 o0)
def impl_IsCracker.l1 : Nat → List (S50) → Int → Int → List Int → List Int → List (S50) → Option (Bool)
 | 0, _, _, _, _, _, _ => none
 | k + 1, x50, x51, x52, v0, s0, o0 => if x52 < x51 then (if 0 ≤ x52 then (if x52 < (x50.length : Int) then ((impl_bound.f ((rd_T50 x50 x52).f0)).bind fun va2 => (if va2 = true then (if ((rd_T50 x50 x52).f1) < 0 then (impl_IsCracker.j3 k x50 x51 x52 true v0 s0 o0 ((rd_T50 x50 x52).f0) ((rd_T50 x50 x52).f1)) else (if ((rd_T50 x50 x52).f1) > (v0.length : Int) then (impl_IsCracker.j3 k x50 x51 x52 true v0 s0 o0 ((rd_T50 x50 x52).f0) ((rd_T50 x50 x52).f1)) else (if x52 > 0 then (if 0 ≤ (wrap64 (x52 - 1)) then (if (wrap64 (x52 - 1)) < (o0.length : Int) then (if ((rd_T50 x50 x52).f0) ≤ ((rd_T50 o0 (wrap64 (x52 - 1))).f0) then (impl_IsCracker.j3 k x50 x51 x52 true v0 s0 o0 ((rd_T50 x50 x52).f0) ((rd_T50 x50 x52).f1)) else (impl_IsCracker.j3 k x50 x51 x52 (decide (((rd_T50 x50 x52).f1) < ((rd_T50 o0 (wrap64 (x52 - 1))).f1))) v0 s0 o0 ((rd_T50 x50 x52).f0) ((rd_T50 x50 x52).f1))) else (none)) else (none)) else (impl_IsCracker.j3 k x50 x51 x52 false v0 s0 o0 ((rd_T50 x50 x52).f0) ((rd_T50 x50 x52).f1))))) else (impl_IsCracker.j3 k x50 x51 x52 true v0 s0 o0 ((rd_T50 x50 x52).f0) ((rd_T50 x50 x52).f1)))) else (none)) else (none)) else (some true)
def impl_IsCracker.j3 : Nat → List (S50) → Int → Int → Bool → List Int → List Int → List (S50) → Int → Int → Option (Bool)
 | 0, _, _, _, _, _, _, _, _, _ => none
 | k + 1, x50, x51, x52, za5, v0, s0, o0, s2, q2 => if za5 = true then (some false) else (impl_IsCracker.l2 k x50 x51 x52 v0 (v0.length : Int) 0 v0 s0 o0 s2 q2)
def impl_IsCracker.l2 : Nat → List (S50) → Int → Int → List Int → Int → Int → List Int → List Int → List (S50) → Int → Int → Option (Bool)
 | 0, _, _, _, _, _, _, _, _, _, _, _ => none
 | k + 1, x50, x51, x52, sa2, oa5, oa1, v0, s0, o0, s2, q2 => if oa1 < oa5 then (if 0 ≤ oa1 then (if oa1 < (sa2.length : Int) then (if ((decide ((rd sa2 oa1) < s2)) != (decide (oa1 < q2))) = true then (some false) else (impl_IsCracker.l2 k x50 x51 x52 sa2 oa5 (wrap64 (oa1 + 1)) v0 s0 o0 s2 q2)) else (none)) else (none)) else (impl_IsCracker.l1 k x50 x51 (wrap64 (x52 + 1)) v0 s0 o0)
end
def impl_IsCracker.f (k : Nat) (b1 : List Int) (z0 : List Int) (g0 : List (S50)) : Option (Bool) := (impl_AreValues.f b1).bind fun va1 => (if va1 = true then (if (z0.length : Int) = (b1.length : Int) then ((impl_within.f z0 0 999).bind fun sa1 => (if sa1 = true then (impl_IsCracker.j0 k (decide ((g0.length : Int) > 2001)) b1 z0 g0) else (impl_IsCracker.j0 k true b1 z0 g0))) else (impl_IsCracker.j0 k true b1 z0 g0)) else (impl_IsCracker.j0 k true b1 z0 g0))
theorem impl_IsCracker.mono_l : ∀ k, (∀ y0 y1 y2 y3, LeO (impl_IsCracker.j0 k y0 y1 y2 y3) (impl_IsCracker.j0 (k + 1) y0 y1 y2 y3)) ∧ (∀ y0 y1 y2 y3 y4 y5, LeO (impl_IsCracker.l0 k y0 y1 y2 y3 y4 y5) (impl_IsCracker.l0 (k + 1) y0 y1 y2 y3 y4 y5)) ∧ (∀ y0 y1 y2 y3 y4 y5, LeO (impl_IsCracker.l1 k y0 y1 y2 y3 y4 y5) (impl_IsCracker.l1 (k + 1) y0 y1 y2 y3 y4 y5)) ∧ (∀ y0 y1 y2 y3 y4 y5 y6 y7 y8, LeO (impl_IsCracker.j3 k y0 y1 y2 y3 y4 y5 y6 y7 y8) (impl_IsCracker.j3 (k + 1) y0 y1 y2 y3 y4 y5 y6 y7 y8)) ∧ (∀ y0 y1 y2 y3 y4 y5 y6 y7 y8 y9 y10, LeO (impl_IsCracker.l2 k y0 y1 y2 y3 y4 y5 y6 y7 y8 y9 y10) (impl_IsCracker.l2 (k + 1) y0 y1 y2 y3 y4 y5 y6 y7 y8 y9 y10))
 | 0 => ⟨fun _ _ _ _ r h => by simp [impl_IsCracker.j0] at h, fun _ _ _ _ _ _ r h => by simp [impl_IsCracker.l0] at h, fun _ _ _ _ _ _ r h => by simp [impl_IsCracker.l1] at h, fun _ _ _ _ _ _ _ _ _ r h => by simp [impl_IsCracker.j3] at h, fun _ _ _ _ _ _ _ _ _ _ _ r h => by simp [impl_IsCracker.l2] at h⟩
 | k + 1 => by
  obtain ⟨ih0, ih1, ih2, ih3, ih4⟩ := impl_IsCracker.mono_l k
  refine ⟨?_, ?_, ?_, ?_, ?_⟩
  ·intro y0 y1 y2 y3
   unfold impl_IsCracker.j0
   exact mo
  ·intro y0 y1 y2 y3 y4 y5
   unfold impl_IsCracker.l0
   exact mo
  ·intro y0 y1 y2 y3 y4 y5
   unfold impl_IsCracker.l1
   exact mo
  ·intro y0 y1 y2 y3 y4 y5 y6 y7 y8
   unfold impl_IsCracker.j3
   exact mo
  ·intro y0 y1 y2 y3 y4 y5 y6 y7 y8 y9 y10
   unfold impl_IsCracker.l2
   exact mo
theorem impl_IsCracker.mono : ∀ a0 a1 a2 k, LeO (impl_IsCracker.f k a0 a1 a2) (impl_IsCracker.f (k + 1) a0 a1 a2) := by
 intro a0 a1 a2 k
 obtain ⟨ih0, ih1, ih2, ih3, ih4⟩ := impl_IsCracker.mono_l k
 unfold impl_IsCracker.f
 exact mo
instance impl_IsCracker.mi (a0 a1 a2 k) : LeC (impl_IsCracker.f k a0 a1 a2) (impl_IsCracker.f (k + 1) a0 a1 a2) := ⟨impl_IsCracker.mono a0 a1 a2 k⟩
def impl_IsCracker.T12 : Bool × List (List Nat × List Nat) := (true, [([], []), ([0], [0]), ([1], [1]), ([2], [2]), ([3, 2], [3]), ([4], [4]), ([5, 4], [4, 5]), ([6, 4], [4, 6]), ([4, 7], [4, 7]), ([8, 4], [8]), ([9], [9]), ([10, 9], [9, 10]), ([9], [9]), ([12, 9], [9, 12]), ([13, 9], [9, 13]), ([11, 14, 9], [9, 11, 14]), ([9, 15], [9, 15]), ([16, 9], [16]), ([17], [17]), ([18, 17], [17, 18]), ([19, 17, 17], [17, 19]), ([20], [20]), ([21, 20], [20, 21]), ([20], [20]), ([23, 20], [20, 23]), ([20], [20]), ([25, 20], [20, 25]), ([24, 26, 20], [20, 24, 26]), ([27, 20], [20, 27]), ([28, 20], [20, 28]), ([22, 29, 20], [20, 22, 29]), ([30, 20, 20], [20, 30]), ([31], [31]), ([32, 31], [31, 32]), ([31], [31]), ([34, 31], [31, 34]), ([31], [31]), ([36, 31], [31, 36]), ([35, 37, 31], [31, 35, 37]), ([38, 31], [31, 38]), ([39, 31], [31, 39]), ([33, 40, 31], [31, 33, 40]), ([31, 41, 20], [20, 31, 41]), ([20, 42, 17], [17, 20, 42]), ([17, 43], [17, 43])])
def impl_IsCracker.B12 : List Nat := [0, 1, 3, 7, 15, 31, 63, 127, 255, 511, 1023, 2047, 1023, 5119, 13311, 32767, 65535, 131071, 262143, 524287, 1048575, 2097151, 4194303, 2097151, 10485759, 2097151, 35651583, 127926271, 262143999, 530579455, 1073741823, 2147483647, 4294967295, 8589934591, 4294967295, 21474836479, 4294967295, 73014444031, 261993005055, 536870911999, 1086626725887, 2199023255551, 4398046511103, 8796093022207, 17592186044415]
theorem impl_IsCracker.tab12 : rtab .any (opsOf Try.f19 12) = impl_IsCracker.T12 := by kernel_rfl
theorem impl_IsCracker.bits12 : waitsOk impl_IsCracker.T12.2 impl_IsCracker.B12 = true := by kernel_rfl
set_option maxHeartbeats 8000000 in
set_option maxRecDepth 100000 in
theorem impl_IsCracker.calls (k : Nat) (o2 : Option Addr) (m2 : Nat) (b1 : List Int) (a3 : Option Addr) (j2 : Nat) (z0 : List Int) (qa1 : Option Addr) (z2 : Nat) (g0 : List (S50)) (r : Bool) (w : World) (da2 : Kd.C (Kd.int .i64) w o2 b1.length b1) (hc0_0 : b1.length ≤ m2) (ba2 : Kd.C (Kd.int .i64) w a3 z0.length z0) (hc0_1 : z0.length ≤ j2) (aa2 : Kd.C k50 w qa1 g0.length g0) (hc0_2 : g0.length ≤ z2) (h : impl_IsCracker.f k b1 z0 g0 = some r) :
  Calls Try.prog 19 #[.agg #[.slice o2 b1.length m2, .slice a3 z0.length j2, .slice qa1 g0.length z2]] w fun e w' => e = .returned (.bool r) ∧ Below w.heap.size w w' := by
 have hu29 := Try.underlying29
 have hu50 := Try.underlying50
 have b7 := mk da2
 have q8 := mk hc0_0
 clear da2 hc0_0
 have a7 := mk ba2
 have o8 := mk hc0_1
 clear ba2 hc0_1
 have m8 := mk aa2
 have ma7 := mk hc0_2
 clear aa2 hc0_2
 have HB := mk (Below.refl w.heap.size w)
 have H : ((impl_AreValues.f b1).bind fun va1 => (if va1 = true then (if (z0.length : Int) = (b1.length : Int) then ((impl_within.f z0 0 999).bind fun sa1 => (if sa1 = true then (impl_IsCracker.j0 k (decide ((g0.length : Int) > 2001)) b1 z0 g0) else (impl_IsCracker.j0 k true b1 z0 g0))) else (impl_IsCracker.j0 k true b1 z0 g0)) else (impl_IsCracker.j0 k true b1 z0 g0))) = some r := h
 clear h
 have HC2 := mk H
 clear H
 go_enter Try.func19, Try.ntmps19
 go_upto_region 1 with (first | ((with_reducible refine gate_dst (N := 1) rfl ?_); (try (refine gate_guard (by rfl) ?_; dsimp only)); refine bx 1 #[.slice o2 b1.length m2, .slice a3 z0.length j2, .slice qa1 g0.length z2] 29 ?_; intro m1 hg w3 hbox hb; have d0 := mk hbox; have qa7 := wg hg; replace HB := wh hb; clear hb hbox hg))
 (try simp only [Act.put, List.setIfInBounds_toArray, List.set_cons_zero, List.set_cons_succ])
 go_cut [33] (fun v33 wc => ∃ (kq : Nat) (k8 : Bool), v33 = .bool k8 ∧ Aside0 (impl_IsCracker.j0 kq k8 b1 z0 g0 = some r) ∧ Aside0 (kq ≤ k) ∧ Aside0 (wc.heap[m1]? = some (.cells #[(.slice o2 b1.length m2), (.slice a3 z0.length j2), (.slice qa1 g0.length z2)] 29 (0, 0))) ∧ Aside0 (Below w.heap.size w wc))
 case first =>
  have H := HC2.out
  clear HC2
  revert H; refine bo ?_; rintro va1 A4 H
  by_cases c5 : va1 = true
  ·subst c5
   rw [if_pos rfl] at H
   revert H; refine ci (fun c6 H => ?_) fun c6 H => ?_
   ·have z8 : ((z0.length : Int) == (b1.length : Int)) = true := beq_iff_eq.mpr c6
    have oa2 : ((z0.length : Int) != (b1.length : Int)) = false := bne_eq_false_iff_eq.mpr c6
    have ma2 : (z0.length == b1.length) = true := by first | simpa using c6 | (simp at c6 ⊢; omega)
    clear c6
    (first | rw [z8] | (simp only [i64_w, i32_w]; rw [z8]) | skip)
    revert H; refine bo ?_; rintro sa1 A7 H
    by_cases c8 : sa1 = true
    ·subst c8
     rw [if_pos rfl] at H
     have H' := mk H
     clear H
     obtain ⟨z7, v7, s7, k7, j7, g7⟩ := bz3 d0
     go_wp2_with (first | ((with_reducible refine gate_callee (f := 47) rfl ?_); refine gl (some 11) rfl Try.func47 #[.slice o2 b1.length m2] ?_; (with_reducible refine (impl_AreValues.calls _ _ b1 true _ ?side1 ?side2 A4.out).mono ?_); (case side1 => exact cb b7 HB); (case side2 => exact q8.out); rintro e w10 ⟨rfl, hb⟩; refine ⟨_, rfl, ?_⟩; replace d0 := wb d0 hb; replace HB := wh hb; (try clear hb); obtain ⟨z6, v6, s6, b5, a5, z4⟩ := bz3 d0) | (go_at_call 48; (with_reducible refine (impl_within.calls _ _ z0 0 999 true _ ?side1 ?side2 A7.out).mono ?_); (case side1 => exact cb a7 HB); (case side2 => exact o8.out); rintro e w12 ⟨rfl, hb⟩; replace d0 := wb d0 hb; replace HB := wh hb; (try clear hb); obtain ⟨q6, o6, m6, v4, s4, q4⟩ := bz3 d0))
     go_meet
     case rel => exact ⟨_, (decide ((g0.length : Int) > 2001)), (by first | rfl | (simp; done) | (simp [*]; done)), H', ⟨by first | omega | exact Nat.le_refl _⟩, ⟨ub d0.out⟩, ⟨bl⟩⟩
    ·replace c8 := Bool.eq_false_iff.mpr c8
     subst c8
     rw [if_neg nf] at H
     have H' := mk H
     clear H
     obtain ⟨k6, j6, g6, o4, m4, k4⟩ := bz3 d0
     go_wp2_with (first | ((with_reducible refine gate_callee (f := 47) rfl ?_); refine gl (some 11) rfl Try.func47 #[.slice o2 b1.length m2] ?_; (with_reducible refine (impl_AreValues.calls _ _ b1 true _ ?side1 ?side2 A4.out).mono ?_); (case side1 => exact cb b7 HB); (case side2 => exact q8.out); rintro e w15 ⟨rfl, hb⟩; refine ⟨_, rfl, ?_⟩; replace d0 := wb d0 hb; replace HB := wh hb; (try clear hb); obtain ⟨d6, b6, a6, j4, g4, d4⟩ := bz3 d0) | (go_at_call 48; (with_reducible refine (impl_within.calls _ _ z0 0 999 false _ ?side1 ?side2 A7.out).mono ?_); (case side1 => exact cb a7 HB); (case side2 => exact o8.out); rintro e w17 ⟨rfl, hb⟩; replace d0 := wb d0 hb; replace HB := wh hb; (try clear hb)))
     go_meet
     case rel => exact ⟨_, (true), (by first | rfl | (simp; done) | (simp [*]; done)), H', ⟨by first | omega | exact Nat.le_refl _⟩, ⟨ub d0.out⟩, ⟨bl⟩⟩
   ·have z8 : ((z0.length : Int) == (b1.length : Int)) = false := beq_eq_false_iff_ne.mpr c6
    have oa2 : ((z0.length : Int) != (b1.length : Int)) = true := bne_iff_ne.mpr c6
    have ma2 : (z0.length == b1.length) = false := by first | simpa using c6 | (simp at c6 ⊢; omega)
    (first | rw [z8] | (simp only [i64_w, i32_w]; rw [z8]) | skip)
    have H' := mk H
    clear H
    obtain ⟨z5, v5, s5, b4, a4, z3⟩ := bz3 d0
    go_wp2_with (first | ((with_reducible refine gate_callee (f := 47) rfl ?_); refine gl (some 11) rfl Try.func47 #[.slice o2 b1.length m2] ?_; (with_reducible refine (impl_AreValues.calls _ _ b1 true _ ?side1 ?side2 A4.out).mono ?_); (case side1 => exact cb b7 HB); (case side2 => exact q8.out); rintro e w19 ⟨rfl, hb⟩; refine ⟨_, rfl, ?_⟩; replace d0 := wb d0 hb; replace HB := wh hb; (try clear hb); obtain ⟨q5, o5, m5, v3, s3, q3⟩ := bz3 d0))
    go_meet
    case rel => exact ⟨_, (true), (by first | rfl | (simp; done) | (simp [*]; done)), H', ⟨by first | omega | exact Nat.le_refl _⟩, ⟨ub d0.out⟩, ⟨bl⟩⟩
  ·replace c5 := Bool.eq_false_iff.mpr c5
   subst c5
   rw [if_neg nf] at H
   have H' := mk H
   clear H
   obtain ⟨j5, g5, d5, o3, m3, g3⟩ := bz3 d0
   go_wp2_with (first | ((with_reducible refine gate_callee (f := 47) rfl ?_); refine gl (some 11) rfl Try.func47 #[.slice o2 b1.length m2] ?_; (with_reducible refine (impl_AreValues.calls _ _ b1 false _ ?side1 ?side2 A4.out).mono ?_); (case side1 => exact cb b7 HB); (case side2 => exact q8.out); rintro e w22 ⟨rfl, hb⟩; refine ⟨_, rfl, ?_⟩; replace d0 := wb d0 hb; replace HB := wh hb; (try clear hb)))
   go_meet
   case rel => exact ⟨_, (true), (by first | rfl | (simp; done) | (simp [*]; done)), H', ⟨by first | omega | exact Nat.le_refl _⟩, ⟨ub d0.out⟩, ⟨bl⟩⟩
 case rest =>
  clear HC2
  try clear c1
  try clear p2
  try clear c4
  try clear c5
  try clear c6
  try clear z8
  try clear oa2
  try clear ma2
  try clear c8
  try clear c19
  try clear z6
  try clear v6
  try clear s6
  try clear q6
  try clear o6
  try clear m6
  try clear k6
  try clear j6
  try clear g6
  try clear d6
  try clear b6
  try clear a6
  try clear z5
  try clear v5
  try clear s5
  try clear q5
  try clear o5
  try clear m5
  try clear j5
  try clear g5
  try clear d5
  try clear z7
  try clear v7
  try clear s7
  try clear b5
  try clear a5
  try clear z4
  try clear v4
  try clear s4
  try clear q4
  try clear o4
  try clear m4
  try clear k4
  try clear j4
  try clear g4
  try clear d4
  try clear b4
  try clear a4
  try clear z3
  try clear v3
  try clear s3
  try clear q3
  try clear o3
  try clear m3
  try clear g3
  try clear k7
  try clear j7
  try clear g7
  obtain ⟨kq, k8, rfl, HA, HJ1, d0, HB⟩ := hcut
  cases kq with
  | zero => exact absurd HA.out (by simp [impl_IsCracker.j0])
  | succ kj1 =>
   have H := HA.out
   clear HA
   simp only [impl_IsCracker.j0] at H
   by_cases c23 : k8 = true
   ·subst c23
    rw [if_pos rfl] at H
    obtain rfl := Option.some.inj H
    go_wp2
    go_ret
    exact ⟨rx, bl⟩
   ·replace c23 := Bool.eq_false_iff.mpr c23
    subst c23
    rw [if_neg nf] at H
    have H' := mk H
    clear H
    obtain ⟨d8, b8, a8, q7, o7, m7⟩ := bz3 d0
    go_wp2
    go_loopg [37] kj1 (fun kq v37 w' => ∃ (d1 : Int), v37 = .int .i64 d1 ∧ Aside0 (impl_IsCracker.l0 kq z0 (z0.length : Int) d1 b1 z0 g0 = some r) ∧ Aside0 (kq ≤ kj1) ∧ Aside0 (w'.heap[m1]? = some (.cells #[(.slice o2 b1.length m2), (.slice a3 z0.length j2), (.slice qa1 g0.length z2)] 29 (0, 0))) ∧ Aside0 (Below w.heap.size w w'))
    case atStart => exact ⟨(0), (by first | rfl | (simp; done) | (simp [*]; done)), H', ⟨Nat.le_refl _⟩, ⟨ub d0.out⟩, ⟨bl⟩⟩
    case round =>
     clear H'
     try clear c1
     try clear c2
     try clear p2
     try clear c4
     try clear c5
     try clear c6
     try clear z8
     try clear oa2
     try clear ma2
     try clear c8
     try clear c19
     try clear c23
     try clear z6
     try clear v6
     try clear s6
     try clear q6
     try clear o6
     try clear m6
     try clear k6
     try clear j6
     try clear g6
     try clear d6
     try clear b6
     try clear a6
     try clear z5
     try clear v5
     try clear s5
     try clear q5
     try clear o5
     try clear m5
     try clear j5
     try clear g5
     try clear d5
     try clear d8
     try clear b8
     try clear a8
     try clear z7
     try clear v7
     try clear s7
     try clear b5
     try clear a5
     try clear z4
     try clear v4
     try clear s4
     try clear q4
     try clear o4
     try clear m4
     try clear k4
     try clear j4
     try clear g4
     try clear d4
     try clear b4
     try clear a4
     try clear z3
     try clear v3
     try clear s3
     try clear q3
     try clear o3
     try clear m3
     try clear g3
     try clear q7
     try clear o7
     try clear m7
     try clear k7
     try clear j7
     try clear g7
     try clear p2
     obtain ⟨d1, rfl, HA, HK2, d0, HB⟩ := hrel
     cases gk with
     | zero => exact absurd HA.out (by simp [impl_IsCracker.l0])
     | succ k2 =>
      have H := HA.out
      clear HA
      simp only [impl_IsCracker.l0] at H
      revert H; refine ci (fun c25 H => ?_) fun c25 H => ?_
      ·have ka2 : decide (d1 < (z0.length : Int)) = true := decide_eq_true c25
       clear c25
       revert H; refine ca fun c26 H => ?_
       have ga5 : decide (0 ≤ d1) = true := decide_eq_true c26
       clear c26
       revert H; refine ca fun c27 H => ?_
       have da5 : decide (d1 < (z0.length : Int)) = true := decide_eq_true c27
       clear c27
       have ba5 := eq_true (dt : 0 ≤ d1)
       revert H; refine ca fun c29 H => ?_
       have aa5 := eq_true c29
       have za4 : decide (d1 ≤ (z0.length : Int)) = true := decide_eq_true c29
       clear c29
       revert H; refine bo ?_; rintro ya2 A30 H
       by_cases c31 : ya2 = true
       ·subst c31
        rw [if_pos rfl] at H
        obtain rfl := Option.some.inj H
        have v8 : 0 ≤ (d1 : Int) := dt
        have s8 : d1 < (z0.length : Int) := dt
        obtain ⟨j8, ja4, o1⟩ := Kd.at_int a7.out d1 v8 s8
        cases ja4
        replace o1 := (HB.out.cell (World.block_lt_of_cell? w _ o1)).trans o1
        replace v8 := eq_true v8
        replace s8 := eq_true s8
        obtain ⟨da1, ba1, aa1, ga0, da0, ba0⟩ := bz3 d0
        obtain ⟨va7, ja2, _, za1, _⟩ := info_parts info3
        obtain ⟨ya5, hA33, hC33⟩ := print_take_of (P := Try.prog) (Value.int .i64) 0 22 3 .i64 Try.underlying22 ja2 za1 (some j8) j2 z0 d1 dt dt o8.out
        have ka1 := mk (Kd.C_of_reads (h1 := fun _ => rfl) (hA33 _ (Kd.reads_of_C a7.out)))
        have ma1 := mk hC33
        clear hA33 hC33 ja2 za1
        go_wp2_with (first | ((with_reducible refine gate_callee (f := 49) rfl ?_); refine goesL_ (some 47) rfl rfl Try.func49 (by kernel_rfl) rfl #[.slice (some j8) (z0.take (d1 : Int).toNat).length j2, .int .i64 (rd z0 d1)] rfl (by (try simp only [List.map_toArray, List.map_cons, List.map_nil]); first | done | (rw [show (z0.take (d1 : Int).toNat).length = d1.toNat from (by rw [List.length_take]; have h_ : (d1 : Int) ≤ (z0.length : Int) := dt; omega)] <;> rfl) | rfl | (simp only [List.length_drop, List.length_take]; rfl)) ?_; (with_reducible refine (slices_Contains_int_int.calls k2 _ _ (z0.take (d1 : Int).toNat) (rd z0 d1) true _ ?side1 ?side2 A30.out).mono ?_); (case side1 => exact cb ka1 HB); (case side2 => exact ma1.out); rintro e w' ⟨rfl, ⟨nd, rfl⟩⟩; refine ⟨_, rfl, ?_⟩))
        go_ret
        exact ⟨rx, bl⟩
       ·replace c31 := Bool.eq_false_iff.mpr c31
        subst c31
        rw [if_neg nf] at H
        have H' := mk H
        clear H
        have v8 : 0 ≤ (d1 : Int) := dt
        have s8 : d1 < (z0.length : Int) := dt
        obtain ⟨j8, ja4, o1⟩ := Kd.at_int a7.out d1 v8 s8
        cases ja4
        replace o1 := (HB.out.cell (World.block_lt_of_cell? w _ o1)).trans o1
        replace v8 := eq_true v8
        replace s8 := eq_true s8
        obtain ⟨za0, ya0, va0, aa0, z9, v9⟩ := bz3 d0
        obtain ⟨sa7, ga2, _, ya1, _⟩ := info_parts info3
        obtain ⟨va5, hA35, hC35⟩ := print_take_of (P := Try.prog) (Value.int .i64) 0 22 3 .i64 Try.underlying22 ga2 ya1 (some j8) j2 z0 d1 dt dt o8.out
        have ka1 := mk (Kd.C_of_reads (h1 := fun _ => rfl) (hA35 _ (Kd.reads_of_C a7.out)))
        have ma1 := mk hC35
        clear hA35 hC35 ga2 ya1
        go_wp2_with (first | ((with_reducible refine gate_callee (f := 49) rfl ?_); refine goesL_ (some 47) rfl rfl Try.func49 (by kernel_rfl) rfl #[.slice (some j8) (z0.take (d1 : Int).toNat).length j2, .int .i64 (rd z0 d1)] rfl (by (try simp only [List.map_toArray, List.map_cons, List.map_nil]); first | done | (rw [show (z0.take (d1 : Int).toNat).length = d1.toNat from (by rw [List.length_take]; have h_ : (d1 : Int) ≤ (z0.length : Int) := dt; omega)] <;> rfl) | rfl | (simp only [List.length_drop, List.length_take]; rfl)) ?_; (with_reducible refine (slices_Contains_int_int.calls k2 _ _ (z0.take (d1 : Int).toNat) (rd z0 d1) false _ ?side1 ?side2 A30.out).mono ?_); (case side1 => exact cb ka1 HB); (case side2 => exact ma1.out); rintro e w' ⟨rfl, ⟨nd, rfl⟩⟩; refine ⟨_, rfl, ?_⟩))
        go_roundg k2
        case measure => have := HJ1.out; have := HK2.out; omega
        case rel => exact ⟨(wrap64 (d1 + 1)), (by first | rfl | (simp; done) | (simp [*]; done)), H', ⟨by have := HJ1.out; have := HK2.out; omega⟩, ⟨ub d0.out⟩, ⟨bl⟩⟩
      ·have ka2 : decide (d1 < (z0.length : Int)) = false := decide_eq_false c25
       clear c25
       have H' := mk H
       clear H
       obtain ⟨sa0, qa0, oa0, s9, q9, o9⟩ := bz3 d0
       go_wp2
       go_loopg [52] k2 (fun kq v52 w' => ∃ (b0 : Int), v52 = .int .i64 b0 ∧ Aside0 (impl_IsCracker.l1 kq g0 (g0.length : Int) b0 b1 z0 g0 = some r) ∧ Aside0 (kq ≤ k2) ∧ Aside0 (w'.heap[m1]? = some (.cells #[(.slice o2 b1.length m2), (.slice a3 z0.length j2), (.slice qa1 g0.length z2)] 29 (0, 0))) ∧ Aside0 (Below w.heap.size w w'))
       case atStart => exact ⟨(0), (by first | rfl | (simp; done) | (simp [*]; done)), H', ⟨Nat.le_refl _⟩, ⟨ub d0.out⟩, ⟨bl⟩⟩
       case round =>
        clear H'
        try clear c1
        try clear p1
        try clear q1
        try clear hx1
        try clear c2
        try clear p2
        try clear c3
        try clear c4
        try clear c5
        try clear c6
        try clear z8
        try clear oa2
        try clear ma2
        try clear p6
        try clear c8
        try clear c19
        try clear p19
        try clear q19
        try clear ya7
        try clear c23
        try clear c25
        try clear ka2
        try clear c26
        try clear ga5
        try clear c27
        try clear da5
        try clear c28
        try clear ba5
        try clear c29
        try clear aa5
        try clear za4
        try clear c31
        try clear z6
        try clear v6
        try clear s6
        try clear q6
        try clear o6
        try clear m6
        try clear k6
        try clear j6
        try clear g6
        try clear d6
        try clear b6
        try clear a6
        try clear z5
        try clear v5
        try clear s5
        try clear q5
        try clear o5
        try clear m5
        try clear j5
        try clear g5
        try clear d5
        try clear d8
        try clear b8
        try clear a8
        try clear da1
        try clear ba1
        try clear aa1
        try clear za0
        try clear ya0
        try clear va0
        try clear sa0
        try clear qa0
        try clear oa0
        try clear z7
        try clear v7
        try clear s7
        try clear b5
        try clear a5
        try clear z4
        try clear v4
        try clear s4
        try clear q4
        try clear o4
        try clear m4
        try clear k4
        try clear j4
        try clear g4
        try clear d4
        try clear b4
        try clear a4
        try clear z3
        try clear v3
        try clear s3
        try clear q3
        try clear o3
        try clear m3
        try clear g3
        try clear q7
        try clear o7
        try clear m7
        try clear ga0
        try clear da0
        try clear ba0
        try clear aa0
        try clear z9
        try clear v9
        try clear s9
        try clear q9
        try clear o9
        try clear k7
        try clear j7
        try clear g7
        try clear o1
        try clear v8
        try clear p2
        try clear s8
        obtain ⟨b0, rfl, HA, HK3, d0, HB⟩ := hrel
        cases gk with
        | zero => exact absurd HA.out (by simp [impl_IsCracker.l1])
        | succ k3 =>
         have H := HA.out
         clear HA
         simp only [impl_IsCracker.l1] at H
         revert H; refine ci (fun c37 H => ?_) fun c37 H => ?_
         ·have ya4 : decide (b0 < (g0.length : Int)) = true := decide_eq_true c37
          clear c37
          revert H; refine ca fun c38 H => ?_
          have ka7 : decide (0 ≤ b0) = true := decide_eq_true c38
          clear c38
          revert H; refine ca fun c39 H => ?_
          have ja7 : decide (b0 < (g0.length : Int)) = true := decide_eq_true c39
          clear c39
          have ma5 := mk H
          clear H
          have da3 : 0 ≤ (b0 : Int) := dt
          have aa3 : b0 < (g0.length : Int) := dt
          obtain ⟨g1, ya6, d3, b3⟩ := at_T50 m8.out b0 da3 aa3
          cases ya6
          replace d3 := (HB.out.cell (World.block_lt_of_cell? w _ d3)).trans d3
          replace b3 := (HB.out.cell (World.block_lt_of_cell? w _ b3)).trans b3
          replace da3 := eq_true da3
          replace aa3 := eq_true aa3
          go_upto_region 12 with (first | ((with_reducible refine gate_dst (N := 6) rfl ?_); (try (refine gate_guard (by rfl) ?_; dsimp only)); refine bx 6 #[.int .i64 0, .int .i64 0] 50 ?_; intro k0 hg w41 hbox hb; have m0 := mk hbox; have oa7 := wg hg; replace HB := wh hb; have b2 := nl d0 hg; have z1 := nr d0 hg; replace d0 := wb d0 hb; clear hb hbox hg; have sa6 := z1.out; have ka6 := b2.out; obtain ⟨ba4, aa4, qa3, oa3⟩ := bz2 m0))
          (try simp only [Act.put, List.setIfInBounds_toArray, List.set_cons_zero, List.set_cons_succ])
          go_cut [101] (fun ba6 wc => ∃ (kq : Nat) (v2 : Bool), ba6 = .bool v2 ∧ Aside0 (impl_IsCracker.j3 kq g0 (g0.length : Int) b0 v2 b1 z0 g0 ((rd_T50 g0 b0).f0) ((rd_T50 g0 b0).f1) = some r) ∧ Aside0 (kq ≤ k3) ∧ Aside0 (wc.heap[m1]? = some (.cells #[(.slice o2 b1.length m2), (.slice a3 z0.length j2), (.slice (some g1) g0.length z2)] 29 (0, 0))) ∧ Aside0 (wc.heap[k0]? = some (.cells #[.int .i64 ((rd_T50 g0 b0).f0), .int .i64 ((rd_T50 g0 b0).f1)] 50 (0, 0))) ∧ Aside0 (Below w.heap.size w wc))
          case first =>
           have H := ma5.out
           clear ma5
           revert H; refine bo ?_; rintro va2 A44 H
           by_cases c45 : va2 = true
           ·subst c45
            rw [if_pos rfl] at H
            revert H; refine ci (fun c46 H => ?_) fun c46 H => ?_
            ·have g8 : decide (((rd_T50 g0 b0).f1) < 0) = true := decide_eq_true c46
             clear c46
             (first | rw [g8] | (simp only [i64_w, i32_w]; rw [g8]) | skip)
             have H' := mk H
             clear H
             try go_wp2
             have n0_ : Aside0 (((w41.setCell ⟨k0, 0, none⟩ (.int .i64 ((rd_T50 g0 b0).f0))).setCell ⟨k0, 1, none⟩ (.int .i64 ((rd_T50 g0 b0).f1))).heap[m1]? = some (.cells #[.slice o2 b1.length m2, .slice a3 z0.length j2, .slice (some g1) g0.length z2] 29 (0, 0))) := ⟨bq⟩
             have n1_ : Aside0 (((w41.setCell ⟨k0, 0, none⟩ (.int .i64 ((rd_T50 g0 b0).f0))).setCell ⟨k0, 1, none⟩ (.int .i64 ((rd_T50 g0 b0).f1))).heap[k0]? = some (.cells #[.int .i64 ((rd_T50 g0 b0).f0), .int .i64 ((rd_T50 g0 b0).f1)] 50 (0, 0))) := ⟨bq⟩
             have n2_ : Aside0 (Below w.heap.size w ((w41.setCell ⟨k0, 0, none⟩ (.int .i64 ((rd_T50 g0 b0).f0))).setCell ⟨k0, 1, none⟩ (.int .i64 ((rd_T50 g0 b0).f1)))) := ⟨bl⟩
             (try clear d0)
             (try clear m0)
             (try clear HB)
             generalize ((w41.setCell ⟨k0, 0, none⟩ (.int .i64 ((rd_T50 g0 b0).f0))).setCell ⟨k0, 1, none⟩ (.int .i64 ((rd_T50 g0 b0).f1))) = w47 at n0_ n1_ n2_ ⊢
             have d0 := n0_
             have m0 := n1_
             have HB := n2_
             clear n0_ n1_ n2_
             replace d0 := wd d0
             replace m0 := wd m0
             replace HB := mk (below_drew1 HB.out)
             refine start_ (n := 45) (S := fun w' => w'.cell? ⟨k0, 0, none⟩ = some (.int .i64 ((rd_T50 g0 b0).f0)) ∧ w'.cell? ⟨k0, 1, none⟩ = some (.int .i64 ((rd_T50 g0 b0).f1))) (ds := []) #[F_, F_, F_, F_, F_, F_, F_, F_, F_, F_, F_, F_, F_, F_, F_, F_, F_, F_, F_, F_, F_, F_, F_, F_, F_, F_, F_, F_, F_, F_, F_, F_, F_, F_, F_, F_, F_, F_, F_, F_, F_, F_, F_, F_, F_] (by kernel_rfl) rfl rfl ⟨bc m0 0, bc m0 1⟩ (fun hHeld => ?_); refine with_tabW impl_IsCracker.tab12 impl_IsCracker.bits12 (fun HT_ HW_ => ?_)
             generalize w47.drew = w48 at d0 m0 HB hHeld ⊢
             refine pu 0 57 (tf 1 44) ?_
             refine tk 1 58 (tf 2 43) hHeld ?_
             refine on 2 59 (tf 3 42) (fun K hK => ?_)
             refine gs Try.func50 #[.int .i64 ((rd_T50 g0 b0).f0)] ?_
             with_reducible refine (impl_bound.calls ((rd_T50 g0 b0).f0) true _ A44.out).mono ?_
             rintro e w' ⟨rfl, ⟨nd, rfl⟩⟩
             refine ⟨_, rfl, ?_⟩
             refine hK.out _ _ ⟨bc m0 0, bc m0 1⟩ (fun hHeld => ?_)
             clear hK K
             refine nm 59 ?_
             refine pu 3 60 (tf 4 41) ?_
             refine pu 4 61 (tf 5 40) ?_
             refine pu 5 62 (tf 6 39) ?_
             refine tk 6 63 (tf 7 38) hHeld ?_
             refine pu 7 64 (tf 8 37) ?_
             refine pu 8 65 (tf 9 36) ?_
             refine pu 9 66 (tf 10 35) ?_
             refine pn 10 67 (tf 11 34) ?_
             refine pn 11 68 (tf 12 33) ?_
             refine pn 12 69 (tf 13 32) ?_
             refine pn 13 70 (tf 14 31) ?_
             refine pn 14 71 (tf 15 30) ?_
             refine pn 15 72 (tf 16 29) ?_
             refine pu 16 73 (tf 17 28) ?_
             refine pu 17 74 (tf 18 27) ?_
             refine pn 18 75 (tf 19 26) ?_
             refine pn 19 76 (tf 20 25) ?_
             refine pn 20 77 (tf 21 24) ?_
             refine pn 21 78 (tf 22 23) ?_
             refine pn 22 79 (tf 23 22) ?_
             refine pn 23 80 (tf 24 21) ?_
             refine pn 24 81 (tf 25 20) ?_
             refine pn 25 82 (tf 26 19) ?_
             refine pn 26 83 (tf 27 18) ?_
             refine pn 27 84 (tf 28 17) ?_
             refine pn 28 85 (tf 29 16) ?_
             refine pn 29 86 (tf 30 15) ?_
             refine pn 30 87 (tf 31 14) ?_
             refine pn 31 88 (tf 32 13) ?_
             refine pn 32 89 (tf 33 12) ?_
             refine pn 33 90 (tf 34 11) ?_
             refine pn 34 91 (tf 35 10) ?_
             refine pn 35 92 (tf 36 9) ?_
             refine pn 36 93 (tf 37 8) ?_
             refine pn 37 94 (tf 38 7) ?_
             refine pn 38 95 (tf 39 6) ?_
             refine pn 39 96 (tf 40 5) ?_
             refine pn 40 97 (tf 41 4) ?_
             refine pn 41 98 (tf 42 3) ?_
             refine pn 42 99 (tf 43 2) ?_
             refine pn 43 100 (tf 44 1) ?_
             refine pu 44 101 (tf 45 0) ?_
             refine done_ (done_of HT_.out (by kernel_rfl)) ?_
             try go_wp2
             go_meet
             case rel => exact ⟨_, (true), (by first | rfl | (simp; done) | (simp [*]; done)), H', ⟨by have := HJ1.out; have := HK2.out; have := HK3.out; first | omega | exact Nat.le_refl _⟩, ⟨ub d0.out⟩, ⟨ub m0.out⟩, ⟨bl⟩⟩
            ·have g8 : decide (((rd_T50 g0 b0).f1) < 0) = false := decide_eq_false c46
             clear c46
             (first | rw [g8] | (simp only [i64_w, i32_w]; rw [g8]) | skip)
             revert H; refine ci (fun c49 H => ?_) fun c49 H => ?_
             ·have va4 : decide ((b1.length : Int) < ((rd_T50 g0 b0).f1)) = true := decide_eq_true c49
              clear c49
              have H' := mk H
              clear H
              try go_wp2
              have n0_ : Aside0 (((w41.setCell ⟨k0, 0, none⟩ (.int .i64 ((rd_T50 g0 b0).f0))).setCell ⟨k0, 1, none⟩ (.int .i64 ((rd_T50 g0 b0).f1))).heap[m1]? = some (.cells #[.slice o2 b1.length m2, .slice a3 z0.length j2, .slice (some g1) g0.length z2] 29 (0, 0))) := ⟨bq⟩
              have n1_ : Aside0 (((w41.setCell ⟨k0, 0, none⟩ (.int .i64 ((rd_T50 g0 b0).f0))).setCell ⟨k0, 1, none⟩ (.int .i64 ((rd_T50 g0 b0).f1))).heap[k0]? = some (.cells #[.int .i64 ((rd_T50 g0 b0).f0), .int .i64 ((rd_T50 g0 b0).f1)] 50 (0, 0))) := ⟨bq⟩
              have n2_ : Aside0 (Below w.heap.size w ((w41.setCell ⟨k0, 0, none⟩ (.int .i64 ((rd_T50 g0 b0).f0))).setCell ⟨k0, 1, none⟩ (.int .i64 ((rd_T50 g0 b0).f1)))) := ⟨bl⟩
              (try clear d0)
              (try clear m0)
              (try clear HB)
              generalize ((w41.setCell ⟨k0, 0, none⟩ (.int .i64 ((rd_T50 g0 b0).f0))).setCell ⟨k0, 1, none⟩ (.int .i64 ((rd_T50 g0 b0).f1))) = w50 at n0_ n1_ n2_ ⊢
              have d0 := n0_
              have m0 := n1_
              have HB := n2_
              clear n0_ n1_ n2_
              replace d0 := wd d0
              replace m0 := wd m0
              replace HB := mk (below_drew1 HB.out)
              refine start_ (n := 45) (S := fun w' => w'.cell? ⟨k0, 0, none⟩ = some (.int .i64 ((rd_T50 g0 b0).f0)) ∧ w'.cell? ⟨k0, 1, none⟩ = some (.int .i64 ((rd_T50 g0 b0).f1)) ∧ w'.cell? ⟨m1, 0, none⟩ = some (.slice o2 b1.length m2) ∧ w'.cell? ⟨m1, 1, none⟩ = some (.slice a3 z0.length j2) ∧ w'.cell? ⟨m1, 2, none⟩ = some (.slice (some g1) g0.length z2)) (ds := []) #[F_, F_, F_, F_, F_, F_, F_, F_, F_, F_, F_, F_, F_, F_, F_, F_, F_, F_, F_, F_, F_, F_, F_, F_, F_, F_, F_, F_, F_, F_, F_, F_, F_, F_, F_, F_, F_, F_, F_, F_, F_, F_, F_, F_, F_] (by kernel_rfl) rfl rfl ⟨bc m0 0, bc m0 1, bc d0 0, bc d0 1, bc d0 2⟩ (fun hHeld => ?_); refine with_tabW impl_IsCracker.tab12 impl_IsCracker.bits12 (fun HT_ HW_ => ?_)
              generalize w50.drew = w51 at d0 m0 HB hHeld ⊢
              refine pu 0 57 (tf 1 44) ?_
              refine tk 1 58 (tf 2 43) hHeld ?_
              refine on 2 59 (tf 3 42) (fun K hK => ?_)
              refine gs Try.func50 #[.int .i64 ((rd_T50 g0 b0).f0)] ?_
              with_reducible refine (impl_bound.calls ((rd_T50 g0 b0).f0) true _ A44.out).mono ?_
              rintro e w' ⟨rfl, ⟨nd, rfl⟩⟩
              refine ⟨_, rfl, ?_⟩
              refine hK.out _ _ ⟨bc m0 0, bc m0 1, bc d0 0, bc d0 1, bc d0 2⟩ (fun hHeld => ?_)
              clear hK K
              refine nm 59 ?_
              refine pu 3 60 (tf 4 41) ?_
              refine pu 4 61 (tf 5 40) ?_
              refine pu 5 62 (tf 6 39) ?_
              refine tk 6 63 (tf 7 38) hHeld ?_
              refine pu 7 64 (tf 8 37) ?_
              refine pu 8 65 (tf 9 36) ?_
              refine pu 9 66 (tf 10 35) ?_
              refine pu 10 67 (tf 11 34) ?_
              refine pu 12 69 #[T_,T_,T_,T_,T_,T_,T_,T_,T_,T_,T_,F_,T_,F_,F_,F_,F_,F_,F_,F_,F_,F_,F_,F_,F_,F_,F_,F_,F_,F_,F_,F_,F_,F_,F_,F_,F_,F_,F_,F_,F_,F_,F_,F_,F_] ?_
              refine tk 11 68 (tf 13 32) hHeld ?_
              refine tk 13 70 (tf 14 31) hHeld ?_
              refine pu 14 71 (tf 15 30) ?_
              refine pu 15 72 (tf 16 29) ?_
              refine pu 16 73 (tf 17 28) ?_
              refine pu 17 74 (tf 18 27) ?_
              refine pn 18 75 (tf 19 26) ?_
              refine pn 19 76 (tf 20 25) ?_
              refine pn 20 77 (tf 21 24) ?_
              refine pn 21 78 (tf 22 23) ?_
              refine pn 22 79 (tf 23 22) ?_
              refine pn 23 80 (tf 24 21) ?_
              refine pn 24 81 (tf 25 20) ?_
              refine pn 25 82 (tf 26 19) ?_
              refine pn 26 83 (tf 27 18) ?_
              refine pn 27 84 (tf 28 17) ?_
              refine pn 28 85 (tf 29 16) ?_
              refine pn 29 86 (tf 30 15) ?_
              refine pn 30 87 (tf 31 14) ?_
              refine pn 31 88 (tf 32 13) ?_
              refine pn 32 89 (tf 33 12) ?_
              refine pn 33 90 (tf 34 11) ?_
              refine pn 34 91 (tf 35 10) ?_
              refine pn 35 92 (tf 36 9) ?_
              refine pn 36 93 (tf 37 8) ?_
              refine pn 37 94 (tf 38 7) ?_
              refine pn 38 95 (tf 39 6) ?_
              refine pn 39 96 (tf 40 5) ?_
              refine pn 40 97 (tf 41 4) ?_
              refine pn 41 98 (tf 42 3) ?_
              refine pn 42 99 (tf 43 2) ?_
              refine pn 43 100 (tf 44 1) ?_
              refine pu 44 101 (tf 45 0) ?_
              refine done_ (done_of HT_.out (by kernel_rfl)) ?_
              try go_wp2
              go_meet
              case rel => exact ⟨_, (true), (by first | rfl | (simp; done) | (simp [*]; done)), H', ⟨by have := HJ1.out; have := HK2.out; have := HK3.out; first | omega | exact Nat.le_refl _⟩, ⟨ub d0.out⟩, ⟨ub m0.out⟩, ⟨bl⟩⟩
             ·have va4 : decide ((b1.length : Int) < ((rd_T50 g0 b0).f1)) = false := decide_eq_false c49
              clear c49
              revert H; refine ci (fun c52 H => ?_) fun c52 H => ?_
              ·have ga1 : decide (0 < b0) = true := decide_eq_true c52
               clear c52
               obtain ⟨s1, d7⟩ : ∃ j_ : Int, (wrap64 (b0 - 1)) = j_ := ⟨_, rfl⟩
               replace H : (if 0 ≤ (s1) then (if (s1) < (g0.length : Int) then (if ((rd_T50 g0 b0).f0) ≤ ((rd_T50 g0 (s1)).f0) then (impl_IsCracker.j3 k3 g0 (g0.length : Int) b0 true b1 z0 g0 ((rd_T50 g0 b0).f0) ((rd_T50 g0 b0).f1)) else (impl_IsCracker.j3 k3 g0 (g0.length : Int) b0 (decide (((rd_T50 g0 b0).f1) < ((rd_T50 g0 (s1)).f1))) b1 z0 g0 ((rd_T50 g0 b0).f0) ((rd_T50 g0 b0).f1))) else (none)) else (none)) = some r := by first | (rw [d7] at H; exact H) | (simp only [d7] at H ⊢; exact H)
               (try rw [d7] at A44)
               have sa5 : (IntKind.i64.wrap (b0 - 1)) = s1 := (i64_w _).trans d7
               revert H; refine ca fun c54 H => ?_
               have ga7 : decide (0 ≤ (s1)) = true := decide_eq_true c54
               clear c54
               revert H; refine ca fun c55 H => ?_
               have da7 : decide ((s1) < (g0.length : Int)) = true := decide_eq_true c55
               clear c55
               revert H; refine ci (fun c56 H => ?_) fun c56 H => ?_
               ·have sa4 : decide (((rd_T50 g0 b0).f0) ≤ ((rd_T50 g0 (s1)).f0)) = true := decide_eq_true c56
                clear c56
                have H' := mk H
                clear H
                try go_wp2
                have n0_ : Aside0 (((w41.setCell ⟨k0, 0, none⟩ (.int .i64 ((rd_T50 g0 b0).f0))).setCell ⟨k0, 1, none⟩ (.int .i64 ((rd_T50 g0 b0).f1))).heap[m1]? = some (.cells #[.slice o2 b1.length m2, .slice a3 z0.length j2, .slice (some g1) g0.length z2] 29 (0, 0))) := ⟨bq⟩
                have n1_ : Aside0 (((w41.setCell ⟨k0, 0, none⟩ (.int .i64 ((rd_T50 g0 b0).f0))).setCell ⟨k0, 1, none⟩ (.int .i64 ((rd_T50 g0 b0).f1))).heap[k0]? = some (.cells #[.int .i64 ((rd_T50 g0 b0).f0), .int .i64 ((rd_T50 g0 b0).f1)] 50 (0, 0))) := ⟨bq⟩
                have n2_ : Aside0 (Below w.heap.size w ((w41.setCell ⟨k0, 0, none⟩ (.int .i64 ((rd_T50 g0 b0).f0))).setCell ⟨k0, 1, none⟩ (.int .i64 ((rd_T50 g0 b0).f1)))) := ⟨bl⟩
                (try clear d0)
                (try clear m0)
                (try clear HB)
                generalize ((w41.setCell ⟨k0, 0, none⟩ (.int .i64 ((rd_T50 g0 b0).f0))).setCell ⟨k0, 1, none⟩ (.int .i64 ((rd_T50 g0 b0).f1))) = w57 at n0_ n1_ n2_ ⊢
                have d0 := n0_
                have m0 := n1_
                have HB := n2_
                clear n0_ n1_ n2_
                replace d0 := wd d0
                replace m0 := wd m0
                replace HB := mk (below_drew1 HB.out)
                have g9 : 0 ≤ ((s1) : Int) := dt
                have b9 : (s1) < (g0.length : Int) := dt
                obtain ⟨ja1, ga4, k1, j1⟩ := at_T50 m8.out (s1) g9 b9
                have hw196_1 := j1
                have hw196_0 := k1
                obtain rfl : g1 = ja1 := (by injection ga4)
                replace k1 := (HB.out.cell (World.block_lt_of_cell? w _ k1)).trans k1
                replace j1 := (HB.out.cell (World.block_lt_of_cell? w _ j1)).trans j1
                replace g9 := eq_true g9
                replace b9 := eq_true b9
                refine start_ (n := 45) (S := fun w' => w'.cell? ⟨k0, 0, none⟩ = some (.int .i64 ((rd_T50 g0 b0).f0)) ∧ w'.cell? ⟨k0, 1, none⟩ = some (.int .i64 ((rd_T50 g0 b0).f1)) ∧ w'.cell? ⟨m1, 0, none⟩ = some (.slice o2 b1.length m2) ∧ w'.cell? ⟨m1, 1, none⟩ = some (.slice a3 z0.length j2) ∧ w'.cell? ⟨m1, 2, none⟩ = some (.slice (some g1) g0.length z2) ∧ w'.cell? (g1.add (((s1)).toNat * 2)) = some (.int .i64 ((rd_T50 g0 (s1)).f0)) ∧ w'.cell? ⟨(g1.add (((s1)).toNat * 2)).block, (g1.add (((s1)).toNat * 2)).off + 1, none⟩ = some (.int .i64 ((rd_T50 g0 (s1)).f1))) (ds := []) #[F_, F_, F_, F_, F_, F_, F_, F_, F_, F_, F_, F_, F_, F_, F_, F_, F_, F_, F_, F_, F_, F_, F_, F_, F_, F_, F_, F_, F_, F_, F_, F_, F_, F_, F_, F_, F_, F_, F_, F_, F_, F_, F_, F_, F_] (by kernel_rfl) rfl rfl ⟨bc m0 0, bc m0 1, bc d0 0, bc d0 1, bc d0 2, ((HB.out.cell (World.block_lt_of_cell? w _ hw196_0)).trans hw196_0), ((HB.out.cell (World.block_lt_of_cell? w _ hw196_1)).trans hw196_1)⟩ (fun hHeld => ?_); refine with_tabW impl_IsCracker.tab12 impl_IsCracker.bits12 (fun HT_ HW_ => ?_)
                generalize w57.drew = w58 at d0 m0 HB k1 j1 hHeld ⊢
                refine pu 0 57 (tf 1 44) ?_
                refine tk 1 58 (tf 2 43) hHeld ?_
                refine on 2 59 (tf 3 42) (fun K hK => ?_)
                refine gs Try.func50 #[.int .i64 ((rd_T50 g0 b0).f0)] ?_
                with_reducible refine (impl_bound.calls ((rd_T50 g0 b0).f0) true _ A44.out).mono ?_
                rintro e w' ⟨rfl, ⟨nd, rfl⟩⟩
                refine ⟨_, rfl, ?_⟩
                refine hK.out _ _ ⟨bc m0 0, bc m0 1, bc d0 0, bc d0 1, bc d0 2, ((HB.out.cell (World.block_lt_of_cell? w _ hw196_0)).trans hw196_0), ((HB.out.cell (World.block_lt_of_cell? w _ hw196_1)).trans hw196_1)⟩ (fun hHeld => ?_)
                clear hK K
                refine nm 59 ?_
                refine pu 3 60 (tf 4 41) ?_
                refine pu 4 61 (tf 5 40) ?_
                refine pu 5 62 (tf 6 39) ?_
                refine tk 6 63 (tf 7 38) hHeld ?_
                refine pu 7 64 (tf 8 37) ?_
                refine pu 8 65 (tf 9 36) ?_
                refine pu 9 66 (tf 10 35) ?_
                refine pu 10 67 (tf 11 34) ?_
                refine pu 12 69 #[T_,T_,T_,T_,T_,T_,T_,T_,T_,T_,T_,F_,T_,F_,F_,F_,F_,F_,F_,F_,F_,F_,F_,F_,F_,F_,F_,F_,F_,F_,F_,F_,F_,F_,F_,F_,F_,F_,F_,F_,F_,F_,F_,F_,F_] ?_
                refine tk 11 68 (tf 13 32) hHeld ?_
                refine tk 13 70 (tf 14 31) hHeld ?_
                refine pu 14 71 (tf 15 30) ?_
                refine pu 15 72 (tf 16 29) ?_
                refine pu 16 73 (tf 17 28) ?_
                refine pu 17 74 (tf 18 27) ?_
                refine pu 18 75 (tf 19 26) ?_
                refine pu 19 76 (tf 20 25) ?_
                refine pu 20 77 (tf 21 24) ?_
                refine pu 21 78 (tf 22 23) ?_
                refine pu 23 80 #[T_,T_,T_,T_,T_,T_,T_,T_,T_,T_,T_,T_,T_,T_,T_,T_,T_,T_,T_,T_,T_,T_,F_,T_,F_,F_,F_,F_,F_,F_,F_,F_,F_,F_,F_,F_,F_,F_,F_,F_,F_,F_,F_,F_,F_] ?_
                refine pu 25 82 #[T_,T_,T_,T_,T_,T_,T_,T_,T_,T_,T_,T_,T_,T_,T_,T_,T_,T_,T_,T_,T_,T_,F_,T_,F_,T_,F_,F_,F_,F_,F_,F_,F_,F_,F_,F_,F_,F_,F_,F_,F_,F_,F_,F_,F_] ?_
                refine pu 26 83 #[T_,T_,T_,T_,T_,T_,T_,T_,T_,T_,T_,T_,T_,T_,T_,T_,T_,T_,T_,T_,T_,T_,F_,T_,F_,T_,T_,F_,F_,F_,F_,F_,F_,F_,F_,F_,F_,F_,F_,F_,F_,F_,F_,F_,F_] ?_
                refine tk 22 79 #[T_,T_,T_,T_,T_,T_,T_,T_,T_,T_,T_,T_,T_,T_,T_,T_,T_,T_,T_,T_,T_,T_,T_,T_,F_,T_,T_,F_,F_,F_,F_,F_,F_,F_,F_,F_,F_,F_,F_,F_,F_,F_,F_,F_,F_] hHeld ?_
                refine tk 24 81 (tf 27 18) hHeld ?_
                refine pu 27 84 (tf 28 17) ?_
                refine pu 28 85 (tf 29 16) ?_
                refine tk 29 86 (tf 30 15) hHeld ?_
                refine pu 30 87 (tf 31 14) ?_
                refine pu 31 88 (tf 32 13) ?_
                refine pn 32 89 (tf 33 12) ?_
                refine pn 33 90 (tf 34 11) ?_
                refine pn 34 91 (tf 35 10) ?_
                refine pn 35 92 (tf 36 9) ?_
                refine pn 36 93 (tf 37 8) ?_
                refine pn 37 94 (tf 38 7) ?_
                refine pn 38 95 (tf 39 6) ?_
                refine pn 39 96 (tf 40 5) ?_
                refine pn 40 97 (tf 41 4) ?_
                refine pn 41 98 (tf 42 3) ?_
                refine pu 42 99 (tf 43 2) ?_
                refine pu 43 100 (tf 44 1) ?_
                refine pu 44 101 (tf 45 0) ?_
                refine done_ (done_of HT_.out (by kernel_rfl)) ?_
                try go_wp2
                go_meet
                case rel => exact ⟨_, (true), (by first | rfl | (simp; done) | (simp [*]; done)), H', ⟨by have := HJ1.out; have := HK2.out; have := HK3.out; first | omega | exact Nat.le_refl _⟩, ⟨ub d0.out⟩, ⟨ub m0.out⟩, ⟨bl⟩⟩
               ·have sa4 : decide (((rd_T50 g0 b0).f0) ≤ ((rd_T50 g0 (s1)).f0)) = false := decide_eq_false c56
                clear c56
                have H' := mk H
                clear H
                try go_wp2
                have n0_ : Aside0 (((w41.setCell ⟨k0, 0, none⟩ (.int .i64 ((rd_T50 g0 b0).f0))).setCell ⟨k0, 1, none⟩ (.int .i64 ((rd_T50 g0 b0).f1))).heap[m1]? = some (.cells #[.slice o2 b1.length m2, .slice a3 z0.length j2, .slice (some g1) g0.length z2] 29 (0, 0))) := ⟨bq⟩
                have n1_ : Aside0 (((w41.setCell ⟨k0, 0, none⟩ (.int .i64 ((rd_T50 g0 b0).f0))).setCell ⟨k0, 1, none⟩ (.int .i64 ((rd_T50 g0 b0).f1))).heap[k0]? = some (.cells #[.int .i64 ((rd_T50 g0 b0).f0), .int .i64 ((rd_T50 g0 b0).f1)] 50 (0, 0))) := ⟨bq⟩
                have n2_ : Aside0 (Below w.heap.size w ((w41.setCell ⟨k0, 0, none⟩ (.int .i64 ((rd_T50 g0 b0).f0))).setCell ⟨k0, 1, none⟩ (.int .i64 ((rd_T50 g0 b0).f1)))) := ⟨bl⟩
                (try clear d0)
                (try clear m0)
                (try clear HB)
                generalize ((w41.setCell ⟨k0, 0, none⟩ (.int .i64 ((rd_T50 g0 b0).f0))).setCell ⟨k0, 1, none⟩ (.int .i64 ((rd_T50 g0 b0).f1))) = w59 at n0_ n1_ n2_ ⊢
                have d0 := n0_
                have m0 := n1_
                have HB := n2_
                clear n0_ n1_ n2_
                replace d0 := wd d0
                replace m0 := wd m0
                replace HB := mk (below_drew1 HB.out)
                have g9 : 0 ≤ ((s1) : Int) := dt
                have b9 : (s1) < (g0.length : Int) := dt
                obtain ⟨ja1, ga4, k1, j1⟩ := at_T50 m8.out (s1) g9 b9
                have hw196_1 := j1
                have hw196_0 := k1
                obtain rfl : g1 = ja1 := (by injection ga4)
                replace k1 := (HB.out.cell (World.block_lt_of_cell? w _ k1)).trans k1
                replace j1 := (HB.out.cell (World.block_lt_of_cell? w _ j1)).trans j1
                replace g9 := eq_true g9
                replace b9 := eq_true b9
                have ba3 : 0 ≤ ((s1) : Int) := dt
                have za2 : (s1) < (g0.length : Int) := dt
                obtain ⟨ka5, va6, g2, d2⟩ := at_T50 m8.out (s1) ba3 za2
                have hw197_1 := d2
                have hw197_0 := g2
                obtain rfl : g1 = ka5 := (by injection va6)
                replace g2 := (HB.out.cell (World.block_lt_of_cell? w _ g2)).trans g2
                replace d2 := (HB.out.cell (World.block_lt_of_cell? w _ d2)).trans d2
                replace ba3 := eq_true ba3
                replace za2 := eq_true za2
                refine start_ (n := 45) (S := fun w' => w'.cell? ⟨k0, 0, none⟩ = some (.int .i64 ((rd_T50 g0 b0).f0)) ∧ w'.cell? ⟨k0, 1, none⟩ = some (.int .i64 ((rd_T50 g0 b0).f1)) ∧ w'.cell? ⟨m1, 0, none⟩ = some (.slice o2 b1.length m2) ∧ w'.cell? ⟨m1, 1, none⟩ = some (.slice a3 z0.length j2) ∧ w'.cell? ⟨m1, 2, none⟩ = some (.slice (some g1) g0.length z2) ∧ w'.cell? (g1.add (((s1)).toNat * 2)) = some (.int .i64 ((rd_T50 g0 (s1)).f0)) ∧ w'.cell? ⟨(g1.add (((s1)).toNat * 2)).block, (g1.add (((s1)).toNat * 2)).off + 1, none⟩ = some (.int .i64 ((rd_T50 g0 (s1)).f1)) ∧ w'.cell? (g1.add (((s1)).toNat * 2)) = some (.int .i64 ((rd_T50 g0 (s1)).f0)) ∧ w'.cell? ⟨(g1.add (((s1)).toNat * 2)).block, (g1.add (((s1)).toNat * 2)).off + 1, none⟩ = some (.int .i64 ((rd_T50 g0 (s1)).f1))) (ds := []) #[F_, F_, F_, F_, F_, F_, F_, F_, F_, F_, F_, F_, F_, F_, F_, F_, F_, F_, F_, F_, F_, F_, F_, F_, F_, F_, F_, F_, F_, F_, F_, F_, F_, F_, F_, F_, F_, F_, F_, F_, F_, F_, F_, F_, F_] (by kernel_rfl) rfl rfl ⟨bc m0 0, bc m0 1, bc d0 0, bc d0 1, bc d0 2, ((HB.out.cell (World.block_lt_of_cell? w _ hw196_0)).trans hw196_0), ((HB.out.cell (World.block_lt_of_cell? w _ hw196_1)).trans hw196_1), ((HB.out.cell (World.block_lt_of_cell? w _ hw197_0)).trans hw197_0), ((HB.out.cell (World.block_lt_of_cell? w _ hw197_1)).trans hw197_1)⟩ (fun hHeld => ?_); refine with_tabW impl_IsCracker.tab12 impl_IsCracker.bits12 (fun HT_ HW_ => ?_)
                generalize w59.drew = w60 at d0 m0 HB k1 j1 g2 d2 hHeld ⊢
                refine pu 0 57 (tf 1 44) ?_
                refine tk 1 58 (tf 2 43) hHeld ?_
                refine on 2 59 (tf 3 42) (fun K hK => ?_)
                refine gs Try.func50 #[.int .i64 ((rd_T50 g0 b0).f0)] ?_
                with_reducible refine (impl_bound.calls ((rd_T50 g0 b0).f0) true _ A44.out).mono ?_
                rintro e w' ⟨rfl, ⟨nd, rfl⟩⟩
                refine ⟨_, rfl, ?_⟩
                refine hK.out _ _ ⟨bc m0 0, bc m0 1, bc d0 0, bc d0 1, bc d0 2, ((HB.out.cell (World.block_lt_of_cell? w _ hw196_0)).trans hw196_0), ((HB.out.cell (World.block_lt_of_cell? w _ hw196_1)).trans hw196_1), ((HB.out.cell (World.block_lt_of_cell? w _ hw197_0)).trans hw197_0), ((HB.out.cell (World.block_lt_of_cell? w _ hw197_1)).trans hw197_1)⟩ (fun hHeld => ?_)
                clear hK K
                refine nm 59 ?_
                refine pu 3 60 (tf 4 41) ?_
                refine pu 4 61 (tf 5 40) ?_
                refine pu 5 62 (tf 6 39) ?_
                refine tk 6 63 (tf 7 38) hHeld ?_
                refine pu 7 64 (tf 8 37) ?_
                refine pu 8 65 (tf 9 36) ?_
                refine pu 9 66 (tf 10 35) ?_
                refine pu 10 67 (tf 11 34) ?_
                refine pu 12 69 #[T_,T_,T_,T_,T_,T_,T_,T_,T_,T_,T_,F_,T_,F_,F_,F_,F_,F_,F_,F_,F_,F_,F_,F_,F_,F_,F_,F_,F_,F_,F_,F_,F_,F_,F_,F_,F_,F_,F_,F_,F_,F_,F_,F_,F_] ?_
                refine tk 11 68 (tf 13 32) hHeld ?_
                refine tk 13 70 (tf 14 31) hHeld ?_
                refine pu 14 71 (tf 15 30) ?_
                refine pu 15 72 (tf 16 29) ?_
                refine pu 16 73 (tf 17 28) ?_
                refine pu 17 74 (tf 18 27) ?_
                refine pu 18 75 (tf 19 26) ?_
                refine pu 19 76 (tf 20 25) ?_
                refine pu 20 77 (tf 21 24) ?_
                refine pu 21 78 (tf 22 23) ?_
                refine pu 23 80 #[T_,T_,T_,T_,T_,T_,T_,T_,T_,T_,T_,T_,T_,T_,T_,T_,T_,T_,T_,T_,T_,T_,F_,T_,F_,F_,F_,F_,F_,F_,F_,F_,F_,F_,F_,F_,F_,F_,F_,F_,F_,F_,F_,F_,F_] ?_
                refine pu 25 82 #[T_,T_,T_,T_,T_,T_,T_,T_,T_,T_,T_,T_,T_,T_,T_,T_,T_,T_,T_,T_,T_,T_,F_,T_,F_,T_,F_,F_,F_,F_,F_,F_,F_,F_,F_,F_,F_,F_,F_,F_,F_,F_,F_,F_,F_] ?_
                refine pu 26 83 #[T_,T_,T_,T_,T_,T_,T_,T_,T_,T_,T_,T_,T_,T_,T_,T_,T_,T_,T_,T_,T_,T_,F_,T_,F_,T_,T_,F_,F_,F_,F_,F_,F_,F_,F_,F_,F_,F_,F_,F_,F_,F_,F_,F_,F_] ?_
                refine tk 22 79 #[T_,T_,T_,T_,T_,T_,T_,T_,T_,T_,T_,T_,T_,T_,T_,T_,T_,T_,T_,T_,T_,T_,T_,T_,F_,T_,T_,F_,F_,F_,F_,F_,F_,F_,F_,F_,F_,F_,F_,F_,F_,F_,F_,F_,F_] hHeld ?_
                refine tk 24 81 (tf 27 18) hHeld ?_
                refine pu 27 84 (tf 28 17) ?_
                refine pu 28 85 (tf 29 16) ?_
                refine tk 29 86 (tf 30 15) hHeld ?_
                refine pu 30 87 (tf 31 14) ?_
                refine pu 31 88 (tf 32 13) ?_
                refine pu 32 89 (tf 33 12) ?_
                refine pu 34 91 #[T_,T_,T_,T_,T_,T_,T_,T_,T_,T_,T_,T_,T_,T_,T_,T_,T_,T_,T_,T_,T_,T_,T_,T_,T_,T_,T_,T_,T_,T_,T_,T_,T_,F_,T_,F_,F_,F_,F_,F_,F_,F_,F_,F_,F_] ?_
                refine pu 36 93 #[T_,T_,T_,T_,T_,T_,T_,T_,T_,T_,T_,T_,T_,T_,T_,T_,T_,T_,T_,T_,T_,T_,T_,T_,T_,T_,T_,T_,T_,T_,T_,T_,T_,F_,T_,F_,T_,F_,F_,F_,F_,F_,F_,F_,F_] ?_
                refine pu 37 94 #[T_,T_,T_,T_,T_,T_,T_,T_,T_,T_,T_,T_,T_,T_,T_,T_,T_,T_,T_,T_,T_,T_,T_,T_,T_,T_,T_,T_,T_,T_,T_,T_,T_,F_,T_,F_,T_,T_,F_,F_,F_,F_,F_,F_,F_] ?_
                refine tk 33 90 #[T_,T_,T_,T_,T_,T_,T_,T_,T_,T_,T_,T_,T_,T_,T_,T_,T_,T_,T_,T_,T_,T_,T_,T_,T_,T_,T_,T_,T_,T_,T_,T_,T_,T_,T_,F_,T_,T_,F_,F_,F_,F_,F_,F_,F_] hHeld ?_
                refine tk 35 92 (tf 38 7) hHeld ?_
                refine pu 38 95 (tf 39 6) ?_
                refine pu 39 96 (tf 40 5) ?_
                refine tk 40 97 (tf 41 4) hHeld ?_
                refine pu 41 98 (tf 42 3) ?_
                refine pu 42 99 (tf 43 2) ?_
                refine pu 43 100 (tf 44 1) ?_
                refine pu 44 101 (tf 45 0) ?_
                refine done_ (done_of HT_.out (by kernel_rfl)) ?_
                try go_wp2
                go_meet
                case rel => exact ⟨_, (decide (((rd_T50 g0 b0).f1) < ((rd_T50 g0 (s1)).f1))), (by first | rfl | (simp; done) | (simp only [← d7] <;> (first | rfl | simp)) | (simp [*]; done)), H', ⟨by have := HJ1.out; have := HK2.out; have := HK3.out; first | omega | exact Nat.le_refl _⟩, ⟨ub d0.out⟩, ⟨ub m0.out⟩, ⟨bl⟩⟩
              ·have ga1 : decide (0 < b0) = false := decide_eq_false c52
               clear c52
               have H' := mk H
               clear H
               try go_wp2
               have n0_ : Aside0 (((w41.setCell ⟨k0, 0, none⟩ (.int .i64 ((rd_T50 g0 b0).f0))).setCell ⟨k0, 1, none⟩ (.int .i64 ((rd_T50 g0 b0).f1))).heap[m1]? = some (.cells #[.slice o2 b1.length m2, .slice a3 z0.length j2, .slice (some g1) g0.length z2] 29 (0, 0))) := ⟨bq⟩
               have n1_ : Aside0 (((w41.setCell ⟨k0, 0, none⟩ (.int .i64 ((rd_T50 g0 b0).f0))).setCell ⟨k0, 1, none⟩ (.int .i64 ((rd_T50 g0 b0).f1))).heap[k0]? = some (.cells #[.int .i64 ((rd_T50 g0 b0).f0), .int .i64 ((rd_T50 g0 b0).f1)] 50 (0, 0))) := ⟨bq⟩
               have n2_ : Aside0 (Below w.heap.size w ((w41.setCell ⟨k0, 0, none⟩ (.int .i64 ((rd_T50 g0 b0).f0))).setCell ⟨k0, 1, none⟩ (.int .i64 ((rd_T50 g0 b0).f1)))) := ⟨bl⟩
               (try clear d0)
               (try clear m0)
               (try clear HB)
               generalize ((w41.setCell ⟨k0, 0, none⟩ (.int .i64 ((rd_T50 g0 b0).f0))).setCell ⟨k0, 1, none⟩ (.int .i64 ((rd_T50 g0 b0).f1))) = w61 at n0_ n1_ n2_ ⊢
               have d0 := n0_
               have m0 := n1_
               have HB := n2_
               clear n0_ n1_ n2_
               replace d0 := wd d0
               replace m0 := wd m0
               replace HB := mk (below_drew1 HB.out)
               refine start_ (n := 45) (S := fun w' => w'.cell? ⟨k0, 0, none⟩ = some (.int .i64 ((rd_T50 g0 b0).f0)) ∧ w'.cell? ⟨k0, 1, none⟩ = some (.int .i64 ((rd_T50 g0 b0).f1)) ∧ w'.cell? ⟨m1, 0, none⟩ = some (.slice o2 b1.length m2) ∧ w'.cell? ⟨m1, 1, none⟩ = some (.slice a3 z0.length j2) ∧ w'.cell? ⟨m1, 2, none⟩ = some (.slice (some g1) g0.length z2)) (ds := []) #[F_, F_, F_, F_, F_, F_, F_, F_, F_, F_, F_, F_, F_, F_, F_, F_, F_, F_, F_, F_, F_, F_, F_, F_, F_, F_, F_, F_, F_, F_, F_, F_, F_, F_, F_, F_, F_, F_, F_, F_, F_, F_, F_, F_, F_] (by kernel_rfl) rfl rfl ⟨bc m0 0, bc m0 1, bc d0 0, bc d0 1, bc d0 2⟩ (fun hHeld => ?_); refine with_tabW impl_IsCracker.tab12 impl_IsCracker.bits12 (fun HT_ HW_ => ?_)
               generalize w61.drew = w62 at d0 m0 HB hHeld ⊢
               refine pu 0 57 (tf 1 44) ?_
               refine tk 1 58 (tf 2 43) hHeld ?_
               refine on 2 59 (tf 3 42) (fun K hK => ?_)
               refine gs Try.func50 #[.int .i64 ((rd_T50 g0 b0).f0)] ?_
               with_reducible refine (impl_bound.calls ((rd_T50 g0 b0).f0) true _ A44.out).mono ?_
               rintro e w' ⟨rfl, ⟨nd, rfl⟩⟩
               refine ⟨_, rfl, ?_⟩
               refine hK.out _ _ ⟨bc m0 0, bc m0 1, bc d0 0, bc d0 1, bc d0 2⟩ (fun hHeld => ?_)
               clear hK K
               refine nm 59 ?_
               refine pu 3 60 (tf 4 41) ?_
               refine pu 4 61 (tf 5 40) ?_
               refine pu 5 62 (tf 6 39) ?_
               refine tk 6 63 (tf 7 38) hHeld ?_
               refine pu 7 64 (tf 8 37) ?_
               refine pu 8 65 (tf 9 36) ?_
               refine pu 9 66 (tf 10 35) ?_
               refine pu 10 67 (tf 11 34) ?_
               refine pu 12 69 #[T_,T_,T_,T_,T_,T_,T_,T_,T_,T_,T_,F_,T_,F_,F_,F_,F_,F_,F_,F_,F_,F_,F_,F_,F_,F_,F_,F_,F_,F_,F_,F_,F_,F_,F_,F_,F_,F_,F_,F_,F_,F_,F_,F_,F_] ?_
               refine tk 11 68 (tf 13 32) hHeld ?_
               refine tk 13 70 (tf 14 31) hHeld ?_
               refine pu 14 71 (tf 15 30) ?_
               refine pu 15 72 (tf 16 29) ?_
               refine pu 16 73 (tf 17 28) ?_
               refine pu 17 74 (tf 18 27) ?_
               refine pu 18 75 (tf 19 26) ?_
               refine pu 19 76 (tf 20 25) ?_
               refine pu 20 77 (tf 21 24) ?_
               refine pn 21 78 (tf 22 23) ?_
               refine pn 22 79 (tf 23 22) ?_
               refine pn 23 80 (tf 24 21) ?_
               refine pn 24 81 (tf 25 20) ?_
               refine pn 25 82 (tf 26 19) ?_
               refine pn 26 83 (tf 27 18) ?_
               refine pn 27 84 (tf 28 17) ?_
               refine pn 28 85 (tf 29 16) ?_
               refine pn 29 86 (tf 30 15) ?_
               refine pn 30 87 (tf 31 14) ?_
               refine pn 31 88 (tf 32 13) ?_
               refine pn 32 89 (tf 33 12) ?_
               refine pn 33 90 (tf 34 11) ?_
               refine pn 34 91 (tf 35 10) ?_
               refine pn 35 92 (tf 36 9) ?_
               refine pn 36 93 (tf 37 8) ?_
               refine pn 37 94 (tf 38 7) ?_
               refine pn 38 95 (tf 39 6) ?_
               refine pn 39 96 (tf 40 5) ?_
               refine pn 40 97 (tf 41 4) ?_
               refine pn 41 98 (tf 42 3) ?_
               refine pn 42 99 (tf 43 2) ?_
               refine pu 43 100 (tf 44 1) ?_
               refine pu 44 101 (tf 45 0) ?_
               refine done_ (done_of HT_.out (by kernel_rfl)) ?_
               try go_wp2
               go_meet
               case rel => exact ⟨_, (false), (by first | rfl | (simp; done) | (simp [*]; done)), H', ⟨by have := HJ1.out; have := HK2.out; have := HK3.out; first | omega | exact Nat.le_refl _⟩, ⟨ub d0.out⟩, ⟨ub m0.out⟩, ⟨bl⟩⟩
           ·replace c45 := Bool.eq_false_iff.mpr c45
            subst c45
            rw [if_neg nf] at H
            have H' := mk H
            clear H
            try go_wp2
            have n0_ : Aside0 (((w41.setCell ⟨k0, 0, none⟩ (.int .i64 ((rd_T50 g0 b0).f0))).setCell ⟨k0, 1, none⟩ (.int .i64 ((rd_T50 g0 b0).f1))).heap[m1]? = some (.cells #[.slice o2 b1.length m2, .slice a3 z0.length j2, .slice (some g1) g0.length z2] 29 (0, 0))) := ⟨bq⟩
            have n1_ : Aside0 (((w41.setCell ⟨k0, 0, none⟩ (.int .i64 ((rd_T50 g0 b0).f0))).setCell ⟨k0, 1, none⟩ (.int .i64 ((rd_T50 g0 b0).f1))).heap[k0]? = some (.cells #[.int .i64 ((rd_T50 g0 b0).f0), .int .i64 ((rd_T50 g0 b0).f1)] 50 (0, 0))) := ⟨bq⟩
            have n2_ : Aside0 (Below w.heap.size w ((w41.setCell ⟨k0, 0, none⟩ (.int .i64 ((rd_T50 g0 b0).f0))).setCell ⟨k0, 1, none⟩ (.int .i64 ((rd_T50 g0 b0).f1)))) := ⟨bl⟩
            (try clear d0)
            (try clear m0)
            (try clear HB)
            generalize ((w41.setCell ⟨k0, 0, none⟩ (.int .i64 ((rd_T50 g0 b0).f0))).setCell ⟨k0, 1, none⟩ (.int .i64 ((rd_T50 g0 b0).f1))) = w63 at n0_ n1_ n2_ ⊢
            have d0 := n0_
            have m0 := n1_
            have HB := n2_
            clear n0_ n1_ n2_
            replace d0 := wd d0
            replace m0 := wd m0
            replace HB := mk (below_drew1 HB.out)
            refine start_ (n := 45) (S := fun w' => w'.cell? ⟨k0, 0, none⟩ = some (.int .i64 ((rd_T50 g0 b0).f0)) ∧ w'.cell? ⟨k0, 1, none⟩ = some (.int .i64 ((rd_T50 g0 b0).f1))) (ds := []) #[F_, F_, F_, F_, F_, F_, F_, F_, F_, F_, F_, F_, F_, F_, F_, F_, F_, F_, F_, F_, F_, F_, F_, F_, F_, F_, F_, F_, F_, F_, F_, F_, F_, F_, F_, F_, F_, F_, F_, F_, F_, F_, F_, F_, F_] (by kernel_rfl) rfl rfl ⟨bc m0 0, bc m0 1⟩ (fun hHeld => ?_); refine with_tabW impl_IsCracker.tab12 impl_IsCracker.bits12 (fun HT_ HW_ => ?_)
            generalize w63.drew = w64 at d0 m0 HB hHeld ⊢
            refine pu 0 57 (tf 1 44) ?_
            refine tk 1 58 (tf 2 43) hHeld ?_
            refine on 2 59 (tf 3 42) (fun K hK => ?_)
            refine gs Try.func50 #[.int .i64 ((rd_T50 g0 b0).f0)] ?_
            with_reducible refine (impl_bound.calls ((rd_T50 g0 b0).f0) false _ A44.out).mono ?_
            rintro e w' ⟨rfl, ⟨nd, rfl⟩⟩
            refine ⟨_, rfl, ?_⟩
            refine hK.out _ _ ⟨bc m0 0, bc m0 1⟩ (fun hHeld => ?_)
            clear hK K
            refine nm 59 ?_
            refine pu 3 60 (tf 4 41) ?_
            refine pu 4 61 (tf 5 40) ?_
            refine pn 5 62 (tf 6 39) ?_
            refine pn 6 63 (tf 7 38) ?_
            refine pn 7 64 (tf 8 37) ?_
            refine pu 8 65 (tf 9 36) ?_
            refine pu 9 66 (tf 10 35) ?_
            refine pn 10 67 (tf 11 34) ?_
            refine pn 11 68 (tf 12 33) ?_
            refine pn 12 69 (tf 13 32) ?_
            refine pn 13 70 (tf 14 31) ?_
            refine pn 14 71 (tf 15 30) ?_
            refine pn 15 72 (tf 16 29) ?_
            refine pu 16 73 (tf 17 28) ?_
            refine pu 17 74 (tf 18 27) ?_
            refine pn 18 75 (tf 19 26) ?_
            refine pn 19 76 (tf 20 25) ?_
            refine pn 20 77 (tf 21 24) ?_
            refine pn 21 78 (tf 22 23) ?_
            refine pn 22 79 (tf 23 22) ?_
            refine pn 23 80 (tf 24 21) ?_
            refine pn 24 81 (tf 25 20) ?_
            refine pn 25 82 (tf 26 19) ?_
            refine pn 26 83 (tf 27 18) ?_
            refine pn 27 84 (tf 28 17) ?_
            refine pn 28 85 (tf 29 16) ?_
            refine pn 29 86 (tf 30 15) ?_
            refine pn 30 87 (tf 31 14) ?_
            refine pn 31 88 (tf 32 13) ?_
            refine pn 32 89 (tf 33 12) ?_
            refine pn 33 90 (tf 34 11) ?_
            refine pn 34 91 (tf 35 10) ?_
            refine pn 35 92 (tf 36 9) ?_
            refine pn 36 93 (tf 37 8) ?_
            refine pn 37 94 (tf 38 7) ?_
            refine pn 38 95 (tf 39 6) ?_
            refine pn 39 96 (tf 40 5) ?_
            refine pn 40 97 (tf 41 4) ?_
            refine pn 41 98 (tf 42 3) ?_
            refine pn 42 99 (tf 43 2) ?_
            refine pn 43 100 (tf 44 1) ?_
            refine pu 44 101 (tf 45 0) ?_
            refine done_ (done_of HT_.out (by kernel_rfl)) ?_
            try go_wp2
            go_meet
            case rel => exact ⟨_, (true), (by first | rfl | (simp; done) | (simp [*]; done)), H', ⟨by have := HJ1.out; have := HK2.out; have := HK3.out; first | omega | exact Nat.le_refl _⟩, ⟨ub d0.out⟩, ⟨ub m0.out⟩, ⟨bl⟩⟩
          case rest =>
           clear ma5
           try clear p2
           try clear c4
           try clear c5
           try clear c45
           try clear c50
           try clear c52
           try clear ga1
           try clear c54
           try clear c55
           obtain ⟨kq, v2, rfl, HA, qa2, d0, m0, HB⟩ := hcut
           cases kq with
           | zero => exact absurd HA.out (by simp [impl_IsCracker.j3])
           | succ qa5 =>
            have H := HA.out
            clear HA
            simp only [impl_IsCracker.j3] at H
            by_cases c65 : v2 = true
            ·subst c65
             rw [if_pos rfl] at H
             obtain rfl := Option.some.inj H
             go_wp2
             go_ret
             exact ⟨rx, bl⟩
            ·replace c65 := Bool.eq_false_iff.mpr c65
             subst c65
             rw [if_neg nf] at H
             have H' := mk H
             clear H
             have qa6 := b2.out
             have ja6 := z1.out
             obtain ⟨ma0, ka0, ja0, m9, k9, j9⟩ := bz3 d0
             go_wp2
             go_loopg [105] qa5 (fun kq aa6 w' => ∃ (q0 : Int), aa6 = .int .i64 q0 ∧ Aside0 (impl_IsCracker.l2 kq g0 (g0.length : Int) b0 b1 (b1.length : Int) q0 b1 z0 g0 ((rd_T50 g0 b0).f0) ((rd_T50 g0 b0).f1) = some r) ∧ Aside0 (kq ≤ qa5) ∧ Aside0 (w'.heap[m1]? = some (.cells #[(.slice o2 b1.length m2), (.slice a3 z0.length j2), (.slice (some g1) g0.length z2)] 29 (0, 0))) ∧ Aside0 (w'.heap[k0]? = some (.cells #[.int .i64 ((rd_T50 g0 b0).f0), .int .i64 ((rd_T50 g0 b0).f1)] 50 (0, 0))) ∧ Aside0 (Below w.heap.size w w'))
             case atStart => exact ⟨(0), (by first | rfl | (simp; done) | (simp [*]; done)), H', ⟨Nat.le_refl _⟩, ⟨ub d0.out⟩, ⟨ub m0.out⟩, ⟨bl⟩⟩
             case round =>
              clear H'
              try clear p2
              try clear c4
              try clear c5
              try clear c6
              try clear c45
              try clear c50
              try clear c52
              try clear ga1
              try clear c54
              try clear c55
              try clear c65
              try clear c66
              try clear ma0
              try clear ka0
              try clear ja0
              try clear m9
              try clear k9
              try clear j9
              try clear p2
              obtain ⟨q0, rfl, HA, HK5, d0, m0, HB⟩ := hrel
              cases gk with
              | zero => exact absurd HA.out (by simp [impl_IsCracker.l2])
              | succ k5 =>
               have H := HA.out
               clear HA
               simp only [impl_IsCracker.l2] at H
               revert H; refine ci (fun c68 H => ?_) fun c68 H => ?_
               ·have qa4 : decide (q0 < (b1.length : Int)) = true := decide_eq_true c68
                clear c68
                revert H; refine ca fun c69 H => ?_
                have ba7 : decide (0 ≤ q0) = true := decide_eq_true c69
                clear c69
                revert H; refine ca fun c70 H => ?_
                have aa7 : decide (q0 < (b1.length : Int)) = true := decide_eq_true c70
                clear c70
                revert H; refine ci (fun c71 H => ?_) fun c71 H => ?_
                ·have oa4 : ((decide ((rd b1 q0) < ((rd_T50 g0 b0).f0))) != (decide (q0 < ((rd_T50 g0 b0).f1)))) = true := c71
                 (try (have ma4 : decide ((decide ((rd b1 q0) < ((rd_T50 g0 b0).f0))) = (decide (q0 < ((rd_T50 g0 b0).f1)))) = false := by simpa using c71))
                 (try (have ka4 : ((decide ((rd b1 q0) < ((rd_T50 g0 b0).f0))) == (decide (q0 < ((rd_T50 g0 b0).f1)))) = false := by simpa using c71))
                 (try (have za6 : ¬ ((decide ((rd b1 q0) < ((rd_T50 g0 b0).f0))) = (decide (q0 < ((rd_T50 g0 b0).f1)))) := by simpa using c71))
                 clear c71
                 obtain rfl := Option.some.inj H
                 have d9 : 0 ≤ (q0 : Int) := dt
                 have a9 : q0 < (b1.length : Int) := dt
                 obtain ⟨ja5, da4, v1⟩ := Kd.at_int b7.out q0 d9 a9
                 cases da4
                 replace v1 := (HB.out.cell (World.block_lt_of_cell? w _ v1)).trans v1
                 replace d9 := eq_true d9
                 replace a9 := eq_true a9
                 have oa6 := z1.out
                 have ga6 := b2.out
                 obtain ⟨za3, ya3, ma3, ka3⟩ := bz2 m0
                 go_wp2
                 go_ret
                 exact ⟨rx, bl⟩
                ·have oa4 : ((decide ((rd b1 q0) < ((rd_T50 g0 b0).f0))) != (decide (q0 < ((rd_T50 g0 b0).f1)))) = false := by simpa using c71
                 (try (have ma4 : decide ((decide ((rd b1 q0) < ((rd_T50 g0 b0).f0))) = (decide (q0 < ((rd_T50 g0 b0).f1)))) = true := by simpa using c71))
                 (try (have ka4 : ((decide ((rd b1 q0) < ((rd_T50 g0 b0).f0))) == (decide (q0 < ((rd_T50 g0 b0).f1)))) = true := by simpa using c71))
                 clear c71
                 have H' := mk H
                 clear H
                 have d9 : 0 ≤ (q0 : Int) := dt
                 have a9 : q0 < (b1.length : Int) := dt
                 obtain ⟨ja5, da4, v1⟩ := Kd.at_int b7.out q0 d9 a9
                 cases da4
                 replace v1 := (HB.out.cell (World.block_lt_of_cell? w _ v1)).trans v1
                 replace d9 := eq_true d9
                 replace a9 := eq_true a9
                 have ma6 := z1.out
                 have da6 := b2.out
                 obtain ⟨va3, sa3, ja3, ga3⟩ := bz2 m0
                 go_wp2
                 go_roundg k5
                 case measure => have := HJ1.out; have := HK2.out; have := HK3.out; have := qa2.out; have := HK5.out; omega
                 case rel => exact ⟨(wrap64 (q0 + 1)), (by first | rfl | (simp; done) | (simp [*]; done)), H', ⟨by have := HJ1.out; have := HK2.out; have := HK3.out; have := qa2.out; have := HK5.out; omega⟩, ⟨ub d0.out⟩, ⟨ub m0.out⟩, ⟨bl⟩⟩
               ·have qa4 : decide (q0 < (b1.length : Int)) = false := decide_eq_false c68
                clear c68
                have H' := mk H
                clear H
                go_wp2
                go_roundg k5
                case measure => have := HJ1.out; have := HK2.out; have := HK3.out; have := qa2.out; have := HK5.out; omega
                case rel => exact ⟨(wrap64 (b0 + 1)), (by first | rfl | (simp; done) | (simp [*]; done)), H', ⟨by have := HJ1.out; have := HK2.out; have := HK3.out; have := qa2.out; have := HK5.out; omega⟩, ⟨ub d0.out⟩, ⟨bl⟩⟩
         ·have ya4 : decide (b0 < (g0.length : Int)) = false := decide_eq_false c37
          clear c37
          obtain rfl := Option.some.inj H
          go_wp2
          go_ret
          exact ⟨rx, bl⟩

end Go.Proofs.Ytlikcmonejefoab.PFnRipples
