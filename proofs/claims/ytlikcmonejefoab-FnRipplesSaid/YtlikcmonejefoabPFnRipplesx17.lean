-- printed by a program of this session, a turned copy of the print of the kit
import Derived.Test.YtlikcmonejefoabSr
import Derived.Test.YtlikcmonejefoabPFnRipplesx0
import Derived.Test.YtlikcmonejefoabPFnRipplesx2
import Derived.Test.YtlikcmonejefoabPFnRipplesx4
import Derived.Test.YtlikcmonejefoabPFnRipplesx5
import Derived.Test.YtlikcmonejefoabPFnRipplesx14
import Derived.Test.YtlikcmonejefoabPFnRipplesx15
import Derived.Test.YtlikcmonejefoabPFnRipplesx16
namespace Go.Proofs.Ytlikcmonejefoab.PFnRipples
open Go.RowKit Go.Proofs.YtlikcmonejefoabW.PrintWords Go.Proofs.YtlikcmonejefoabW.PrintLast Go.Proofs.YtlikcmonejefoabW.PrintMore Go.Proofs.Ytlikcmonejefoab.Sq
attribute [local go_sem] max2_int min2_int max_two min_two max_three min_three max_four min_four Giv.cell_twice   -- for this text's walks alone
set_option linter.unusedVariables false
set_option linter.unusedSimpArgs false

/-! ### spec_CrackAt: function 71 -/
def spec_CrackAt.j0 : Nat → Int → Bool → List Int → List Int → List (S50) → Option (List Int × List Int × (List (S50)) × (List (S105)) × Bool)
 | 0, _, _, _, _, _ => none
 | k + 1, x1, x24, v0, d1, b1 => if x24 = true then ((spec_l4Copy.f v0 d1 b1).bind fun v5 => (some (v5.1, v5.2.1, v5.2.2, (([] : List (S105))), false))) else ((spec_FindPivot.f k v0 d1 b1 x1).bind fun ja3 => (if ja3.2 = true then ((spec_l4Copy.f v0 d1 b1).bind fun s5 => (some (s5.1, s5.2.1, s5.2.2, (([] : List (S105))), true))) else ((spec_PieceOf.f k v0 d1 b1 x1).bind fun k6 => ((spec_Partition.f k v0 k6.1 k6.2 x1).bind fun q5 => ((spec_ApplySwaps.f k v0 d1 b1 q5.1).bind fun o5 => ((spec_AddPivot.f k o5.1 o5.2.1 o5.2.2.1 x1 q5.2).bind fun m5 => (some (m5.1, m5.2.1, m5.2.2.1, q5.1, true))))))))
def spec_CrackAt.f (k : Nat) (o0 : List Int) (s0 : List Int) (q0 : List (S50)) (a1 : Int) : Option (List Int × List Int × (List (S50)) × (List (S105)) × Bool) := (spec_IsCracker.f k o0 s0 q0).bind fun z5 => (if z5 = true then ((spec_l1In.f a1 (-1000) 1000).bind fun y5 => (spec_CrackAt.j0 k a1 (!y5) o0 s0 q0)) else (spec_CrackAt.j0 k a1 true o0 s0 q0))
theorem spec_CrackAt.mono_l : ∀ k, (∀ y0 y1 y2 y3 y4, LeO (spec_CrackAt.j0 k y0 y1 y2 y3 y4) (spec_CrackAt.j0 (k + 1) y0 y1 y2 y3 y4))
 | 0 => fun _ _ _ _ _ r h => by simp [spec_CrackAt.j0] at h
 | k + 1 => by
  have ih0 := spec_CrackAt.mono_l k
  ·intro y0 y1 y2 y3 y4
   unfold spec_CrackAt.j0
   exact mo
theorem spec_CrackAt.mono : ∀ a0 a1 a2 a3 k, LeO (spec_CrackAt.f k a0 a1 a2 a3) (spec_CrackAt.f (k + 1) a0 a1 a2 a3) := by
 intro a0 a1 a2 a3 k
 have ih0 := spec_CrackAt.mono_l k
 unfold spec_CrackAt.f
 exact mo
instance spec_CrackAt.mi (a0 a1 a2 a3 k) : LeC (spec_CrackAt.f k a0 a1 a2 a3) (spec_CrackAt.f (k + 1) a0 a1 a2 a3) := ⟨spec_CrackAt.mono a0 a1 a2 a3 k⟩
set_option maxHeartbeats 8000000 in
set_option maxRecDepth 100000 in
theorem spec_CrackAt.calls (k : Nat) (d2 : Option Addr) (b2 : Nat) (o0 : List Int) (m2 : Option Addr) (j2 : Nat) (s0 : List Int) (k2 : Option Addr) (g2 : Nat) (q0 : List (S50)) (a1 : Int) (r1 : List Int) (r2 : List Int) (r3 : List (S50)) (r4 : List (S105)) (r5 : Bool) (w : World) (d6 : Kd.C (Kd.int .i64) w d2 o0.length o0) (hc0_0 : o0.length ≤ b2) (b6 : Kd.C (Kd.int .i64) w m2 s0.length s0) (hc0_1 : s0.length ≤ j2) (a6 : Kd.C k50 w k2 q0.length q0) (hc0_2 : q0.length ≤ g2) (h : spec_CrackAt.f k o0 s0 q0 a1 = some (r1, r2, r3, r4, r5)) :
  Calls Try.prog 71 #[.agg #[.slice d2 o0.length b2, .slice m2 s0.length j2, .slice k2 q0.length g2], .int .i64 a1] w fun e w' => ∃ v0_ v1_ v2_ v3_ : Value, e = .returned (.tuple #[.agg #[v0_, v1_, v2_], v3_, .bool r5]) ∧ Kd.R (Kd.int .i64) 3 w' w.heap.size (fun k_ => some k_ ≠ (v1_ : Value).ownBlock) v0_ r1 ∧ Kd.R (Kd.int .i64) 3 w' w.heap.size (fun k_ => some k_ ≠ (v0_ : Value).ownBlock) v1_ r2 ∧ Kd.R k50 50 w' w.heap.size (fun _ => True) v2_ r3 ∧ Kd.R k105 105 w' w.heap.size (fun _ => True) v3_ r4 ∧ Below w.heap.size w w' := by
 have hu29 := Try.underlying29
 have hu50 := Try.underlying50
 have m1 := mk d6
 have o1 := mk hc0_0
 clear d6 hc0_0
 have s1 := mk b6
 have z1 := mk hc0_1
 clear b6 hc0_1
 have q1 := mk a6
 have v1 := mk hc0_2
 clear a6 hc0_2
 have HB := mk (Below.refl w.heap.size w)
 have H : ((spec_IsCracker.f k o0 s0 q0).bind fun z5 => (if z5 = true then ((spec_l1In.f a1 (-1000) 1000).bind fun y5 => (spec_CrackAt.j0 k a1 (!y5) o0 s0 q0)) else (spec_CrackAt.j0 k a1 true o0 s0 q0))) = some (r1, r2, r3, r4, r5) := h
 clear h
 have HC3 := mk H
 clear H
 go_enter Try.func71, Try.ntmps71
 go_upto_region 1 with (first | ((with_reducible refine gate_dst (N := 2) rfl ?_); refine bx 2 #[.slice d2 o0.length b2, .slice m2 s0.length j2, .slice k2 q0.length g2] 29 ?_; intro ga3 hg w4 hbox hb; have d0 := mk hbox; have da8 := wg hg; replace HB := wh hb; clear hb hbox hg) | ((with_reducible refine gate_dst (N := 4) rfl ?_); refine bx 4 #[.slice none 0 0, .slice none 0 0, .slice none 0 0] 29 ?_; intro q3 hg w5 hbox hb; have b0 := mk hbox; have ba8 := wg hg; replace HB := wh hb; have m0 := nl d0 hg; have k0 := nr d0 hg; replace d0 := wb d0 hb; clear hb hbox hg))
 (try simp only [Act.put, List.setIfInBounds_toArray, List.set_cons_zero, List.set_cons_succ])
 go_cut [24] (fun v24 wc => ∃ (kq : Nat) (o3 : Bool), v24 = .bool o3 ∧ Aside0 (spec_CrackAt.j0 kq a1 o3 o0 s0 q0 = some (r1, r2, r3, r4, r5)) ∧ Aside0 (kq ≤ k) ∧ Aside0 (wc.heap[ga3]? = some (.cells #[(.slice d2 o0.length b2), (.slice m2 s0.length j2), (.slice k2 q0.length g2)] 29 (0, 0))) ∧ Aside0 (wc.heap[q3]? = some (.cells #[(.slice none 0 0), (.slice none 0 0), (.slice none 0 0)] 29 (0, 0))) ∧ Aside0 (Below w.heap.size w wc))
 case first =>
  have H := HC3.out
  clear HC3
  revert H; refine bo ?_; rintro z5 A6 H
  by_cases c7 : z5 = true
  ·subst c7
   rw [if_pos rfl] at H
   revert H; refine bo ?_; rintro y5 A8 H
   have H' := mk H
   clear H
   have gb0 := m0.out
   have db0 := k0.out
   obtain ⟨k5, j5, g5, z4, v4, s4⟩ := bz3 d0
   go_wp2_with (first | ((with_reducible refine gate_callee (f := 23) rfl ?_); refine gl (some 18) rfl Try.func23 #[.agg #[.slice d2 o0.length b2, .slice m2 s0.length j2, .slice k2 q0.length g2]] ?_; (with_reducible refine (spec_IsCracker.calls k _ _ o0 _ _ s0 _ _ q0 true _ ?side1 ?side2 ?side3 ?side4 ?side5 ?side6 A6.out).mono ?_); (case side1 => exact cb m1 HB); (case side2 => exact o1.out); (case side3 => exact cb s1 HB); (case side4 => exact z1.out); (case side5 => exact cb q1 HB); (case side6 => exact v1.out); rintro e w11 ⟨rfl, hb⟩; refine ⟨_, rfl, ?_⟩; replace d0 := wb d0 hb; replace b0 := wb b0 hb; replace HB := wh hb; (try clear hb)) | (go_at_call 54; (with_reducible refine (spec_l1In.calls a1 (-1000) 1000 y5 _ A8.out).mono ?_); rintro e w' ⟨rfl, ⟨nd, rfl⟩⟩))
   go_meet
   case rel => exact ⟨_, (!y5), (by first | rfl | (simp; done) | (simp [*]; done)), H', ⟨by first | omega | exact Nat.le_refl _⟩, ⟨ub d0.out⟩, ⟨ub b0.out⟩, ⟨bl⟩⟩
  ·replace c7 := Bool.eq_false_iff.mpr c7
   subst c7
   rw [if_neg nf] at H
   have H' := mk H
   clear H
   have aa6 := m0.out
   have ja5 := k0.out
   obtain ⟨d5, b5, a5, q4, o4, m4⟩ := bz3 d0
   go_wp2_with (first | ((with_reducible refine gate_callee (f := 23) rfl ?_); refine gl (some 18) rfl Try.func23 #[.agg #[.slice d2 o0.length b2, .slice m2 s0.length j2, .slice k2 q0.length g2]] ?_; (with_reducible refine (spec_IsCracker.calls k _ _ o0 _ _ s0 _ _ q0 false _ ?side1 ?side2 ?side3 ?side4 ?side5 ?side6 A6.out).mono ?_); (case side1 => exact cb m1 HB); (case side2 => exact o1.out); (case side3 => exact cb s1 HB); (case side4 => exact z1.out); (case side5 => exact cb q1 HB); (case side6 => exact v1.out); rintro e w14 ⟨rfl, hb⟩; refine ⟨_, rfl, ?_⟩; replace d0 := wb d0 hb; replace b0 := wb b0 hb; replace HB := wh hb; (try clear hb)))
   go_meet
   case rel => exact ⟨_, (true), (by first | rfl | (simp; done) | (simp [*]; done)), H', ⟨by first | omega | exact Nat.le_refl _⟩, ⟨ub d0.out⟩, ⟨ub b0.out⟩, ⟨bl⟩⟩
 case rest =>
  clear HC3
  try clear c1
  try clear c2
  try clear p2
  try clear c7
  try clear c9
  try clear c12
  try clear k5
  try clear j5
  try clear g5
  try clear d5
  try clear b5
  try clear a5
  try clear z4
  try clear v4
  try clear s4
  try clear q4
  try clear o4
  try clear m4
  obtain ⟨kq, o3, rfl, HA, HJ2, d0, b0, HB⟩ := hcut
  cases kq with
  | zero => exact absurd HA.out (by simp [spec_CrackAt.j0])
  | succ kj2 =>
   have H := HA.out
   clear HA
   simp only [spec_CrackAt.j0] at H
   by_cases c15 : o3 = true
   ·subst c15
    rw [if_pos rfl] at H
    revert H; refine bo ?_; rintro ⟨o7, m7, k7⟩ A16 H
    dsimp only at H
    obtain ⟨ka4, hy_⟩ : ∃ y_ : List (S105), y_ = (([] : List (S105))) := ⟨_, rfl⟩
    replace H : (some (o7, m7, k7, ka4, false)) = some (r1, r2, r3, r4, r5) := hw
    have o6 := mk hy_
    clear hy_
    simp only [Option.some.injEq, Prod.mk.injEq] at H
    obtain ⟨rfl, rfl, rfl, rfl, rfl⟩ := H
    have za5 := m0.out
    have ga5 := k0.out
    obtain ⟨ba3, aa3, za2, ja0, ga0, da0⟩ := bz3 d0
    go_wp2_with (first | ((with_reducible refine gate_callee (f := 28) rfl ?_); refine gl (some 26) rfl Try.func28 #[.agg #[.slice d2 o0.length b2, .slice m2 s0.length j2, .slice k2 q0.length g2]] ?_; (with_reducible refine (spec_l4Copy.calls _ _ o0 _ _ s0 _ _ q0 o7 m7 k7 _ ?side1 ?side2 ?side3 ?side4 ?side5 ?side6 A16.out).mono ?_); (case side1 => exact cb m1 HB); (case side2 => exact o1.out); (case side3 => exact cb s1 HB); (case side4 => exact z1.out); (case side5 => exact cb q1 HB); (case side6 => exact v1.out); rintro e w19 ⟨bb0, ab0, za9, rfl, ho0, ho1, ho2, hb⟩; refine ⟨_, rfl, ?_⟩; have k4 := lo ho0; have j4 := lo ho1; have g4 := lo ho2; replace d0 := wb d0 hb; replace b0 := wb b0 hb; replace HB := wh hb; (try clear hb ho0 ho1 ho2)) | ((with_reducible refine gate_dst (N := 27) rfl ?_); refine Kd.R_lit k105 _ 105 ?hg (N := 27) ?hd (xs := ([] : List (S105))) (inner := []) (ok := fun _ => True) (okp := fun _ => True) ?hr ?hp (fun _ hk => hk) trivial (Below.refl _ _) (Nat.le_refl _) (by simp) ?_; (case hd => rfl); (case hg => rfl); (case hr => first | (go_simp; done) | (go_simp; rfl)); (case hp => exact (Reps.none _ _)); intro ya9 w20 j6 hb hg_ hnew_; clear hg_ hnew_; (first | rw [← o6.out] at j6 | (simp only [Int.reduceToNat] at j6; rw [← o6.out] at j6)); replace k4 := ro k4 hb; replace j4 := ro j4 hb; replace g4 := ro g4 hb; have ma3 := lo j6; replace d0 := wb d0 hb; replace b0 := wb b0 hb; replace HB := wh hb; clear hb j6; obtain ⟨za8, ya7, ba7⟩ := Kd.R_slice k4.out; subst ba7; obtain ⟨ya2, va2, sa2, ba0, aa0, z9⟩ := bz3 b0; obtain ⟨ya8, va7, aa7⟩ := Kd.R_slice j4.out; subst aa7; obtain ⟨va8, sa7, za6⟩ := Kd.R_slice g4.out; subst za6))
    refine bodyPost_ret (results_ctt rfl _ _ q3 29 #[.slice za8 o7.length ya7, .slice ya8 m7.length va7, .slice va8 k7.length sa7] (0, 0) _ rfl bq Try.underlying29 rfl (by kernel_rfl)) rfl ?_
    exact ⟨_, _, _, _, rx, (by exact rm (rs1 k4 b0)), (by exact rm (rs1 j4 b0)), (by exact rm (rs1 g4 b0)), (by exact rm (rs1 ma3 b0)), bl⟩
   ·replace c15 := Bool.eq_false_iff.mpr c15
    subst c15
    rw [if_neg nf] at H
    revert H; refine bo ?_; rintro ⟨va3, qa4⟩ A26 H
    dsimp only at H
    by_cases c27 : qa4 = true
    ·subst c27
     rw [if_pos rfl] at H
     revert H; refine bo ?_; rintro ⟨j7, g7, d7⟩ A28 H
     dsimp only at H
     obtain ⟨ja4, hy_⟩ : ∃ y_ : List (S105), y_ = (([] : List (S105))) := ⟨_, rfl⟩
     replace H : (some (j7, g7, d7, ja4, true)) = some (r1, r2, r3, r4, r5) := hw
     have m6 := mk hy_
     clear hy_
     simp only [Option.some.injEq, Prod.mk.injEq] at H
     obtain ⟨rfl, rfl, rfl, rfl, rfl⟩ := H
     have ya5 := m0.out
     have da5 := k0.out
     obtain ⟨qa2, oa2, ma2, y9, v9, s9⟩ := bz3 d0
     go_wp2_with (first | ((with_reducible refine gate_callee (f := 74) rfl ?_); refine gl (some 31) rfl Try.func74 #[.agg #[.slice d2 o0.length b2, .slice m2 s0.length j2, .slice k2 q0.length g2], .int .i64 a1] ?_; (with_reducible refine (spec_FindPivot.calls kj2 _ _ o0 _ _ s0 _ _ q0 a1 va3 true _ ?side1 ?side2 ?side3 ?side4 ?side5 ?side6 A26.out).mono ?_); (case side1 => exact cb m1 HB); (case side2 => exact o1.out); (case side3 => exact cb s1 HB); (case side4 => exact z1.out); (case side5 => exact cb q1 HB); (case side6 => exact v1.out); rintro e w31 ⟨rfl, hb⟩; refine ⟨_, rfl, ?_⟩; replace d0 := wb d0 hb; replace b0 := wb b0 hb; replace HB := wh hb; (try clear hb); obtain ⟨ka2, ja2, ga2, q9, o9, m9⟩ := bz3 d0) | ((with_reducible refine gate_callee (f := 28) rfl ?_); refine gl (some 36) rfl Try.func28 #[.agg #[.slice d2 o0.length b2, .slice m2 s0.length j2, .slice k2 q0.length g2]] ?_; (with_reducible refine (spec_l4Copy.calls _ _ o0 _ _ s0 _ _ q0 j7 g7 d7 _ ?side1 ?side2 ?side3 ?side4 ?side5 ?side6 A28.out).mono ?_); (case side1 => exact cb m1 HB); (case side2 => exact o1.out); (case side3 => exact cb s1 HB); (case side4 => exact z1.out); (case side5 => exact cb q1 HB); (case side6 => exact v1.out); rintro e w33 ⟨va9, sa9, qa9, rfl, ho0, ho1, ho2, hb⟩; refine ⟨_, rfl, ?_⟩; have d4 := lo ho0; have b4 := lo ho1; have a4 := lo ho2; replace d0 := wb d0 hb; replace b0 := wb b0 hb; replace HB := wh hb; (try clear hb ho0 ho1 ho2)) | ((with_reducible refine gate_dst (N := 37) rfl ?_); refine Kd.R_lit k105 _ 105 ?hg (N := 37) ?hd (xs := ([] : List (S105))) (inner := []) (ok := fun _ => True) (okp := fun _ => True) ?hr ?hp (fun _ hk => hk) trivial (Below.refl _ _) (Nat.le_refl _) (by simp) ?_; (case hd => rfl); (case hg => rfl); (case hr => first | (go_simp; done) | (go_simp; rfl)); (case hp => exact (Reps.none _ _)); intro oa9 w34 g6 hb hg_ hnew_; clear hg_ hnew_; (first | rw [← m6.out] at g6 | (simp only [Int.reduceToNat] at g6; rw [← m6.out] at g6)); replace d4 := ro d4 hb; replace b4 := ro b4 hb; replace a4 := ro a4 hb; have ka3 := lo g6; replace d0 := wb d0 hb; replace b0 := wb b0 hb; replace HB := wh hb; clear hb g6; obtain ⟨sa8, qa7, ya6⟩ := Kd.R_slice d4.out; subst ya6; obtain ⟨da2, ba2, aa2, k9, j9, g9⟩ := bz3 b0; obtain ⟨qa8, oa7, va6⟩ := Kd.R_slice b4.out; subst va6; obtain ⟨oa8, ma7, sa6⟩ := Kd.R_slice a4.out; subst sa6))
     refine bodyPost_ret (results_ctt rfl _ _ q3 29 #[.slice sa8 j7.length qa7, .slice qa8 g7.length oa7, .slice oa8 d7.length ma7] (0, 0) _ rfl bq Try.underlying29 rfl (by kernel_rfl)) rfl ?_
     exact ⟨_, _, _, _, rx, (by exact rm (rs1 d4 b0)), (by exact rm (rs1 b4 b0)), (by exact rm (rs1 a4 b0)), (by exact rm (rs1 ka3 b0)), bl⟩
    ·replace c27 := Bool.eq_false_iff.mpr c27
     subst c27
     rw [if_neg nf] at H
     revert H; refine bo ?_; rintro ⟨b7, a7⟩ A40 H
     dsimp only at H
     revert H; refine bo ?_; rintro ⟨z6, y6⟩ A41 H
     dsimp only at H
     revert H; refine bo ?_; rintro ⟨v6, s6, q6, oa4⟩ A42 H
     dsimp only at H
     revert H; refine bo ?_; rintro ⟨sa3, qa3, oa3, ma4⟩ A43 H
     dsimp only at H
     simp only [Option.some.injEq, Prod.mk.injEq] at H
     obtain ⟨rfl, rfl, rfl, rfl, rfl⟩ := H
     have va5 := m0.out
     have ba5 := k0.out
     obtain ⟨za1, ya1, va1, d9, b9, a9⟩ := bz3 d0
     go_wp2_with (first | ((with_reducible refine gate_callee (f := 74) rfl ?_); refine gl (some 31) rfl Try.func74 #[.agg #[.slice d2 o0.length b2, .slice m2 s0.length j2, .slice k2 q0.length g2], .int .i64 a1] ?_; (with_reducible refine (spec_FindPivot.calls kj2 _ _ o0 _ _ s0 _ _ q0 a1 va3 false _ ?side1 ?side2 ?side3 ?side4 ?side5 ?side6 A26.out).mono ?_); (case side1 => exact cb m1 HB); (case side2 => exact o1.out); (case side3 => exact cb s1 HB); (case side4 => exact z1.out); (case side5 => exact cb q1 HB); (case side6 => exact v1.out); rintro e w46 ⟨rfl, hb⟩; refine ⟨_, rfl, ?_⟩; replace d0 := wb d0 hb; replace b0 := wb b0 hb; replace HB := wh hb; (try clear hb); obtain ⟨sa1, qa1, oa1, z8, y8, v8⟩ := bz3 d0) | ((with_reducible refine gate_callee (f := 75) rfl ?_); refine gl (some 41) rfl Try.func75 #[.agg #[.slice d2 o0.length b2, .slice m2 s0.length j2, .slice k2 q0.length g2], .int .i64 a1] ?_; (with_reducible refine (spec_PieceOf.calls kj2 _ _ o0 _ _ s0 _ _ q0 a1 b7 a7 _ ?side1 ?side2 ?side3 ?side4 ?side5 ?side6 A40.out).mono ?_); (case side1 => exact cb m1 HB); (case side2 => exact o1.out); (case side3 => exact cb s1 HB); (case side4 => exact z1.out); (case side5 => exact cb q1 HB); (case side6 => exact v1.out); rintro e w48 ⟨rfl, hb⟩; refine ⟨_, rfl, ?_⟩; replace d0 := wb d0 hb; replace b0 := wb b0 hb; replace HB := wh hb; (try clear hb); obtain ⟨ma1, ka1, ja1, s8, q8, o8⟩ := bz3 d0) | ((with_reducible refine gate_callee (f := 76) rfl ?_); refine gl (some 50) rfl Try.func76 #[.slice d2 o0.length b2, .int .i64 b7, .int .i64 a7, .int .i64 a1] ?_; (with_reducible refine (spec_Partition.calls kj2 _ _ o0 b7 a7 a1 z6 y6 _ ?side1 ?side2 A41.out).mono ?_); (case side1 => exact cb m1 HB); (case side2 => exact o1.out); rintro e w50 ⟨ma9, rfl, ho0, hb⟩; refine ⟨_, rfl, ?_⟩; have z0 := lo ho0; replace d0 := wb d0 hb; replace b0 := wb b0 hb; replace HB := wh hb; (try clear hb ho0); obtain ⟨ga1, da1, ba1, m8, k8, j8⟩ := bz3 d0; obtain ⟨ma8, ka7, qa6⟩ := Kd.R_slice z0.out; subst qa6) | ((with_reducible refine gate_callee (f := 77) rfl ?_); refine gl (some 56) rfl Try.func77 #[.agg #[.slice d2 o0.length b2, .slice m2 s0.length j2, .slice k2 q0.length g2], .slice ma8 z6.length ka7] ?_; (with_reducible refine (spec_ApplySwaps.calls kj2 _ _ o0 _ _ s0 _ _ q0 _ _ z6 v6 s6 q6 oa4 _ ?side1 ?side2 ?side3 ?side4 ?side5 ?side6 ?side7 ?side8 A42.out).mono ?_); (case side1 => exact cb m1 HB); (case side2 => exact o1.out); (case side3 => exact cb s1 HB); (case side4 => exact z1.out); (case side5 => exact cb q1 HB); (case side6 => exact v1.out); (case side7 => exact ra z0); (case side8 => exact rb z0); rintro e w53 ⟨ka9, ja9, ga9, rfl, ho0, ho1, ho2, hb⟩; refine ⟨_, rfl, ?_⟩; replace z0 := ro z0 hb; have j1 := lo ho0; have g1 := lo ho1; have k1 := lo ho2; replace d0 := wb d0 hb; replace b0 := wb b0 hb; replace HB := wh hb; (try clear hb ho0 ho1 ho2)) | ((with_reducible refine gate_dst (N := 13) rfl ?_); refine bx 13 #[.slice none 0 0, .slice none 0 0, .slice none 0 0] 29 ?_; intro da3 hg w54 hbox hb; replace z0 := ro z0 hb; replace j1 := ro j1 hb; replace g1 := ro g1 hb; replace k1 := ro k1 hb; have g0 := mk hbox; have aa8 := wg hg; replace HB := wh hb; have k3 := nl d0 hg; have b3 := nr d0 hg; replace d0 := wb d0 hb; have g3 := nl b0 hg; have z2 := nr b0 hg; replace b0 := wb b0 hb; clear hb hbox hg; obtain ⟨ga4, aa4, oa6⟩ := Kd.R_slice j1.out; subst oa6; have sa5 := b3.out; have aa5 := k3.out; have qa5 := z2.out; have za4 := g3.out; obtain ⟨aa1, za0, ya0, g8, d8, b8⟩ := bz3 g0; obtain ⟨da4, za3, ma6⟩ := Kd.R_slice g1.out; subst ma6; obtain ⟨ba4, ya3, ka6⟩ := Kd.R_slice k1.out; subst ka6) | ((with_reducible refine gate_callee (f := 78) rfl ?_); refine gl (some 64) rfl Try.func78 #[.agg #[.slice ga4 v6.length aa4, .slice da4 s6.length za3, .slice ba4 q6.length ya3], .agg #[.int .i64 a1, .int .i64 y6]] ?_; (with_reducible refine (spec_AddPivot.calls kj2 _ _ v6 _ _ s6 _ _ q6 a1 y6 sa3 qa3 oa3 ma4 _ ?side1 ?side2 ?side3 ?side4 ?side5 ?side6 A43.out).mono ?_); (case side1 => exact rc1 j1 g0); (case side2 => exact rb j1); (case side3 => exact rc1 g1 g0); (case side4 => exact rb g1); (case side5 => exact rc1 k1 g0); (case side6 => exact rb k1); rintro e w61 ⟨da9, ba9, aa9, rfl, ho0, ho1, ho2, hb⟩; refine ⟨_, rfl, ?_⟩; replace z0 := ro1 z0 g0 hb; have z3 := lo (nw1 (nw1 ho0 j1 g0) g1 g0); have v3 := lo (nw1 (nw1 ho1 j1 g0) g1 g0); replace j1 := td2r1 j1 g0 hb ho0 ho1; replace g1 := td2r1 g1 g0 hb ho0 ho1; have s3 := lo (nw1 ho2 k1 g0); replace k1 := el1 k1 g0 ho2 hb; replace d0 := wx d0 hb; replace b0 := wx b0 hb; replace g0 := wq da3 #[.slice ga4 v6.length aa4, .slice da4 s6.length za3, .slice ba4 q6.length ya3] 29 hb; replace HB := wh hb; (try clear hb ho0 ho1 ho2)) | ((with_reducible refine gate_dst (N := 15) rfl ?_); refine bx 15 #[.slice none 0 0, .slice none 0 0, .slice none 0 0] 29 ?_; intro ba6 hg w62 hbox hb; replace z0 := ro z0 hb; replace j1 := ro j1 hb; replace g1 := ro g1 hb; replace k1 := ro k1 hb; replace z3 := ro z3 hb; replace v3 := ro v3 hb; replace s3 := ro s3 hb; have m3 := mk hbox; have za7 := wg hg; replace HB := wh hb; have j3 := nl d0 hg; have s2 := nr d0 hg; replace d0 := wb d0 hb; have d3 := nl b0 hg; have q2 := nr b0 hg; replace b0 := wb b0 hb; have v2 := nl g0 hg; have o2 := nr g0 hg; replace g0 := wb g0 hb; clear hb hbox hg; obtain ⟨ka8, ja7, ja6⟩ := Kd.R_slice z3.out; subst ja6; have oa5 := s2.out; have ya4 := j3.out; have ma5 := q2.out; have va4 := d3.out; have ka5 := o2.out; have sa4 := v2.out; obtain ⟨va0, sa0, qa0, a8, z7, y7⟩ := bz3 m3; obtain ⟨ja8, ga7, ga6⟩ := Kd.R_slice v3.out; subst ga6; obtain ⟨ga8, da7, da6⟩ := Kd.R_slice s3.out; subst da6; obtain ⟨oa0, ma0, ka0, v7, s7, q7⟩ := bz3 b0))
     refine bodyPost_ret (results_ctt rfl _ _ q3 29 #[.slice ka8 sa3.length ja7, .slice ja8 qa3.length ga7, .slice ga8 oa3.length da7] (0, 0) _ rfl bq Try.underlying29 rfl (by kernel_rfl)) rfl ?_
     exact ⟨_, _, _, _, rx, (by exact rm (rs2 z3 m3 b0)), (by exact rm (rs2 v3 m3 b0)), (by exact rm (rs2 s3 m3 b0)), (by exact rm (rs2 z0 m3 b0)), bl⟩

end Go.Proofs.Ytlikcmonejefoab.PFnRipples
