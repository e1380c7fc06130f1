-- printed by a program of this session, a turned copy of the print of the kit
import Derived.Test.YtlikcmonejefoabSr
import Derived.Test.YtlikcmonejefoabPFnRipplesx0
import Derived.Test.YtlikcmonejefoabPFnRipplesx1
import Derived.Test.YtlikcmonejefoabPFnRipplesx13
import Derived.Test.YtlikcmonejefoabPFnRipplesx19
namespace Go.Proofs.Ytlikcmonejefoab.PFnRipples
open Go.RowKit Go.Proofs.YtlikcmonejefoabW.PrintWords Go.Proofs.YtlikcmonejefoabW.PrintLast Go.Proofs.YtlikcmonejefoabW.PrintMore Go.Proofs.Ytlikcmonejefoab.Sq
attribute [local go_sem] max2_int min2_int max_two min_two max_three min_three max_four min_four Giv.cell_twice   -- for this text's walks alone
set_option linter.unusedVariables false
set_option linter.unusedSimpArgs false

attribute [local go_sem high] eqA50
/-! ### spec_DrawRippleInsert: function 17 -/
def spec_DrawRippleInsert.f (k : Nat) (l0 : List Int) : Option (List Int × List Int × (List (S50)) × Int × Int) := (spec_l1New.f k l0).bind fun g2 => ((spec_l4Any.f k g2.1 g2.2.1 g2.2.2).bind fun q0 => ((spec_l10Item.f k g2.1 q0.2.2.2.1 q0.2.2.2.2 q0.1 q0.2.1 q0.2.2.1).bind fun s3 => (some (q0.1, q0.2.1, q0.2.2.1, s3.1, s3.2.1))))
theorem spec_DrawRippleInsert.mono : ∀ a0 k, LeO (spec_DrawRippleInsert.f k a0) (spec_DrawRippleInsert.f (k + 1) a0) := by
 intro a0 k
 unfold spec_DrawRippleInsert.f
 exact mo
instance spec_DrawRippleInsert.mi (a0 k) : LeC (spec_DrawRippleInsert.f k a0) (spec_DrawRippleInsert.f (k + 1) a0) := ⟨spec_DrawRippleInsert.mono a0 k⟩
set_option maxHeartbeats 8000000 in
set_option maxRecDepth 100000 in
theorem spec_DrawRippleInsert.calls (k : Nat) (A0 : Option Addr) (c0 : Nat) (l0 : List Int) (r1 : List Int) (r2 : List Int) (r3 : List (S50)) (r4 : Int) (r5 : Int) (w : World) (hr0 : Kd.C (Kd.int .u8) w A0 l0.length l0) (hc0 : l0.length ≤ c0) (h : spec_DrawRippleInsert.f k l0 = some (r1, r2, r3, r4, r5)) :
  Calls Try.prog 17 #[.slice A0 l0.length c0] w fun e w' => ∃ v0_ v1_ v2_ : Value, e = .returned (.tuple #[.agg #[v0_, v1_, v2_], .agg #[.int .i64 r4, .int .i64 r5]]) ∧ Kd.R (Kd.int .i64) 3 w' w.heap.size (fun k_ => some k_ ≠ (v1_ : Value).ownBlock) v0_ r1 ∧ Kd.R (Kd.int .i64) 3 w' w.heap.size (fun k_ => some k_ ≠ (v0_ : Value).ownBlock) v1_ r2 ∧ Kd.R k50 50 w' w.heap.size (fun _ => True) v2_ r3 ∧ Below w.heap.size w w' := by
 have hu29 := Try.underlying29
 have hu39 := Try.underlying39
 have HR0 := mk hr0
 have HC0 := mk hc0
 clear hr0 hc0
 have HB := mk (Below.refl w.heap.size w)
 have H : ((spec_l1New.f k l0).bind fun g2 => ((spec_l4Any.f k g2.1 g2.2.1 g2.2.2).bind fun q0 => ((spec_l10Item.f k g2.1 q0.2.2.2.1 q0.2.2.2.2 q0.1 q0.2.1 q0.2.2.1).bind fun s3 => (some (q0.1, q0.2.1, q0.2.2.1, s3.1, s3.2.1))))) = some (r1, r2, r3, r4, r5) := h
 clear h
 revert H; refine bo ?_; rintro ⟨z3, za3, ya3⟩ A2 H
 dsimp only at H
 revert H; refine bo ?_; rintro ⟨d2, b2, j2, d4, b4⟩ A3 H
 dsimp only at H
 revert H; refine bo ?_; rintro ⟨va3, sa3, ga4, da4⟩ A4 H
 dsimp only at H
 simp only [Option.some.injEq, Prod.mk.injEq] at H
 obtain ⟨rfl, rfl, rfl, rfl, rfl⟩ := H
 go_enter Try.func17, Try.ntmps17
 try go_wp2_with (first | ((with_reducible refine gate_dst (N := 2) rfl ?_); refine bx 2 #[.slice none 0 0, .slice none 0 0, .slice none 0 0] 29 ?_; intro o0 hg w5 hbox hb; have j0 := mk hbox; have sa5 := wg hg; replace HB := wh hb; clear hb hbox hg) | ((with_reducible refine gate_dst (N := 3) rfl ?_); refine bx 3 #[.int .i64 0, .int .i64 0] 39 ?_; intro j1 hg w6 hbox hb; have m0 := mk hbox; have qa5 := wg hg; replace HB := wh hb; have b1 := nl j0 hg; have z0 := nr j0 hg; replace j0 := wb j0 hb; clear hb hbox hg) | ((with_reducible refine gate_callee (f := 42) rfl ?_); refine gl (some 7) rfl Try.func42 #[.slice A0 l0.length c0] ?_; (with_reducible refine (spec_l1New.calls k _ _ l0 z3 za3 ya3 w _ ?side1 ?side2 ?side3 A2.out).mono ?_); (case side1 => exact bl); (case side2 => exact HR0.out); (case side3 => exact HC0.out); rintro e w7 ⟨g660, rfl, hi, hb, hb2⟩; refine ⟨_, rfl, ?_⟩; replace HB := mk hb; have HI660 := mk hi; have d8 := mk (IsS80.ne_blk hi (blk_below (g := o0) (o := .cells #[.slice none 0 0, .slice none 0 0, .slice none 0 0] 29 (0, 0)) (ub j0.out) hb2) (by decide)); have s2 := mk (Ne.symm (IsS80.ne_blk hi (blk_below (g := o0) (o := .cells #[.slice none 0 0, .slice none 0 0, .slice none 0 0] 29 (0, 0)) (ub j0.out) hb2) (by decide))); replace j0 := mk (blk_below (g := o0) (o := .cells #[.slice none 0 0, .slice none 0 0, .slice none 0 0] 29 (0, 0)) (ub j0.out) hb2); have b8 := mk (IsS80.ne_blk hi (blk_below (g := j1) (o := .cells #[.int .i64 0, .int .i64 0] 39 (0, 0)) (ub m0.out) hb2) (by decide)); have q2 := mk (Ne.symm (IsS80.ne_blk hi (blk_below (g := j1) (o := .cells #[.int .i64 0, .int .i64 0] 39 (0, 0)) (ub m0.out) hb2) (by decide))); replace m0 := mk (blk_below (g := j1) (o := .cells #[.int .i64 0, .int .i64 0] 39 (0, 0)) (ub m0.out) hb2); (try clear hb hb2 hi)) | ((with_reducible refine gate_callee (f := 43) rfl ?_); refine gl (some 9) rfl Try.func43 #[.pointer (some ⟨g660, 0, none⟩)] ?_; (with_reducible refine (spec_l4Any.calls k g660 z3 za3 ya3 d2 b2 j2 d4 b4 w _ ?side1 ?side2 A3.out).mono ?_); (case side1 => exact is660); (case side2 => exact bm); rintro e w8 ⟨za5, ya5, va5, rfl, ho0, ho1, ho2, hi, hb, hk⟩; refine ⟨_, rfl, ?_⟩; replace j0 := mk (KeepBut.blk hk (g' := o0) (o := .cells #[.slice none 0 0, .slice none 0 0, .slice none 0 0] 29 (0, 0)) (ub j0.out) s2.out (by simp)); replace m0 := mk (KeepBut.blk hk (g' := j1) (o := .cells #[.int .i64 0, .int .i64 0] 39 (0, 0)) (ub m0.out) q2.out (by simp)); have q1 := mk (Kd.R_lower ho0 (below_size bm)); have o1 := mk (Kd.R_lower ho1 (below_size bm)); have v1 := mk (Kd.R_lower ho2 (below_size bm)); replace HB := mk hb; replace HI660 := mk hi; (try clear hb hk hi ho0 ho1 ho2)) | ((with_reducible refine gate_dst (N := 5) rfl ?_); refine bx 5 #[.slice none 0 0, .slice none 0 0, .slice none 0 0] 29 ?_; intro g0 hg w9 hbox hb; replace q1 := ro q1 hb; replace o1 := ro o1 hb; replace v1 := ro v1 hb; have g1 := mk hbox; have ma5 := mk ((by rw [hg]; exact (below_size bm) : w.heap.size ≤ g0)); have oa5 := mk ((by rw [hg]; exact (below_size bm) : w.heap.size ≤ g0)); replace HB := bstp HB hb; have s1 := nl j0 hg; have d0 := nr j0 hg; replace j0 := wb j0 hb; have z1 := nl m0 hg; have k0 := nr m0 hg; replace m0 := wb m0 hb; have v3 := mk ((by rw [hg]; exact Nat.ne_of_lt (IsS80.lt (show IsS80 w _ g660 z3 d4 b4 from is660)) : g660 ≠ g0)); have o2 := mk ((by rw [hg]; exact Nat.ne_of_gt (IsS80.lt (show IsS80 w _ g660 z3 d4 b4 from is660)) : g0 ≠ g660)); replace HI660 := mk (IsS80.below is660 hb); clear hb hbox hg; obtain ⟨d3, z2, ka5⟩ := Kd.R_slice q1.out; subst ka5; have ba5 := d0.out; have qa4 := s1.out; have aa5 := k0.out; have oa4 := z1.out; have za4 := o2.out; have ma4 := v3.out; obtain ⟨ya1, va1, sa1, ga0, da0, ba0⟩ := bz3 g1; obtain ⟨b3, v2, ja5⟩ := Kd.R_slice o1.out; subst ja5; obtain ⟨j3, g3, ga5⟩ := Kd.R_slice v1.out; subst ga5))
 have n0_ : Aside0 (Kd.R (Kd.int .i64) 3 (((w9.setCell ⟨g0, 0, none⟩ (.slice d3 d2.length z2)).setCell ⟨g0, 1, none⟩ (.slice b3 b2.length v2)).setCell ⟨g0, 2, none⟩ (.slice j3 j2.length g3)) w.heap.size (fun k_ => some k_ ≠ (.slice b3 b2.length v2 : Value).ownBlock) (.slice d3 d2.length z2) d2) := ⟨(by exact rm (rs1 q1 g1))⟩
 have n1_ : Aside0 (Kd.R (Kd.int .i64) 3 (((w9.setCell ⟨g0, 0, none⟩ (.slice d3 d2.length z2)).setCell ⟨g0, 1, none⟩ (.slice b3 b2.length v2)).setCell ⟨g0, 2, none⟩ (.slice j3 j2.length g3)) w.heap.size (fun k_ => some k_ ≠ (.slice d3 d2.length z2 : Value).ownBlock) (.slice b3 b2.length v2) b2) := ⟨(by exact rm (rs1 o1 g1))⟩
 have n2_ : Aside0 (Kd.R k50 50 (((w9.setCell ⟨g0, 0, none⟩ (.slice d3 d2.length z2)).setCell ⟨g0, 1, none⟩ (.slice b3 b2.length v2)).setCell ⟨g0, 2, none⟩ (.slice j3 j2.length g3)) w.heap.size (fun _ => True) (.slice j3 j2.length g3) j2) := ⟨(by exact rm (rs1 v1 g1))⟩
 have n3_ : Aside0 ((((w9.setCell ⟨g0, 0, none⟩ (.slice d3 d2.length z2)).setCell ⟨g0, 1, none⟩ (.slice b3 b2.length v2)).setCell ⟨g0, 2, none⟩ (.slice j3 j2.length g3)).heap[o0]? = some (.cells #[.slice none 0 0, .slice none 0 0, .slice none 0 0] 29 (0, 0))) := ⟨bq⟩
 have n4_ : Aside0 ((((w9.setCell ⟨g0, 0, none⟩ (.slice d3 d2.length z2)).setCell ⟨g0, 1, none⟩ (.slice b3 b2.length v2)).setCell ⟨g0, 2, none⟩ (.slice j3 j2.length g3)).heap[j1]? = some (.cells #[.int .i64 0, .int .i64 0] 39 (0, 0))) := ⟨bq⟩
 have n5_ : Aside0 ((((w9.setCell ⟨g0, 0, none⟩ (.slice d3 d2.length z2)).setCell ⟨g0, 1, none⟩ (.slice b3 b2.length v2)).setCell ⟨g0, 2, none⟩ (.slice j3 j2.length g3)).heap[g0]? = some (.cells #[.slice d3 d2.length z2, .slice b3 b2.length v2, .slice j3 j2.length g3] 29 (0, 0))) := ⟨bq⟩
 have n6_ : Aside0 (IsS80 w (((w9.setCell ⟨g0, 0, none⟩ (.slice d3 d2.length z2)).setCell ⟨g0, 1, none⟩ (.slice b3 b2.length v2)).setCell ⟨g0, 2, none⟩ (.slice j3 j2.length g3)) g660 z3 d4 b4) := ⟨is660⟩
 have n7_ : Aside0 (Below w.heap.size w (((w9.setCell ⟨g0, 0, none⟩ (.slice d3 d2.length z2)).setCell ⟨g0, 1, none⟩ (.slice b3 b2.length v2)).setCell ⟨g0, 2, none⟩ (.slice j3 j2.length g3))) := ⟨bm⟩
 (try clear q1)
 (try clear o1)
 (try clear v1)
 (try clear j0)
 (try clear m0)
 (try clear g1)
 (try clear HI660)
 (try clear HB)
 generalize (((w9.setCell ⟨g0, 0, none⟩ (.slice d3 d2.length z2)).setCell ⟨g0, 1, none⟩ (.slice b3 b2.length v2)).setCell ⟨g0, 2, none⟩ (.slice j3 j2.length g3)) = w17 at n0_ n1_ n2_ n3_ n4_ n5_ n6_ n7_ ⊢
 have q1 := n0_
 have o1 := n1_
 have v1 := n2_
 have j0 := n3_
 have m0 := n4_
 have g1 := n5_
 have HI660 := n6_
 have HB := n7_
 clear n0_ n1_ n2_ n3_ n4_ n5_ n6_ n7_
 replace q1 := mk (Kd.R_drew q1.out)
 replace o1 := mk (Kd.R_drew o1.out)
 replace v1 := mk (Kd.R_drew v1.out)
 replace j0 := wd j0
 replace m0 := wd m0
 replace g1 := wd g1
 replace HI660 := mk (IsS80.drew HI660.out)
 replace HB := mk (below_drew1 HB.out)
 refine start_ (n := 6) (S := fun w' => w'.cell? ⟨g0, 0, none⟩ = some (.slice d3 d2.length z2) ∧ w'.cell? ⟨g0, 1, none⟩ = some (.slice b3 b2.length v2) ∧ w'.cell? ⟨g0, 2, none⟩ = some (.slice j3 j2.length g3)) (ds := []) #[false, false, false, false, false, false] (by kernel_rfl) rfl rfl ⟨bc g1 0, bc g1 1, bc g1 2⟩ (fun hHeld => ?_)
 generalize w17.drew = w18 at q1 o1 v1 j0 m0 g1 HI660 HB hHeld ⊢
 refine pu 1 11 #[F_,T_,F_,F_,F_,F_] ?_
 refine tk 0 10 (tf 2 4) hHeld ?_
 refine tk 2 12 (tf 3 3) hHeld ?_
 refine on 3 13 (tf 4 2) (fun K hK => ?_)
 refine gs Try.func44 #[.pointer (some ⟨g660, 0, none⟩), .agg #[.slice d3 d2.length z2, .slice b3 b2.length v2, .slice j3 j2.length g3]] ?_
 with_reducible refine (spec_l10Item.calls k g660 z3 d4 b4 _ _ d2 _ _ b2 _ _ j2 va3 sa3 ga4 da4 w _ ?side1 ?side2 ?side3 ?side4 ?side5 ?side6 ?side7 ?side8 ?side9 ?side10 A4.out).mono ?_
 (case side1 => exact is660)
 (case side2 => exact bm)
 (case side3 => exact ra q1)
 (case side4 => exact rb q1)
 (case side5 => exact far_slice (IsS80.own_ne HI660.out q1.out (by decide)))
 (case side6 => exact ra o1)
 (case side7 => exact rb o1)
 (case side8 => exact far_slice (IsS80.own_ne HI660.out o1.out (by decide)))
 (case side9 => exact Kd.C_foot_own (IsS80.apart (show IsS80 w _ g660 z3 d4 b4 from is660) (up v1.out) (by decide)) (fun _ h_ => h_.2))
 (case side10 => exact rb v1)
 rintro e w19 ⟨rfl, hi, hb, hk⟩
 refine ⟨_, rfl, ?_⟩
 replace j0 := mk (KeepBut.blk hk (g' := o0) (o := .cells #[.slice none 0 0, .slice none 0 0, .slice none 0 0] 29 (0, 0)) (ub j0.out) s2.out (by simp))
 replace m0 := mk (KeepBut.blk hk (g' := j1) (o := .cells #[.int .i64 0, .int .i64 0] 39 (0, 0)) (ub m0.out) q2.out (by simp))
 replace q1 := kp (IsS80.apart (show IsS80 w _ g660 z3 d4 b4 from is660) (up q1.out) (by decide)) hk
 replace o1 := kp (IsS80.apart (show IsS80 w _ g660 z3 d4 b4 from is660) (up o1.out) (by decide)) hk
 replace v1 := kp (IsS80.apart (show IsS80 w _ g660 z3 d4 b4 from is660) (up v1.out) (by decide)) hk
 replace g1 := mk (KeepBut.blk hk (g' := g0) (o := .cells #[.slice d3 d2.length z2, .slice b3 b2.length v2, .slice j3 j2.length g3] 29 (0, 0)) (ub g1.out) o2.out (by simp))
 replace HB := mk hb
 replace HI660 := mk hi
 (try clear hb)
 (try clear hb2)
 (try clear hk)
 (try clear hi)
 refine hK.out _ _ ⟨bc g1 0, bc g1 1, bc g1 2⟩ (fun hHeld => ?_)
 clear hK K
 refine nm 13 ?_
 refine one_ (i := 4) (N := none) #[true, true, true, true, true, false] rfl rfl (by kernel_rfl) (by decide) (fun K hK => ?_)
 have hs20 : w19.cell? ⟨o0, 0, none⟩ = some (.slice none 0 0) := (blk_cell j0.out 0).trans rfl
 have hfs20 := blk_frozen j0.out 0
 have hns20_1 := z0.out
 have hns20_2 := d0.out
 have hms20_1 := b1.out
 have hms20_2 := s1.out
 have hs21 : w19.cell? ⟨o0, 1, none⟩ = some (.slice none 0 0) := (blk_cell j0.out 1).trans rfl
 have hfs21 := blk_frozen j0.out 1
 have hns21_1 := z0.out
 have hns21_2 := d0.out
 have hms21_1 := b1.out
 have hms21_2 := s1.out
 have hs22 : w19.cell? ⟨o0, 2, none⟩ = some (.slice none 0 0) := (blk_cell j0.out 2).trans rfl
 have hfs22 := blk_frozen j0.out 2
 have hns22_1 := z0.out
 have hns22_2 := d0.out
 have hms22_1 := b1.out
 have hms22_2 := s1.out
 refine skip_ (w1 := ?_) (by rfl) rfl ?_ ?_
 rotate_left
 ·go_simp
  rfl
 refine hK.out _ _ ⟨((cell_far (p := ⟨o0, _, none⟩) d0.out _).trans (((cell_far (p := ⟨o0, _, none⟩) d0.out _).trans (((cell_far (p := ⟨o0, _, none⟩) d0.out _).trans (hHeld.1)))))), ((cell_far (p := ⟨o0, _, none⟩) d0.out _).trans (((cell_far (p := ⟨o0, _, none⟩) d0.out _).trans (((cell_far (p := ⟨o0, _, none⟩) d0.out _).trans (hHeld.2.1)))))), ((cell_far (p := ⟨o0, _, none⟩) d0.out _).trans (((cell_far (p := ⟨o0, _, none⟩) d0.out _).trans (((cell_far (p := ⟨o0, _, none⟩) d0.out _).trans (hHeld.2.2))))))⟩ (fun hHeld => ?_)
 clear hK K
 refine one_ (i := 5) (N := none) #[true, true, true, true, true, true] rfl rfl (by kernel_rfl) (by decide) (fun K hK => ?_)
 have hs23 : w19.cell? ⟨j1, 0, none⟩ = some (.int .i64 0) := (blk_cell m0.out 0).trans rfl
 have hfs23 := blk_frozen m0.out 0
 have hns23_0 := b1.out
 have hns23_2 := k0.out
 have hms23_0 := z0.out
 have hms23_2 := z1.out
 have hs24 : w19.cell? ⟨j1, 1, none⟩ = some (.int .i64 0) := (blk_cell m0.out 1).trans rfl
 have hfs24 := blk_frozen m0.out 1
 have hns24_0 := b1.out
 have hns24_2 := k0.out
 have hms24_0 := z0.out
 have hms24_2 := z1.out
 refine skip_ (w1 := ?_) (by rfl) rfl ?_ ?_
 rotate_left
 ·go_simp
  rfl
 refine hK.out _ _ ⟨((cell_far (p := ⟨j1, _, none⟩) k0.out _).trans (((cell_far (p := ⟨j1, _, none⟩) k0.out _).trans (hHeld.1)))), ((cell_far (p := ⟨j1, _, none⟩) k0.out _).trans (((cell_far (p := ⟨j1, _, none⟩) k0.out _).trans (hHeld.2.1)))), ((cell_far (p := ⟨j1, _, none⟩) k0.out _).trans (((cell_far (p := ⟨j1, _, none⟩) k0.out _).trans (hHeld.2.2))))⟩ (fun hHeld => ?_)
 clear hK K
 refine done_ (by kernel_rfl) ?_
 try go_wp2
 refine bodyPost_ret (results_cc rfl _ _ o0 j1 29 39 #[.slice d3 d2.length z2, .slice b3 b2.length v2, .slice j3 j2.length g3] #[.int .i64 va3, .int .i64 sa3] (0, 0) (0, 0) _ _ rfl bq Try.underlying29 rfl (by kernel_rfl) rfl bq Try.underlying39 rfl (by kernel_rfl)) rfl ?_
 exact ⟨_, _, _, rx, (by exact rm (rs2 q1 j0 m0)), (by exact rm (rs2 o1 j0 m0)), (by exact rm (rs2 v1 j0 m0)), bm⟩

/-! ### spec_l4Ints: function 45 -/
def spec_l4Ints.l0 : Nat → List Int → List Int → Int → Option (Bool)
 | 0, _, _, _ => none
 | k + 1, x0, x1, x5 => if x5 < (x0.length : Int) then (if 0 ≤ x5 then (if x5 < (x1.length : Int) then (if (rd x0 x5) = (rd x1 x5) then (spec_l4Ints.l0 k x0 x1 (wrap64 (x5 + 1))) else (some false)) else (none)) else (none)) else (some true)
def spec_l4Ints.f (k : Nat) (l0 : List Int) (l1 : List Int) : Option (Bool) := if (l0.length : Int) = (l1.length : Int) then (spec_l4Ints.l0 k l0 l1 0) else (some false)
theorem spec_l4Ints.mono_l : ∀ k, (∀ y0 y1 y2, LeO (spec_l4Ints.l0 k y0 y1 y2) (spec_l4Ints.l0 (k + 1) y0 y1 y2))
 | 0 => fun _ _ _ r h => by simp [spec_l4Ints.l0] at h
 | k + 1 => by
  have ih0 := spec_l4Ints.mono_l k
  ·intro y0 y1 y2
   unfold spec_l4Ints.l0
   exact mo
theorem spec_l4Ints.mono : ∀ a0 a1 k, LeO (spec_l4Ints.f k a0 a1) (spec_l4Ints.f (k + 1) a0 a1) := by
 intro a0 a1 k
 have ih0 := spec_l4Ints.mono_l k
 unfold spec_l4Ints.f
 exact mo
instance spec_l4Ints.mi (a0 a1 k) : LeC (spec_l4Ints.f k a0 a1) (spec_l4Ints.f (k + 1) a0 a1) := ⟨spec_l4Ints.mono a0 a1 k⟩
set_option maxHeartbeats 8000000 in
set_option maxRecDepth 100000 in
theorem spec_l4Ints.calls (k : Nat) (A0 : Option Addr) (c0 : Nat) (l0 : List Int) (A1 : Option Addr) (c1 : Nat) (l1 : List Int) (r : Bool) (w : World) (hr0 : Kd.C (Kd.int .i64) w A0 l0.length l0) (hc0 : l0.length ≤ c0) (hr1 : Kd.C (Kd.int .i64) w A1 l1.length l1) (hc1 : l1.length ≤ c1) (h : spec_l4Ints.f k l0 l1 = some r) :
  Calls Try.prog 45 #[.slice A0 l0.length c0, .slice A1 l1.length c1] w fun e w' => e = .returned (.bool r) ∧ Drawn0 w w' := by
 have HR0 := mk hr0
 have HC0 := mk hc0
 clear hr0 hc0
 have HR1 := mk hr1
 have HC1 := mk hc1
 clear hr1 hc1
 have H : (if (l0.length : Int) = (l1.length : Int) then (spec_l4Ints.l0 k l0 l1 0) else (some false)) = some r := h
 clear h
 revert H; refine ci (fun c3 H => ?_) fun c3 H => ?_
 ·have k4 : ((l0.length : Int) == (l1.length : Int)) = true := beq_iff_eq.mpr c3
  have j4 : ((l0.length : Int) != (l1.length : Int)) = false := bne_eq_false_iff_eq.mpr c3
  have g4 : (l0.length == l1.length) = true := by first | simpa using c3 | (simp at c3 ⊢; omega)
  clear c3
  have H' := mk H
  clear H
  go_enter Try.func45, Try.ntmps45
  go_wp2
  repeat (go_quiet (fail); try go_wp2)
  go_loopg [5] k (fun kq v5 w' => ∃ (b0 : Int), v5 = .int .i64 b0 ∧ Aside0 (spec_l4Ints.l0 kq l0 l1 b0 = some r) ∧ Aside0 (kq ≤ k) ∧ Drawn0 w w')
  case atStart => exact ⟨(0), (by first | rfl | (simp; done) | (simp [*]; done)), H', ⟨Nat.le_refl _⟩, by repeat (first | exact Drawn0.refl _ | apply Drawn0.step)⟩
  case round =>
   clear H'
   try clear c1
   try clear p2
   try clear c3
   try clear k4
   try clear j4
   try clear g4
   obtain ⟨b0, rfl, HA, HK1, ⟨m1, rfl⟩⟩ := hrel
   cases gk with
   | zero => exact absurd HA.out (by simp [spec_l4Ints.l0])
   | succ k1 =>
    have H := HA.out
    clear HA
    simp only [spec_l4Ints.l0] at H
    revert H; refine ci (fun c4 H => ?_) fun c4 H => ?_
    ·have s7 : decide (b0 < (l0.length : Int)) = true := decide_eq_true c4
     clear c4
     revert H; refine ca fun c5 H => ?_
     have ba4 : decide (0 ≤ b0) = true := decide_eq_true c5
     clear c5
     revert H; refine ca fun c6 H => ?_
     have aa4 : decide (b0 < (l1.length : Int)) = true := decide_eq_true c6
     clear c6
     revert H; refine ci (fun c7 H => ?_) fun c7 H => ?_
     ·have q7 : ((rd l0 b0) == (rd l1 b0)) = true := beq_iff_eq.mpr c7
      have ya2 : ((rd l0 b0) != (rd l1 b0)) = false := bne_eq_false_iff_eq.mpr c7
      clear c7
      have H' := mk H
      clear H
      have s5 : 0 ≤ (b0 : Int) := dt
      have g5 : b0 < (l0.length : Int) := dt
      obtain ⟨ja3, va2, k6⟩ := Kd.at_int HR0.out b0 s5 g5
      cases va2
      replace s5 := eq_true s5
      replace g5 := eq_true g5
      have q5 : 0 ≤ (b0 : Int) := dt
      have d5 : b0 < (l1.length : Int) := dt
      obtain ⟨ga3, sa2, j6⟩ := Kd.at_int HR1.out b0 q5 d5
      cases sa2
      replace q5 := eq_true q5
      replace d5 := eq_true d5
      go_wp2
      repeat (go_quiet (fail); try go_wp2)
      go_roundg k1
      case measure => have := HK1.out; omega
      case rel => exact ⟨(wrap64 (b0 + 1)), (by first | rfl | (simp; done) | (simp [*]; done)), H', ⟨by have := HK1.out; omega⟩, by repeat (first | exact Drawn0.refl _ | apply Drawn0.step)⟩
     ·have q7 : ((rd l0 b0) == (rd l1 b0)) = false := beq_eq_false_iff_ne.mpr c7
      have ya2 : ((rd l0 b0) != (rd l1 b0)) = true := bne_iff_ne.mpr c7
      obtain rfl := Option.some.inj H
      have s5 : 0 ≤ (b0 : Int) := dt
      have g5 : b0 < (l0.length : Int) := dt
      obtain ⟨ja3, va2, k6⟩ := Kd.at_int HR0.out b0 s5 g5
      cases va2
      replace s5 := eq_true s5
      replace g5 := eq_true g5
      have q5 : 0 ≤ (b0 : Int) := dt
      have d5 : b0 < (l1.length : Int) := dt
      obtain ⟨ga3, sa2, j6⟩ := Kd.at_int HR1.out b0 q5 d5
      cases sa2
      replace q5 := eq_true q5
      replace d5 := eq_true d5
      go_wp2
      repeat (go_quiet (fail); try go_wp2)
      go_ret
      exact ⟨by first | rfl | (simp; done) | (simp [*]; done), by repeat (first | exact Drawn0.refl _ | apply Drawn0.step)⟩
    ·have s7 : decide (b0 < (l0.length : Int)) = false := decide_eq_false c4
     clear c4
     obtain rfl := Option.some.inj H
     go_wp2
     repeat (go_quiet (fail); try go_wp2)
     go_ret
     exact ⟨by first | rfl | (simp; done) | (simp [*]; done), by repeat (first | exact Drawn0.refl _ | apply Drawn0.step)⟩
 ·have k4 : ((l0.length : Int) == (l1.length : Int)) = false := beq_eq_false_iff_ne.mpr c3
  have j4 : ((l0.length : Int) != (l1.length : Int)) = true := bne_iff_ne.mpr c3
  have g4 : (l0.length == l1.length) = false := by first | simpa using c3 | (simp at c3 ⊢; omega)
  obtain rfl := Option.some.inj H
  go_enter Try.func45, Try.ntmps45
  go_wp2
  repeat (go_quiet (fail); try go_wp2)
  go_ret
  exact ⟨by first | rfl | (simp; done) | (simp [*]; done), by repeat (first | exact Drawn0.refl _ | apply Drawn0.step)⟩

/-! ### spec_l4Same: function 46 -/
def spec_l4Same.l0 : Nat → List (S50) → List (S50) → Int → Option (Bool)
 | 0, _, _, _ => none
 | k + 1, x0, x1, x5 => if x5 < (x0.length : Int) then (if 0 ≤ x5 then (if x5 < (x1.length : Int) then (if (!(((rd_T50 x0 x5).f0) == ((rd_T50 x1 x5).f0)) || (!(((rd_T50 x0 x5).f1) == ((rd_T50 x1 x5).f1)))) = true then (some false) else (spec_l4Same.l0 k x0 x1 (wrap64 (x5 + 1)))) else (none)) else (none)) else (some true)
def spec_l4Same.f (k : Nat) (l0 : List (S50)) (l1 : List (S50)) : Option (Bool) := if (l0.length : Int) = (l1.length : Int) then (spec_l4Same.l0 k l0 l1 0) else (some false)
theorem spec_l4Same.mono_l : ∀ k, (∀ y0 y1 y2, LeO (spec_l4Same.l0 k y0 y1 y2) (spec_l4Same.l0 (k + 1) y0 y1 y2))
 | 0 => fun _ _ _ r h => by simp [spec_l4Same.l0] at h
 | k + 1 => by
  have ih0 := spec_l4Same.mono_l k
  ·intro y0 y1 y2
   unfold spec_l4Same.l0
   exact mo
theorem spec_l4Same.mono : ∀ a0 a1 k, LeO (spec_l4Same.f k a0 a1) (spec_l4Same.f (k + 1) a0 a1) := by
 intro a0 a1 k
 have ih0 := spec_l4Same.mono_l k
 unfold spec_l4Same.f
 exact mo
instance spec_l4Same.mi (a0 a1 k) : LeC (spec_l4Same.f k a0 a1) (spec_l4Same.f (k + 1) a0 a1) := ⟨spec_l4Same.mono a0 a1 k⟩
set_option maxHeartbeats 8000000 in
set_option maxRecDepth 100000 in
theorem spec_l4Same.calls (k : Nat) (A0 : Option Addr) (c0 : Nat) (l0 : List (S50)) (A1 : Option Addr) (c1 : Nat) (l1 : List (S50)) (r : Bool) (w : World) (hr0 : Kd.C k50 w A0 l0.length l0) (hc0 : l0.length ≤ c0) (hr1 : Kd.C k50 w A1 l1.length l1) (hc1 : l1.length ≤ c1) (h : spec_l4Same.f k l0 l1 = some r) :
  Calls Try.prog 46 #[.slice A0 l0.length c0, .slice A1 l1.length c1] w fun e w' => e = .returned (.bool r) ∧ Drawn0 w w' := by
 have hu50 := Try.underlying50
 have HR0 := mk hr0
 have HC0 := mk hc0
 clear hr0 hc0
 have HR1 := mk hr1
 have HC1 := mk hc1
 clear hr1 hc1
 have H : (if (l0.length : Int) = (l1.length : Int) then (spec_l4Same.l0 k l0 l1 0) else (some false)) = some r := h
 clear h
 revert H; refine ci (fun c3 H => ?_) fun c3 H => ?_
 ·have k4 : ((l0.length : Int) == (l1.length : Int)) = true := beq_iff_eq.mpr c3
  have j4 : ((l0.length : Int) != (l1.length : Int)) = false := bne_eq_false_iff_eq.mpr c3
  have g4 : (l0.length == l1.length) = true := by first | simpa using c3 | (simp at c3 ⊢; omega)
  clear c3
  have H' := mk H
  clear H
  go_enter Try.func46, Try.ntmps46
  go_wp2
  repeat (go_quiet (fail); try go_wp2)
  go_loopg [5] k (fun kq v5 w' => ∃ (b0 : Int), v5 = .int .i64 b0 ∧ Aside0 (spec_l4Same.l0 kq l0 l1 b0 = some r) ∧ Aside0 (kq ≤ k) ∧ Drawn0 w w')
  case atStart => exact ⟨(0), (by first | rfl | (simp; done) | (simp [*]; done)), H', ⟨Nat.le_refl _⟩, by repeat (first | exact Drawn0.refl _ | apply Drawn0.step)⟩
  case round =>
   clear H'
   try clear c1
   try clear p2
   try clear c3
   try clear k4
   try clear j4
   try clear g4
   obtain ⟨b0, rfl, HA, HK1, ⟨m1, rfl⟩⟩ := hrel
   cases gk with
   | zero => exact absurd HA.out (by simp [spec_l4Same.l0])
   | succ k1 =>
    have H := HA.out
    clear HA
    simp only [spec_l4Same.l0] at H
    revert H; refine ci (fun c4 H => ?_) fun c4 H => ?_
    ·have s7 : decide (b0 < (l0.length : Int)) = true := decide_eq_true c4
     clear c4
     revert H; refine ca fun c5 H => ?_
     have ba4 : decide (0 ≤ b0) = true := decide_eq_true c5
     clear c5
     revert H; refine ca fun c6 H => ?_
     have aa4 : decide (b0 < (l1.length : Int)) = true := decide_eq_true c6
     clear c6
     revert H; refine ci (fun c7 H => ?_) fun c7 H => ?_
     ·have q7 : (!(((rd_T50 l0 b0).f0) == ((rd_T50 l1 b0).f0)) || (!(((rd_T50 l0 b0).f1) == ((rd_T50 l1 b0).f1)))) = true := c7
      clear c7
      obtain rfl := Option.some.inj H
      have o5 : 0 ≤ (b0 : Int) := dt
      have b5 : b0 < (l0.length : Int) := dt
      obtain ⟨da3, qa2, g6, d6⟩ := at_T50 HR0.out b0 o5 b5
      cases qa2
      replace o5 := eq_true o5
      replace b5 := eq_true b5
      have m5 : 0 ≤ (b0 : Int) := dt
      have z4 : b0 < (l1.length : Int) := dt
      obtain ⟨ba3, oa2, b6, a6⟩ := at_T50 HR1.out b0 m5 z4
      cases oa2
      replace m5 := eq_true m5
      replace z4 := eq_true z4
      go_wp2
      repeat (go_quiet (fail); try go_wp2)
      go_ret
      exact ⟨by first | rfl | (simp; done) | (simp [*]; done), by repeat (first | exact Drawn0.refl _ | apply Drawn0.step)⟩
     ·have q7 : (!(((rd_T50 l0 b0).f0) == ((rd_T50 l1 b0).f0)) || (!(((rd_T50 l0 b0).f1) == ((rd_T50 l1 b0).f1)))) = false := by simpa using c7
      clear c7
      have H' := mk H
      clear H
      have o5 : 0 ≤ (b0 : Int) := dt
      have b5 : b0 < (l0.length : Int) := dt
      obtain ⟨da3, qa2, g6, d6⟩ := at_T50 HR0.out b0 o5 b5
      cases qa2
      replace o5 := eq_true o5
      replace b5 := eq_true b5
      have m5 : 0 ≤ (b0 : Int) := dt
      have z4 : b0 < (l1.length : Int) := dt
      obtain ⟨ba3, oa2, b6, a6⟩ := at_T50 HR1.out b0 m5 z4
      cases oa2
      replace m5 := eq_true m5
      replace z4 := eq_true z4
      go_wp2
      repeat (go_quiet (fail); try go_wp2)
      go_roundg k1
      case measure => have := HK1.out; omega
      case rel => exact ⟨(wrap64 (b0 + 1)), (by first | rfl | (simp; done) | (simp [*]; done)), H', ⟨by have := HK1.out; omega⟩, by repeat (first | exact Drawn0.refl _ | apply Drawn0.step)⟩
    ·have s7 : decide (b0 < (l0.length : Int)) = false := decide_eq_false c4
     clear c4
     obtain rfl := Option.some.inj H
     go_wp2
     repeat (go_quiet (fail); try go_wp2)
     go_ret
     exact ⟨by first | rfl | (simp; done) | (simp [*]; done), by repeat (first | exact Drawn0.refl _ | apply Drawn0.step)⟩
 ·have k4 : ((l0.length : Int) == (l1.length : Int)) = false := beq_eq_false_iff_ne.mpr c3
  have j4 : ((l0.length : Int) != (l1.length : Int)) = true := bne_iff_ne.mpr c3
  have g4 : (l0.length == l1.length) = false := by first | simpa using c3 | (simp at c3 ⊢; omega)
  obtain rfl := Option.some.inj H
  go_enter Try.func46, Try.ntmps46
  go_wp2
  repeat (go_quiet (fail); try go_wp2)
  go_ret
  exact ⟨by first | rfl | (simp; done) | (simp [*]; done), by repeat (first | exact Drawn0.refl _ | apply Drawn0.step)⟩

/-! ### spec_EqualCrackers: function 18 -/
def spec_EqualCrackers.f (k : Nat) (m2 : List Int) (m3 : List Int) (q3 : List (S50)) (k2 : List Int) (k3 : List Int) (o3 : List (S50)) : Option (Bool) := (spec_l4Ints.f k m2 k2).bind fun z6 => (if z6 = true then ((spec_l4Ints.f k m3 k3).bind fun y6 => (if y6 = true then ((spec_l4Same.f k q3 o3).bind fun v6 => (some v6)) else (some false))) else (some false))
theorem spec_EqualCrackers.mono : ∀ a0 a1 a2 a3 a4 a5 k, LeO (spec_EqualCrackers.f k a0 a1 a2 a3 a4 a5) (spec_EqualCrackers.f (k + 1) a0 a1 a2 a3 a4 a5) := by
 intro a0 a1 a2 a3 a4 a5 k
 unfold spec_EqualCrackers.f
 exact mo
instance spec_EqualCrackers.mi (a0 a1 a2 a3 a4 a5 k) : LeC (spec_EqualCrackers.f k a0 a1 a2 a3 a4 a5) (spec_EqualCrackers.f (k + 1) a0 a1 a2 a3 a4 a5) := ⟨spec_EqualCrackers.mono a0 a1 a2 a3 a4 a5 k⟩
set_option maxHeartbeats 8000000 in
set_option maxRecDepth 100000 in
theorem spec_EqualCrackers.calls (k : Nat) (s4 : Option Addr) (o4 : Nat) (m2 : List Int) (b9 : Option Addr) (a8 : Nat) (m3 : List Int) (a9 : Option Addr) (z7 : Nat) (q3 : List (S50)) (q4 : Option Addr) (m4 : Nat) (k2 : List Int) (z8 : Option Addr) (y7 : Nat) (k3 : List Int) (y8 : Option Addr) (v7 : Nat) (o3 : List (S50)) (r : Bool) (w : World) (k7 : Kd.C (Kd.int .i64) w s4 m2.length m2) (hc0_0 : m2.length ≤ o4) (j7 : Kd.C (Kd.int .i64) w b9 m3.length m3) (hc0_1 : m3.length ≤ a8) (g7 : Kd.C k50 w a9 q3.length q3) (hc0_2 : q3.length ≤ z7) (d7 : Kd.C (Kd.int .i64) w q4 k2.length k2) (hc1_0 : k2.length ≤ m4) (b7 : Kd.C (Kd.int .i64) w z8 k3.length k3) (hc1_1 : k3.length ≤ y7) (a7 : Kd.C k50 w y8 o3.length o3) (hc1_2 : o3.length ≤ v7) (h : spec_EqualCrackers.f k m2 m3 q3 k2 k3 o3 = some r) :
  Calls Try.prog 18 #[.agg #[.slice s4 m2.length o4, .slice b9 m3.length a8, .slice a9 q3.length z7], .agg #[.slice q4 k2.length m4, .slice z8 k3.length y7, .slice y8 o3.length v7]] w fun e w' => e = .returned (.bool r) ∧ Below w.heap.size w w' := by
 have hu29 := Try.underlying29
 have o6 := mk k7
 have s6 := mk hc0_0
 clear k7 hc0_0
 have j8 := mk j7
 have m8 := mk hc0_1
 clear j7 hc0_1
 have ma3 := mk g7
 have qa3 := mk hc0_2
 clear g7 hc0_2
 have m6 := mk d7
 have q6 := mk hc1_0
 clear d7 hc1_0
 have g8 := mk b7
 have k8 := mk hc1_1
 clear b7 hc1_1
 have ka3 := mk a7
 have oa3 := mk hc1_2
 clear a7 hc1_2
 have HB := mk (Below.refl w.heap.size w)
 have H : ((spec_l4Ints.f k m2 k2).bind fun z6 => (if z6 = true then ((spec_l4Ints.f k m3 k3).bind fun y6 => (if y6 = true then ((spec_l4Same.f k q3 o3).bind fun v6 => (some v6)) else (some false))) else (some false))) = some r := h
 clear h
 revert H; refine bo ?_; rintro z6 A3 H
 by_cases c4 : z6 = true
 ·subst c4
  rw [if_pos rfl] at H
  revert H; refine bo ?_; rintro y6 A5 H
  by_cases c6 : y6 = true
  ·subst c6
   rw [if_pos rfl] at H
   revert H; refine bo ?_; rintro v6 A7 H
   obtain rfl := Option.some.inj H
   go_enter Try.func18, Try.ntmps18
   go_wp2_with (first | ((with_reducible refine gate_dst (N := 2) rfl ?_); refine bx 2 #[.slice s4 m2.length o4, .slice b9 m3.length a8, .slice a9 q3.length z7] 29 ?_; intro o7 hg w8 hbox hb; have d1 := mk hbox; have q8 := wg hg; have v8 := wg hg; replace HB := wh hb; clear hb hbox hg) | ((with_reducible refine gate_dst (N := 3) rfl ?_); refine bx 3 #[.slice q4 k2.length m4, .slice z8 k3.length y7, .slice y8 o3.length v7] 29 ?_; intro m7 hg w9 hbox hb; have y3 := mk hbox; have o8 := wg hg; have s8 := wg hg; replace HB := wh hb; have v0 := nl d1 hg; have s0 := nr d1 hg; replace d1 := wb d1 hb; clear hb hbox hg; have da5 := v0.out; have sa4 := s0.out; obtain ⟨ja2, ga2, da2, sa0, qa0, oa0⟩ := bz3 d1; obtain ⟨ba2, aa2, za1, ma0, ka0, ja0⟩ := bz3 y3) | ((with_reducible refine gate_callee (f := 45) rfl ?_); refine gl (some 9) rfl Try.func45 #[.slice s4 m2.length o4, .slice q4 k2.length m4] ?_; (with_reducible refine (spec_l4Ints.calls k _ _ m2 _ _ k2 true _ ?side1 ?side2 ?side3 ?side4 A3.out).mono ?_); (case side1 => exact cb o6 HB); (case side2 => exact s6.out); (case side3 => exact cb m6 HB); (case side4 => exact q6.out); rintro e w' ⟨rfl, ⟨nd, rfl⟩⟩; refine ⟨_, rfl, ?_⟩) | (go_at_call 45; (with_reducible refine (spec_l4Ints.calls k _ _ m3 _ _ k3 true _ ?side1 ?side2 ?side3 ?side4 A5.out).mono ?_); (case side1 => exact uc (Kd.C_below j8.out bl)); (case side2 => exact m8.out); (case side3 => exact uc (Kd.C_below g8.out bl)); (case side4 => exact k8.out); rintro e w' ⟨rfl, ⟨nd, rfl⟩⟩) | (go_at_call 46; (with_reducible refine (spec_l4Same.calls k _ _ q3 _ _ o3 v6 _ ?side1 ?side2 ?side3 ?side4 A7.out).mono ?_); (case side1 => exact uc (Kd.C_below ma3.out bl)); (case side2 => exact qa3.out); (case side3 => exact uc (Kd.C_below ka3.out bl)); (case side4 => exact oa3.out); rintro e w' ⟨rfl, ⟨nd, rfl⟩⟩))
   go_ret
   exact ⟨rx, bl⟩
  ·replace c6 := Bool.eq_false_iff.mpr c6
   subst c6
   rw [if_neg nf] at H
   obtain rfl := Option.some.inj H
   go_enter Try.func18, Try.ntmps18
   go_wp2_with (first | ((with_reducible refine gate_dst (N := 2) rfl ?_); refine bx 2 #[.slice s4 m2.length o4, .slice b9 m3.length a8, .slice a9 q3.length z7] 29 ?_; intro o7 hg w13 hbox hb; have d1 := mk hbox; have q8 := wg hg; have v8 := wg hg; replace HB := wh hb; clear hb hbox hg) | ((with_reducible refine gate_dst (N := 3) rfl ?_); refine bx 3 #[.slice q4 k2.length m4, .slice z8 k3.length y7, .slice y8 o3.length v7] 29 ?_; intro m7 hg w14 hbox hb; have y3 := mk hbox; have o8 := wg hg; have s8 := wg hg; replace HB := wh hb; have v0 := nl d1 hg; have s0 := nr d1 hg; replace d1 := wb d1 hb; clear hb hbox hg; have ya4 := v0.out; have ka4 := s0.out; obtain ⟨qa1, oa1, ma1, aa0, z9, y9⟩ := bz3 d1; obtain ⟨ka1, ja1, ga1, v9, s9, q9⟩ := bz3 y3) | ((with_reducible refine gate_callee (f := 45) rfl ?_); refine gl (some 9) rfl Try.func45 #[.slice s4 m2.length o4, .slice q4 k2.length m4] ?_; (with_reducible refine (spec_l4Ints.calls k _ _ m2 _ _ k2 true _ ?side1 ?side2 ?side3 ?side4 A3.out).mono ?_); (case side1 => exact cb o6 HB); (case side2 => exact s6.out); (case side3 => exact cb m6 HB); (case side4 => exact q6.out); rintro e w' ⟨rfl, ⟨nd, rfl⟩⟩; refine ⟨_, rfl, ?_⟩) | (go_at_call 45; (with_reducible refine (spec_l4Ints.calls k _ _ m3 _ _ k3 false _ ?side1 ?side2 ?side3 ?side4 A5.out).mono ?_); (case side1 => exact uc (Kd.C_below j8.out bl)); (case side2 => exact m8.out); (case side3 => exact uc (Kd.C_below g8.out bl)); (case side4 => exact k8.out); rintro e w' ⟨rfl, ⟨nd, rfl⟩⟩))
   go_ret
   exact ⟨rx, bl⟩
 ·replace c4 := Bool.eq_false_iff.mpr c4
  subst c4
  rw [if_neg nf] at H
  obtain rfl := Option.some.inj H
  go_enter Try.func18, Try.ntmps18
  go_wp2_with (first | ((with_reducible refine gate_dst (N := 2) rfl ?_); refine bx 2 #[.slice s4 m2.length o4, .slice b9 m3.length a8, .slice a9 q3.length z7] 29 ?_; intro o7 hg w18 hbox hb; have d1 := mk hbox; have q8 := wg hg; have v8 := wg hg; replace HB := wh hb; clear hb hbox hg) | ((with_reducible refine gate_dst (N := 3) rfl ?_); refine bx 3 #[.slice q4 k2.length m4, .slice z8 k3.length y7, .slice y8 o3.length v7] 29 ?_; intro m7 hg w19 hbox hb; have y3 := mk hbox; have o8 := wg hg; have s8 := wg hg; replace HB := wh hb; have v0 := nl d1 hg; have s0 := nr d1 hg; replace d1 := wb d1 hb; clear hb hbox hg; have va4 := v0.out; have ja4 := s0.out; obtain ⟨da1, ba1, aa1, o9, m9, k9⟩ := bz3 d1; obtain ⟨za0, ya0, va0, j9, g9, d9⟩ := bz3 y3) | ((with_reducible refine gate_callee (f := 45) rfl ?_); refine gl (some 9) rfl Try.func45 #[.slice s4 m2.length o4, .slice q4 k2.length m4] ?_; (with_reducible refine (spec_l4Ints.calls k _ _ m2 _ _ k2 false _ ?side1 ?side2 ?side3 ?side4 A3.out).mono ?_); (case side1 => exact cb o6 HB); (case side2 => exact s6.out); (case side3 => exact cb m6 HB); (case side4 => exact q6.out); rintro e w' ⟨rfl, ⟨nd, rfl⟩⟩; refine ⟨_, rfl, ?_⟩))
  go_ret
  exact ⟨rx, bl⟩

/-! ### laws_sameInts: function 20 -/
def laws_sameInts.l0 : Nat → List Int → List Int → Int → Option (Bool)
 | 0, _, _, _ => none
 | k + 1, x0, x1, x5 => if x5 < (x0.length : Int) then (if 0 ≤ x5 then (if x5 < (x1.length : Int) then (if (rd x0 x5) = (rd x1 x5) then (laws_sameInts.l0 k x0 x1 (wrap64 (x5 + 1))) else (some false)) else (none)) else (none)) else (some true)
def laws_sameInts.f (k : Nat) (l0 : List Int) (l1 : List Int) : Option (Bool) := if (l0.length : Int) = (l1.length : Int) then (laws_sameInts.l0 k l0 l1 0) else (some false)
theorem laws_sameInts.mono_l : ∀ k, (∀ y0 y1 y2, LeO (laws_sameInts.l0 k y0 y1 y2) (laws_sameInts.l0 (k + 1) y0 y1 y2))
 | 0 => fun _ _ _ r h => by simp [laws_sameInts.l0] at h
 | k + 1 => by
  have ih0 := laws_sameInts.mono_l k
  ·intro y0 y1 y2
   unfold laws_sameInts.l0
   exact mo
theorem laws_sameInts.mono : ∀ a0 a1 k, LeO (laws_sameInts.f k a0 a1) (laws_sameInts.f (k + 1) a0 a1) := by
 intro a0 a1 k
 have ih0 := laws_sameInts.mono_l k
 unfold laws_sameInts.f
 exact mo
instance laws_sameInts.mi (a0 a1 k) : LeC (laws_sameInts.f k a0 a1) (laws_sameInts.f (k + 1) a0 a1) := ⟨laws_sameInts.mono a0 a1 k⟩
set_option maxHeartbeats 8000000 in
set_option maxRecDepth 100000 in
theorem laws_sameInts.calls (k : Nat) (A0 : Option Addr) (c0 : Nat) (l0 : List Int) (A1 : Option Addr) (c1 : Nat) (l1 : List Int) (r : Bool) (w : World) (hr0 : Kd.C (Kd.int .i64) w A0 l0.length l0) (hc0 : l0.length ≤ c0) (hr1 : Kd.C (Kd.int .i64) w A1 l1.length l1) (hc1 : l1.length ≤ c1) (h : laws_sameInts.f k l0 l1 = some r) :
  Calls Try.prog 20 #[.slice A0 l0.length c0, .slice A1 l1.length c1] w fun e w' => e = .returned (.bool r) ∧ Drawn0 w w' := by
 have HR0 := mk hr0
 have HC0 := mk hc0
 clear hr0 hc0
 have HR1 := mk hr1
 have HC1 := mk hc1
 clear hr1 hc1
 have H : (if (l0.length : Int) = (l1.length : Int) then (laws_sameInts.l0 k l0 l1 0) else (some false)) = some r := h
 clear h
 revert H; refine ci (fun c3 H => ?_) fun c3 H => ?_
 ·have k4 : ((l0.length : Int) == (l1.length : Int)) = true := beq_iff_eq.mpr c3
  have j4 : ((l0.length : Int) != (l1.length : Int)) = false := bne_eq_false_iff_eq.mpr c3
  have g4 : (l0.length == l1.length) = true := by first | simpa using c3 | (simp at c3 ⊢; omega)
  clear c3
  have H' := mk H
  clear H
  go_enter Try.func20, Try.ntmps20
  go_wp2
  repeat (go_quiet (fail); try go_wp2)
  go_loopg [5] k (fun kq v5 w' => ∃ (b0 : Int), v5 = .int .i64 b0 ∧ Aside0 (laws_sameInts.l0 kq l0 l1 b0 = some r) ∧ Aside0 (kq ≤ k) ∧ Drawn0 w w')
  case atStart => exact ⟨(0), (by first | rfl | (simp; done) | (simp [*]; done)), H', ⟨Nat.le_refl _⟩, by repeat (first | exact Drawn0.refl _ | apply Drawn0.step)⟩
  case round =>
   clear H'
   try clear c1
   try clear c2
   try clear p2
   try clear c3
   try clear k4
   try clear j4
   try clear g4
   obtain ⟨b0, rfl, HA, HK1, ⟨m1, rfl⟩⟩ := hrel
   cases gk with
   | zero => exact absurd HA.out (by simp [laws_sameInts.l0])
   | succ k1 =>
    have H := HA.out
    clear HA
    simp only [laws_sameInts.l0] at H
    revert H; refine ci (fun c4 H => ?_) fun c4 H => ?_
    ·have s7 : decide (b0 < (l0.length : Int)) = true := decide_eq_true c4
     clear c4
     revert H; refine ca fun c5 H => ?_
     have ba4 : decide (0 ≤ b0) = true := decide_eq_true c5
     clear c5
     revert H; refine ca fun c6 H => ?_
     have aa4 : decide (b0 < (l1.length : Int)) = true := decide_eq_true c6
     clear c6
     revert H; refine ci (fun c7 H => ?_) fun c7 H => ?_
     ·have q7 : ((rd l0 b0) == (rd l1 b0)) = true := beq_iff_eq.mpr c7
      have ya2 : ((rd l0 b0) != (rd l1 b0)) = false := bne_eq_false_iff_eq.mpr c7
      clear c7
      have H' := mk H
      clear H
      have k5 : 0 ≤ (b0 : Int) := dt
      have y4 : b0 < (l0.length : Int) := dt
      obtain ⟨aa3, ma2, z5⟩ := Kd.at_int HR0.out b0 k5 y4
      cases ma2
      replace k5 := eq_true k5
      replace y4 := eq_true y4
      have j5 : 0 ≤ (b0 : Int) := dt
      have v4 : b0 < (l1.length : Int) := dt
      obtain ⟨za2, ka2, y5⟩ := Kd.at_int HR1.out b0 j5 v4
      cases ka2
      replace j5 := eq_true j5
      replace v4 := eq_true v4
      go_wp2
      repeat (go_quiet (fail); try go_wp2)
      go_roundg k1
      case measure => have := HK1.out; omega
      case rel => exact ⟨(wrap64 (b0 + 1)), (by first | rfl | (simp; done) | (simp [*]; done)), H', ⟨by have := HK1.out; omega⟩, by repeat (first | exact Drawn0.refl _ | apply Drawn0.step)⟩
     ·have q7 : ((rd l0 b0) == (rd l1 b0)) = false := beq_eq_false_iff_ne.mpr c7
      have ya2 : ((rd l0 b0) != (rd l1 b0)) = true := bne_iff_ne.mpr c7
      obtain rfl := Option.some.inj H
      have k5 : 0 ≤ (b0 : Int) := dt
      have y4 : b0 < (l0.length : Int) := dt
      obtain ⟨aa3, ma2, z5⟩ := Kd.at_int HR0.out b0 k5 y4
      cases ma2
      replace k5 := eq_true k5
      replace y4 := eq_true y4
      have j5 : 0 ≤ (b0 : Int) := dt
      have v4 : b0 < (l1.length : Int) := dt
      obtain ⟨za2, ka2, y5⟩ := Kd.at_int HR1.out b0 j5 v4
      cases ka2
      replace j5 := eq_true j5
      replace v4 := eq_true v4
      go_wp2
      repeat (go_quiet (fail); try go_wp2)
      go_ret
      exact ⟨by first | rfl | (simp; done) | (simp [*]; done), by repeat (first | exact Drawn0.refl _ | apply Drawn0.step)⟩
    ·have s7 : decide (b0 < (l0.length : Int)) = false := decide_eq_false c4
     clear c4
     obtain rfl := Option.some.inj H
     go_wp2
     repeat (go_quiet (fail); try go_wp2)
     go_ret
     exact ⟨by first | rfl | (simp; done) | (simp [*]; done), by repeat (first | exact Drawn0.refl _ | apply Drawn0.step)⟩
 ·have k4 : ((l0.length : Int) == (l1.length : Int)) = false := beq_eq_false_iff_ne.mpr c3
  have j4 : ((l0.length : Int) != (l1.length : Int)) = true := bne_iff_ne.mpr c3
  have g4 : (l0.length == l1.length) = false := by first | simpa using c3 | (simp at c3 ⊢; omega)
  obtain rfl := Option.some.inj H
  go_enter Try.func20, Try.ntmps20
  go_wp2
  repeat (go_quiet (fail); try go_wp2)
  go_ret
  exact ⟨by first | rfl | (simp; done) | (simp [*]; done), by repeat (first | exact Drawn0.refl _ | apply Drawn0.step)⟩

end Go.Proofs.Ytlikcmonejefoab.PFnRipples
