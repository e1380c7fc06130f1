-- printed by a program of this session, a turned copy of the print of the kit
import Derived.Test.YtlikcmonejefoabSr
import Derived.Test.YtlikcmonejefoabPFnRipplesx0
import Derived.Test.YtlikcmonejefoabPFnRipplesx1
import Derived.Test.YtlikcmonejefoabPFnRipplesx4
import Derived.Test.YtlikcmonejefoabPFnRipplesx6
import Derived.Test.YtlikcmonejefoabPFnRipplesx8
import Derived.Test.YtlikcmonejefoabPFnRipplesx9
import Derived.Test.YtlikcmonejefoabPFnRipplesx10
import Derived.Test.YtlikcmonejefoabPFnRipplesx11
import Derived.Test.YtlikcmonejefoabPFnRipplesx12
import Derived.Test.YtlikcmonejefoabPFnRipplesx13
import Derived.Test.YtlikcmonejefoabPFnRipplesx20
import Derived.Test.YtlikcmonejefoabPFnRipplesx21
namespace Go.Proofs.Ytlikcmonejefoab.PFnRipples
open Go.RowKit Go.Proofs.YtlikcmonejefoabW.PrintWords Go.Proofs.YtlikcmonejefoabW.PrintLast Go.Proofs.YtlikcmonejefoabW.PrintMore Go.Proofs.Ytlikcmonejefoab.Sq
attribute [local go_sem] max2_int min2_int max_two min_two max_three min_three max_four min_four Giv.cell_twice   -- for this text's walks alone
set_option linter.unusedVariables false
set_option linter.unusedSimpArgs false

attribute [local go_sem high] eqA50
/-! ### laws_FnRipples: function 5 -/
mutual
def laws_FnRipples.j1 : Nat → List Int → Option (Bool)
 | 0, _ => none
 | k + 1, x0 => (spec_DrawRippleDelete.f k x0).bind fun v3 => ((impl_RippleDelete.f k v3.1 v3.2.1 v3.2.2.1 v3.2.2.2).bind fun b5 => ((spec_RippleDelete.f k v3.1 v3.2.1 v3.2.2.1 v3.2.2.2).bind fun ka4 => (if (b5.2.2.2.2 != ka4.2.2.2.2) = true then (none) else (if b5.2.2.2.1 = ka4.2.2.2.1 then ((spec_EqualCrackers.f k b5.1 b5.2.1 b5.2.2.1 ka4.1 ka4.2.1 ka4.2.2.1).bind fun qc2 => (if qc2 = true then (if b5.2.2.2.2 = true then ((impl_IsCracker.f k b5.1 b5.2.1 b5.2.2.1).bind fun oc2 => (if oc2 = true then ((impl_FindRow.f k b5.1 b5.2.1 b5.2.2.1 v3.2.2.2).bind fun da8 => (if da8 = (-1) then (if (b5.1.length : Int) = (wrap64 ((v3.1.length : Int) - 1)) then (some (decide (b5.2.2.2.1 ≤ (wrap64 ((v3.2.2.1.length : Int) + 1))))) else (none)) else (none))) else (none))) else ((spec_EqualCrackers.f k b5.1 b5.2.1 b5.2.2.1 v3.1 v3.2.1 v3.2.2.1).bind fun mc2 => (if mc2 = true then ((spec_IsCracker.f k v3.1 v3.2.1 v3.2.2.1).bind fun kc2 => (if kc2 = true then ((impl_FindRow.f k v3.1 v3.2.1 v3.2.2.1 v3.2.2.2).bind fun jc2 => (some (jc2 == (-1)))) else (some true))) else (none)))) else (none))) else (none)))))
def laws_FnRipples.l0 : Nat → List Int → Int → List Int → List Int → List (S50) → List Int → List Int → List (S50) → Option (Bool)
 | 0, _, _, _, _, _, _, _, _ => none
 | k + 1, x0, x14, ba6, aa6, va0, za5, ya5, sa0 => if x14 < (sa0.length : Int) then (if 0 ≤ x14 then (if x14 < (va0.length : Int) then (if (!(((rd_T50 sa0 x14).f0) == ((rd_T50 va0 x14).f0)) || (!(((rd_T50 sa0 x14).f1) == ((rd_T50 va0 x14).f1)))) = true then (none) else (laws_FnRipples.l0 k x0 (wrap64 (x14 + 1)) ba6 aa6 va0 za5 ya5 sa0)) else (none)) else (none)) else (laws_FnRipples.j1 k x0)
end
def laws_FnRipples.f (k : Nat) (l0 : List Int) : Option (Bool) := (laws_big.f l0).bind fun sa8 => (if sa8 = true then (some true) else ((spec_DrawRippleInsert.f k l0).bind fun v1 => ((impl_RippleInsert.f k v1.1 v1.2.1 v1.2.2.1 v1.2.2.2.1 v1.2.2.2.2).bind fun g2 => ((spec_RippleInsert.f k v1.1 v1.2.1 v1.2.2.1 v1.2.2.2.1 v1.2.2.2.2).bind fun q9 => (if (g2.2.2.2.2 != q9.2.2.2.2) = true then (none) else (if g2.2.2.2.1 = q9.2.2.2.1 then ((spec_EqualCrackers.f k g2.1 g2.2.1 g2.2.2.1 q9.1 q9.2.1 q9.2.2.1).bind fun oa8 => (if oa8 = true then (if g2.2.2.2.2 = true then ((impl_RippleDelete.f k g2.1 g2.2.1 g2.2.2.1 v1.2.2.2.2).bind fun q4 => (if q4.2.2.2.2 = true then (if q4.2.2.2.1 > (wrap64 ((g2.2.2.1.length : Int) + 1)) then (none) else (if g2.2.2.2.1 > (v1.2.2.1.length : Int) then (none) else ((impl_IsCracker.f k g2.1 g2.2.1 g2.2.2.1).bind fun ma8 => (if ma8 = true then (if (g2.1.length : Int) = (wrap64 ((v1.1.length : Int) + 1)) then ((laws_pairsOf.f k q4.1 q4.2.1 q4.2.2.1).bind fun ga6 => ((laws_pairsOf.f k v1.1 v1.2.1 v1.2.2.1).bind fun da6 => ((laws_sameInts.f k ga6 da6).bind fun ka8 => (if ka8 = true then (if (q4.2.2.1.length : Int) = (v1.2.2.1.length : Int) then (laws_FnRipples.l0 k l0 0 v1.1 v1.2.1 v1.2.2.1 q4.1 q4.2.1 q4.2.2.1) else (none)) else (none))))) else (none)) else (none))))) else (none))) else (laws_FnRipples.j1 k l0)) else (none))) else (none)))))))
theorem laws_FnRipples.mono_l : ∀ k, (∀ y0, LeO (laws_FnRipples.j1 k y0) (laws_FnRipples.j1 (k + 1) y0)) ∧ (∀ y0 y1 y2 y3 y4 y5 y6 y7, LeO (laws_FnRipples.l0 k y0 y1 y2 y3 y4 y5 y6 y7) (laws_FnRipples.l0 (k + 1) y0 y1 y2 y3 y4 y5 y6 y7))
 | 0 => ⟨fun _ r h => by simp [laws_FnRipples.j1] at h, fun _ _ _ _ _ _ _ _ r h => by simp [laws_FnRipples.l0] at h⟩
 | k + 1 => by
  obtain ⟨ih0, ih1⟩ := laws_FnRipples.mono_l k
  refine ⟨?_, ?_⟩
  ·intro y0
   unfold laws_FnRipples.j1
   exact mo
  ·intro y0 y1 y2 y3 y4 y5 y6 y7
   unfold laws_FnRipples.l0
   exact mo
theorem laws_FnRipples.mono : ∀ a0 k, LeO (laws_FnRipples.f k a0) (laws_FnRipples.f (k + 1) a0) := by
 intro a0 k
 obtain ⟨ih0, ih1⟩ := laws_FnRipples.mono_l k
 unfold laws_FnRipples.f
 exact mo
instance laws_FnRipples.mi (a0 k) : LeC (laws_FnRipples.f k a0) (laws_FnRipples.f (k + 1) a0) := ⟨laws_FnRipples.mono a0 k⟩
def laws_FnRipples.T10 : Bool × List (List Nat × List Nat) := (true, [([], []), ([0], [0]), ([1], [1]), ([2], [2]), ([2], [2]), ([4, 2], [2, 4]), ([5, 2], [2, 5]), ([6, 2], [2, 6]), ([3, 7, 2], [2, 3, 7]), ([2, 8], [2, 8]), ([9, 2], [9]), ([10], [10]), ([10], [10]), ([12, 10], [10, 12]), ([13, 10], [10, 13]), ([11, 14, 10], [10, 11, 14]), ([10, 15], [10, 15]), ([16, 10], [16]), ([17], [17]), ([18, 17, 17], [17, 18]), ([19, 17], [17, 19]), ([17, 20], [17, 20]), ([21, 19], [21]), ([22], [22]), ([23, 22], [22, 23]), ([24, 22], [22, 24]), ([22], [22]), ([26, 22], [22, 26]), ([27, 22], [22, 27]), ([28, 22], [22, 28]), ([25, 29, 22], [22, 25, 29]), ([22, 30], [22, 30]), ([31, 22], [31]), ([32], [32]), ([33, 32, 32], [32, 33]), ([32], [32]), ([35, 34, 32], [32, 35]), ([34, 36, 36, 32], [32, 34, 36]), ([37, 32], [32, 37]), ([32, 38], [32, 38]), ([39, 37], [39]), ([40], [40]), ([41, 40], [40, 41]), ([42, 40], [40, 42]), ([40], [40]), ([44, 40], [40, 44]), ([45, 40], [40, 45]), ([43, 46, 40], [40, 43, 46]), ([40, 47], [40, 47])])
def laws_FnRipples.B10 : List Nat := [0, 1, 3, 7, 7, 23, 55, 119, 255, 511, 1023, 2047, 2047, 6143, 14335, 32767, 65535, 131071, 262143, 524287, 1048575, 2097151, 4194303, 8388607, 16777215, 33554431, 8388607, 75497471, 209715199, 478150655, 1073741823, 2147483647, 4294967295, 8589934591, 17179869183, 8589934591, 68719476735, 137438953471, 274877906943, 549755813887, 1099511627775, 2199023255551, 4398046511103, 8796093022207, 2199023255551, 19791209299967, 54975581388799, 140737488355327, 281474976710655]
theorem laws_FnRipples.tab10 : rtab .any (opsOf Try.f5 10) = laws_FnRipples.T10 := by kernel_rfl
theorem laws_FnRipples.bits10 : waitsOk laws_FnRipples.T10.2 laws_FnRipples.B10 = true := by kernel_rfl
def laws_FnRipples.T15 : Bool × List (List Nat × List Nat) := (true, [([], []), ([0], [0]), ([], []), ([1, 2], [1, 2]), ([3], [3]), ([], []), ([5], [5]), ([], []), ([6, 7], [6, 7]), ([8], [8]), ([4, 9], [4, 9])])
def laws_FnRipples.B15 : List Nat := [0, 1, 0, 7, 15, 0, 32, 0, 224, 480, 1023]
theorem laws_FnRipples.tab15 : rtab .any (opsOf Try.f5 15) = laws_FnRipples.T15 := by kernel_rfl
theorem laws_FnRipples.bits15 : waitsOk laws_FnRipples.T15.2 laws_FnRipples.B15 = true := by kernel_rfl
set_option maxHeartbeats 8000000 in
set_option maxRecDepth 100000 in
theorem laws_FnRipples.calls (k : Nat) (A0 : Option Addr) (c0 : Nat) (l0 : List Int) (r : Bool) (w : World) (hr0 : Kd.C (Kd.int .u8) w A0 l0.length l0) (hc0 : l0.length ≤ c0) (HRT : Aside0 (r = true)) (h : laws_FnRipples.f k l0 = some r) :
  Calls Try.prog 5 #[.slice A0 l0.length c0] w fun e w' => e = .returned (.bool r) ∧ Below w.heap.size w w' := by
 have hu29 := Try.underlying29
 have hu39 := Try.underlying39
 have hu50 := Try.underlying50
 have HR0 := mk hr0
 have HC0 := mk hc0
 clear hr0 hc0
 have HB := mk (Below.refl w.heap.size w)
 have H : ((laws_big.f l0).bind fun sa8 => (if sa8 = true then (some true) else ((spec_DrawRippleInsert.f k l0).bind fun v1 => ((impl_RippleInsert.f k v1.1 v1.2.1 v1.2.2.1 v1.2.2.2.1 v1.2.2.2.2).bind fun g2 => ((spec_RippleInsert.f k v1.1 v1.2.1 v1.2.2.1 v1.2.2.2.1 v1.2.2.2.2).bind fun q9 => (if (g2.2.2.2.2 != q9.2.2.2.2) = true then (none) else (if g2.2.2.2.1 = q9.2.2.2.1 then ((spec_EqualCrackers.f k g2.1 g2.2.1 g2.2.2.1 q9.1 q9.2.1 q9.2.2.1).bind fun oa8 => (if oa8 = true then (if g2.2.2.2.2 = true then ((impl_RippleDelete.f k g2.1 g2.2.1 g2.2.2.1 v1.2.2.2.2).bind fun q4 => (if q4.2.2.2.2 = true then (if q4.2.2.2.1 > (wrap64 ((g2.2.2.1.length : Int) + 1)) then (none) else (if g2.2.2.2.1 > (v1.2.2.1.length : Int) then (none) else ((impl_IsCracker.f k g2.1 g2.2.1 g2.2.2.1).bind fun ma8 => (if ma8 = true then (if (g2.1.length : Int) = (wrap64 ((v1.1.length : Int) + 1)) then ((laws_pairsOf.f k q4.1 q4.2.1 q4.2.2.1).bind fun ga6 => ((laws_pairsOf.f k v1.1 v1.2.1 v1.2.2.1).bind fun da6 => ((laws_sameInts.f k ga6 da6).bind fun ka8 => (if ka8 = true then (if (q4.2.2.1.length : Int) = (v1.2.2.1.length : Int) then (laws_FnRipples.l0 k l0 0 v1.1 v1.2.1 v1.2.2.1 q4.1 q4.2.1 q4.2.2.1) else (none)) else (none))))) else (none)) else (none))))) else (none))) else (laws_FnRipples.j1 k l0)) else (none))) else (none)))))))) = some r := h
 clear h
 revert H; refine bo ?_; rintro sa8 A2 H
 by_cases c3 : sa8 = true
 ·subst c3
  rw [if_pos rfl] at H
  obtain rfl := Option.some.inj H
  go_enter Try.func5, Try.ntmps5
  go_wp2_with (first | ((with_reducible refine gate_callee (f := 16) rfl ?_); refine gl (some 24) rfl Try.func16 #[.slice A0 l0.length c0] ?_; (with_reducible refine (laws_big.calls _ _ l0 true _ ?side1 ?side2 A2.out).mono ?_); (case side1 => exact uc HR0.out); (case side2 => exact HC0.out); rintro e w' ⟨rfl, ⟨nd, rfl⟩⟩; refine ⟨_, rfl, ?_⟩))
  go_ret
  exact ⟨rx, bl⟩
 ·replace c3 := Bool.eq_false_iff.mpr c3
  subst c3
  rw [if_neg nf] at H
  revert H; refine bo ?_; rintro ⟨a4, o4, v4, ja5, qa3⟩ A4 H
  dsimp only at H
  revert H; refine bo ?_; rintro ⟨s4, a5, g9, oa9, qa8⟩ A5 H
  dsimp only at H
  revert H; refine bo ?_; rintro ⟨d8, b8, oa0, sc2, ma9⟩ A6 H
  dsimp only at H
  revert H; refine cn fun c7 H => ?_
  have be9 : (qa8 != ma9) = false := by simpa using c7
  (try (have ae9 : decide (qa8 = ma9) = true := by simpa using c7))
  (try (have ze8 : (qa8 == ma9) = true := by simpa using c7))
  clear c7
  revert H; refine ca fun c8 H => ?_
  have ye8 : (oa9 == sc2) = true := beq_iff_eq.mpr c8
  have ve8 : (oa9 != sc2) = false := bne_eq_false_iff_eq.mpr c8
  clear c8
  revert H; refine bo ?_; rintro oa8 A9 H
  by_cases c10 : oa8 = true
  ·subst c10
   rw [if_pos rfl] at H
   have bd0 := mk H
   clear H
   go_enter Try.func5, Try.ntmps5
   go_upto_if 58 with (first | ((with_reducible refine gate_callee (f := 16) rfl ?_); refine gl (some 24) rfl Try.func16 #[.slice A0 l0.length c0] ?_; (with_reducible refine (laws_big.calls _ _ l0 false _ ?side1 ?side2 A2.out).mono ?_); (case side1 => exact uc HR0.out); (case side2 => exact HC0.out); rintro e w' ⟨rfl, ⟨nd, rfl⟩⟩; refine ⟨_, rfl, ?_⟩) | ((with_reducible refine gate_callee (f := 17) rfl ?_); refine gl (some 27) rfl Try.func17 #[.slice A0 l0.length c0] ?_; (with_reducible refine (spec_DrawRippleInsert.calls k _ _ l0 a4 o4 v4 ja5 qa3 _ ?side1 ?side2 A4.out).mono ?_); (case side1 => exact uc HR0.out); (case side2 => exact HC0.out); rintro e w12 ⟨qe8, oe8, me8, rfl, ho0, ho1, ho2, hb⟩; refine ⟨_, rfl, ?_⟩; have q1 := lo ho0; have o1 := lo ho1; have s1 := lo ho2; replace HB := wh hb; (try clear hb ho0 ho1 ho2)) | ((with_reducible refine gate_dst (N := 3) rfl ?_); (try (refine gate_guard (by rfl) ?_; dsimp only)); refine bx 3 #[.slice none 0 0, .slice none 0 0, .slice none 0 0] 29 ?_; intro ja0 hg w13 hbox hb; replace q1 := ro q1 hb; replace o1 := ro o1 hb; replace s1 := ro s1 hb; have b0 := mk hbox; have ae5 := wg hg; replace HB := wh hb; clear hb hbox hg) | ((with_reducible refine gate_dst (N := 4) rfl ?_); (try (refine gate_guard (by rfl) ?_; dsimp only)); refine bx 4 #[.int .i64 0, .int .i64 0] 39 ?_; intro ma5 hg w14 hbox hb; replace q1 := ro q1 hb; replace o1 := ro o1 hb; replace s1 := ro s1 hb; have g0 := mk hbox; have ze4 := wg hg; replace HB := wh hb; have oa2 := nl b0 hg; have ka2 := nr b0 hg; replace b0 := wb b0 hb; clear hb hbox hg; obtain ⟨o8, j8, me3⟩ := Kd.R_slice q1.out; subst me3; have oe2 := oa2.out; have ve0 := ka2.out; obtain ⟨yc6, vc6, sc6, vc4, sc4, qc4⟩ := bz3 b0; obtain ⟨m8, g8, ke3⟩ := Kd.R_slice o1.out; subst ke3; obtain ⟨ba1, qa0, je3⟩ := Kd.R_slice s1.out; subst je3; obtain ⟨qc6, oc6, oc4, mc4⟩ := bz2 g0) | ((with_reducible refine gate_callee (f := 15) rfl ?_); refine gl (some 33) rfl Try.func15 #[.agg #[.slice o8 a4.length j8, .slice m8 o4.length g8, .slice ba1 v4.length qa0], .agg #[.int .i64 ja5, .int .i64 qa3]] ?_; (with_reducible refine (impl_RippleInsert.calls k _ _ a4 _ _ o4 _ _ v4 ja5 qa3 s4 a5 g9 oa9 qa8 _ ?side1 ?side2 ?side3 ?side4 ?side5 ?side6 A5.out).mono ?_); (case side1 => exact rc2 q1 b0 g0); (case side2 => exact rb q1); (case side3 => exact rc2 o1 b0 g0); (case side4 => exact rb o1); (case side5 => exact rc2 s1 b0 g0); (case side6 => exact rb s1); rintro e w21 ⟨ke8, je8, ge8, rfl, ho0, ho1, ho2, hb⟩; refine ⟨_, rfl, ?_⟩; have a2 := lo (nw2 (nw2 ho0 q1 b0 g0) o1 b0 g0); have z1 := lo (nw2 (nw2 ho1 q1 b0 g0) o1 b0 g0); replace q1 := td2r2 q1 b0 g0 hb ho0 ho1; replace o1 := td2r2 o1 b0 g0 hb ho0 ho1; have b2 := lo (nw2 ho2 s1 b0 g0); replace s1 := el2 s1 b0 g0 ho2 hb; replace b0 := wq ja0 #[.slice o8 a4.length j8, .slice m8 o4.length g8, .slice ba1 v4.length qa0] 29 hb; replace g0 := wq ma5 #[.int .i64 ja5, .int .i64 qa3] 39 hb; replace HB := wh hb; (try clear hb ho0 ho1 ho2)) | ((with_reducible refine gate_dst (N := 5) rfl ?_); (try (refine gate_guard (by rfl) ?_; dsimp only)); refine bx 5 #[.slice none 0 0, .slice none 0 0, .slice none 0 0] 29 ?_; intro ja3 hg w22 hbox hb; replace q1 := ro q1 hb; replace o1 := ro o1 hb; replace s1 := ro s1 hb; replace a2 := ro a2 hb; replace z1 := ro z1 hb; replace b2 := ro b2 hb; have d0 := mk hbox; have ye4 := wg hg; replace HB := wh hb; have ma2 := nl b0 hg; have da2 := nr b0 hg; replace b0 := wb b0 hb; have ja2 := nl g0 hg; have ba2 := nr g0 hg; replace g0 := wb g0 hb; clear hb hbox hg; obtain ⟨a9, s8, ge3⟩ := Kd.R_slice a2.out; subst ge3; have me2 := da2.out; have se0 := ma2.out; have ke2 := ba2.out; have qe0 := ja2.out; obtain ⟨mc6, kc6, jc6, kc4, jc4, gc4⟩ := bz3 d0; obtain ⟨z8, q8, de3⟩ := Kd.R_slice z1.out; subst de3; obtain ⟨ja1, ga1, be3⟩ := Kd.R_slice b2.out; subst be3; obtain ⟨gc6, dc6, bc6, dc4, bc4, ac4⟩ := bz3 b0; obtain ⟨ac6, zc5, zc3, yc3⟩ := bz2 g0) | ((with_reducible refine gate_callee (f := 13) rfl ?_); refine gl (some 40) rfl Try.func13 #[.agg #[.slice o8 a4.length j8, .slice m8 o4.length g8, .slice ba1 v4.length qa0], .agg #[.int .i64 ja5, .int .i64 qa3]] ?_; (with_reducible refine (spec_RippleInsert.calls k _ _ a4 _ _ o4 _ _ v4 ja5 qa3 d8 b8 oa0 sc2 ma9 _ ?side1 ?side2 ?side3 ?side4 ?side5 ?side6 A6.out).mono ?_); (case side1 => exact rc1 q1 d0); (case side2 => exact rb q1); (case side3 => exact rc1 o1 d0); (case side4 => exact rb o1); (case side5 => exact rc1 s1 d0); (case side6 => exact rb s1); rintro e w31 ⟨de8, be8, ae8, rfl, ho0, ho1, ho2, hb⟩; refine ⟨_, rfl, ?_⟩; have b3 := lo (nw1 (nw1 (nw1 (nw1 ho0 q1 d0) o1 d0) a2 d0) z1 d0); have a3 := lo (nw1 (nw1 (nw1 (nw1 ho1 q1 d0) o1 d0) a2 d0) z1 d0); replace q1 := td2r1 q1 d0 hb ho0 ho1; replace o1 := td2r1 o1 d0 hb ho0 ho1; replace a2 := td2r1 a2 d0 hb ho0 ho1; replace z1 := td2r1 z1 d0 hb ho0 ho1; have m3 := lo (nw1 (nw1 ho2 s1 d0) b2 d0); replace s1 := el1 s1 d0 ho2 hb; replace b2 := el1 b2 d0 ho2 hb; replace b0 := wx b0 hb; replace g0 := wx g0 hb; replace d0 := wq ja3 #[.slice a9 s4.length s8, .slice z8 a5.length q8, .slice ja1 g9.length ga1] 29 hb; replace HB := wh hb; (try clear hb ho0 ho1 ho2)) | ((with_reducible refine gate_dst (N := 8) rfl ?_); (try (refine gate_guard (by rfl) ?_; dsimp only)); refine bx 8 #[.slice none 0 0, .slice none 0 0, .slice none 0 0] 29 ?_; intro ka5 hg w32 hbox hb; replace q1 := ro q1 hb; replace o1 := ro o1 hb; replace s1 := ro s1 hb; replace a2 := ro a2 hb; replace z1 := ro z1 hb; replace b2 := ro b2 hb; replace b3 := ro b3 hb; replace a3 := ro a3 hb; replace m3 := ro m3 hb; have j0 := mk hbox; have ve4 := wg hg; replace HB := wh hb; have oa4 := nl b0 hg; have ma4 := nr b0 hg; replace b0 := wb b0 hb; have ga2 := nl g0 hg; have za1 := nr g0 hg; replace g0 := wb g0 hb; have aa2 := nl d0 hg; have ya1 := nr d0 hg; replace d0 := wb d0 hb; clear hb hbox hg; obtain ⟨o9, k9, ae3⟩ := Kd.R_slice b3.out; subst ae3; have je2 := ma4.out; have oe0 := oa4.out; have ge2 := za1.out; have me0 := ga2.out; have de2 := ya1.out; have ke0 := aa2.out; obtain ⟨yc5, vc5, sc5, vc3, sc3, qc3⟩ := bz3 j0; obtain ⟨m9, j9, ze2⟩ := Kd.R_slice a3.out; subst ze2; obtain ⟨ma3, ka3, ye2⟩ := Kd.R_slice m3.out; subst ye2; obtain ⟨qc5, oc5, mc5, oc3, mc3, kc3⟩ := bz3 d0) | (go_at_call 18; (with_reducible refine (spec_EqualCrackers.calls k _ _ s4 _ _ a5 _ _ g9 _ _ d8 _ _ b8 _ _ oa0 true _ ?side1 ?side2 ?side3 ?side4 ?side5 ?side6 ?side7 ?side8 ?side9 ?side10 ?side11 ?side12 A9.out).mono ?_); (case side1 => exact rc1 a2 j0); (case side2 => exact rb a2); (case side3 => exact rc1 z1 j0); (case side4 => exact rb z1); (case side5 => exact rc1 b2 j0); (case side6 => exact rb b2); (case side7 => exact rc1 b3 j0); (case side8 => exact rb b3); (case side9 => exact rc1 a3 j0); (case side10 => exact rb a3); (case side11 => exact rc1 m3 j0); (case side12 => exact rb m3); rintro e w41 ⟨rfl, hb⟩; replace q1 := ro1 q1 j0 hb; replace o1 := ro1 o1 j0 hb; replace s1 := ro1 s1 j0 hb; replace a2 := ro1 a2 j0 hb; replace z1 := ro1 z1 j0 hb; replace b2 := ro1 b2 j0 hb; replace b3 := ro1 b3 j0 hb; replace a3 := ro1 a3 j0 hb; replace m3 := ro1 m3 j0 hb; replace b0 := wx b0 hb; replace g0 := wx g0 hb; replace d0 := wx d0 hb; replace j0 := wq ka5 #[.slice o9 d8.length k9, .slice m9 b8.length j9, .slice ma3 oa0.length ka3] 29 hb; replace HB := wh hb; (try clear hb)))
   (try simp only [Act.put, List.setIfInBounds_toArray, List.set_cons_zero, List.set_cons_succ])
   go_cut [] (fun wc => ∃ (kq : Nat), Aside0 (laws_FnRipples.j1 kq l0 = some r) ∧ Aside0 (kq ≤ k) ∧ Aside0 (Kd.R (Kd.int .i64) 3 wc w.heap.size (fun k_ => some k_ ≠ ((.slice m8 o4.length g8) : Value).ownBlock ∧ some k_ ≠ ((.slice a9 s4.length s8) : Value).ownBlock ∧ some k_ ≠ ((.slice z8 a5.length q8) : Value).ownBlock ∧ some k_ ≠ ((.slice o9 d8.length k9) : Value).ownBlock ∧ some k_ ≠ ((.slice m9 b8.length j9) : Value).ownBlock) (.slice o8 a4.length j8) a4) ∧ Aside0 (Kd.R (Kd.int .i64) 3 wc w.heap.size (fun k_ => some k_ ≠ ((.slice o8 a4.length j8) : Value).ownBlock ∧ some k_ ≠ ((.slice a9 s4.length s8) : Value).ownBlock ∧ some k_ ≠ ((.slice z8 a5.length q8) : Value).ownBlock ∧ some k_ ≠ ((.slice o9 d8.length k9) : Value).ownBlock ∧ some k_ ≠ ((.slice m9 b8.length j9) : Value).ownBlock) (.slice m8 o4.length g8) o4) ∧ Aside0 (Kd.R k50 50 wc w.heap.size (fun k_ => some k_ ≠ ((.slice ja1 g9.length ga1) : Value).ownBlock ∧ some k_ ≠ ((.slice ma3 oa0.length ka3) : Value).ownBlock) (.slice ba1 v4.length qa0) v4) ∧ Aside0 (Kd.R (Kd.int .i64) 3 wc w.heap.size (fun k_ => some k_ ≠ ((.slice o8 a4.length j8) : Value).ownBlock ∧ some k_ ≠ ((.slice m8 o4.length g8) : Value).ownBlock ∧ some k_ ≠ ((.slice z8 a5.length q8) : Value).ownBlock ∧ some k_ ≠ ((.slice o9 d8.length k9) : Value).ownBlock ∧ some k_ ≠ ((.slice m9 b8.length j9) : Value).ownBlock) (.slice a9 s4.length s8) s4) ∧ Aside0 (Kd.R (Kd.int .i64) 3 wc w.heap.size (fun k_ => some k_ ≠ ((.slice o8 a4.length j8) : Value).ownBlock ∧ some k_ ≠ ((.slice m8 o4.length g8) : Value).ownBlock ∧ some k_ ≠ ((.slice a9 s4.length s8) : Value).ownBlock ∧ some k_ ≠ ((.slice o9 d8.length k9) : Value).ownBlock ∧ some k_ ≠ ((.slice m9 b8.length j9) : Value).ownBlock) (.slice z8 a5.length q8) a5) ∧ Aside0 (Kd.R k50 50 wc w.heap.size (fun k_ => some k_ ≠ ((.slice ba1 v4.length qa0) : Value).ownBlock ∧ some k_ ≠ ((.slice ma3 oa0.length ka3) : Value).ownBlock) (.slice ja1 g9.length ga1) g9) ∧ Aside0 (Kd.R (Kd.int .i64) 3 wc w.heap.size (fun k_ => some k_ ≠ ((.slice o8 a4.length j8) : Value).ownBlock ∧ some k_ ≠ ((.slice m8 o4.length g8) : Value).ownBlock ∧ some k_ ≠ ((.slice a9 s4.length s8) : Value).ownBlock ∧ some k_ ≠ ((.slice z8 a5.length q8) : Value).ownBlock ∧ some k_ ≠ ((.slice m9 b8.length j9) : Value).ownBlock) (.slice o9 d8.length k9) d8) ∧ Aside0 (Kd.R (Kd.int .i64) 3 wc w.heap.size (fun k_ => some k_ ≠ ((.slice o8 a4.length j8) : Value).ownBlock ∧ some k_ ≠ ((.slice m8 o4.length g8) : Value).ownBlock ∧ some k_ ≠ ((.slice a9 s4.length s8) : Value).ownBlock ∧ some k_ ≠ ((.slice z8 a5.length q8) : Value).ownBlock ∧ some k_ ≠ ((.slice o9 d8.length k9) : Value).ownBlock) (.slice m9 b8.length j9) b8) ∧ Aside0 (Kd.R k50 50 wc w.heap.size (fun k_ => some k_ ≠ ((.slice ba1 v4.length qa0) : Value).ownBlock ∧ some k_ ≠ ((.slice ja1 g9.length ga1) : Value).ownBlock) (.slice ma3 oa0.length ka3) oa0) ∧ Aside0 (wc.heap[ja0]? = some (.cells #[(.slice o8 a4.length j8), (.slice m8 o4.length g8), (.slice ba1 v4.length qa0)] 29 (0, 0))) ∧ Aside0 (wc.heap[ma5]? = some (.cells #[.int .i64 ja5, .int .i64 qa3] 39 (0, 0))) ∧ Aside0 (wc.heap[ja3]? = some (.cells #[(.slice a9 s4.length s8), (.slice z8 a5.length q8), (.slice ja1 g9.length ga1)] 29 (0, 0))) ∧ Aside0 (wc.heap[ka5]? = some (.cells #[(.slice o9 d8.length k9), (.slice m9 b8.length j9), (.slice ma3 oa0.length ka3)] 29 (0, 0))) ∧ Aside0 (Below w.heap.size w wc))
   case first =>
    have H := bd0.out
    clear bd0
    by_cases c42 : qa8 = true
    ·subst c42
     rw [if_pos rfl] at H
     revert H; refine bo ?_; rintro ⟨s3, q3, o3, kd1, ad9⟩ A43 H
     dsimp only at H
     by_cases c44 : ad9 = true
     ·subst c44
      rw [if_pos rfl] at H
      revert H; refine cn fun c45 H => ?_
      have ya8 : decide ((wrap64 ((g9.length : Int) + 1)) < kd1) = false := decide_eq_false c45
      clear c45
      (first | rw [ya8] | (simp only [i64_w, i32_w]; rw [ya8]) | skip)
      revert H; refine cn fun c46 H => ?_
      have qe4 : decide ((v4.length : Int) < oa9) = false := decide_eq_false c46
      clear c46
      revert H; refine bo ?_; rintro ma8 A47 H
      by_cases c48 : ma8 = true
      ·subst c48
       rw [if_pos rfl] at H
       revert H; refine ca fun c49 H => ?_
       have oe4 : ((s4.length : Int) == (wrap64 ((a4.length : Int) + 1))) = true := beq_iff_eq.mpr c49
       have me4 : ((s4.length : Int) != (wrap64 ((a4.length : Int) + 1))) = false := bne_eq_false_iff_eq.mpr c49
       clear c49
       revert H; refine bo ?_; rintro ga6 A50 H
       revert H; refine bo ?_; rintro da6 A51 H
       revert H; refine bo ?_; rintro ka8 A52 H
       by_cases c53 : ka8 = true
       ·subst c53
        rw [if_pos rfl] at H
        revert H; refine ca fun c54 H => ?_
        have ke4 : ((o3.length : Int) == (v4.length : Int)) = true := beq_iff_eq.mpr c54
        have je4 : ((o3.length : Int) != (v4.length : Int)) = false := bne_eq_false_iff_eq.mpr c54
        have ge4 : (o3.length == v4.length) = true := by first | simpa using c54 | (simp at c54 ⊢; omega)
        clear c54
        have H' := mk H
        clear H
        have be2 := da2.out
        have je0 := ma2.out
        have ae2 := ba2.out
        have ge0 := ja2.out
        have ze1 := aa2.out
        have de0 := ya1.out
        obtain ⟨kc5, jc5, gc5, jc3, gc3, dc3⟩ := bz3 d0
        have ye1 := ka2.out
        have be0 := oa2.out
        have ve1 := ga2.out
        have ae0 := za1.out
        obtain ⟨dc5, bc5, bc3, ac3⟩ := bz2 g0
        try go_wp2_with (first | ((with_reducible refine gate_callee (f := 9) rfl ?_); refine gl (some 63) rfl Try.func9 #[.agg #[.slice a9 s4.length s8, .slice z8 a5.length q8, .slice ja1 g9.length ga1], .int .i64 qa3] ?_; (with_reducible refine (impl_RippleDelete.calls k _ _ s4 _ _ a5 _ _ g9 qa3 s3 q3 o3 kd1 true _ ?side1 ?side2 ?side3 ?side4 ?side5 ?side6 A43.out).mono ?_); (case side1 => exact ra a2); (case side2 => exact rb a2); (case side3 => exact ra z1); (case side4 => exact rb z1); (case side5 => exact ra b2); (case side6 => exact rb b2); rintro e w62 ⟨ze7, ye7, ve7, rfl, ho0, ho1, ho2, hb⟩; refine ⟨_, rfl, ?_⟩; have d4 := lo (nw (nw (nw (nw (nw (nw ho0 q1) o1) a2) z1) b3) a3); have b4 := lo (nw (nw (nw (nw (nw (nw ho1 q1) o1) a2) z1) b3) a3); replace q1 := td2 q1 hb ho0 ho1; replace o1 := td2 o1 hb ho0 ho1; replace a2 := td2 a2 hb ho0 ho1; replace z1 := td2 z1 hb ho0 ho1; replace b3 := td2 b3 hb ho0 ho1; replace a3 := td2 a3 hb ho0 ho1; have z4 := lo (nw (nw (nw ho2 s1) b2) m3); replace s1 := el s1 ho2 hb; replace b2 := el b2 ho2 hb; replace m3 := el m3 ho2 hb; replace b0 := wb b0 hb; replace g0 := wb g0 hb; replace d0 := wb d0 hb; replace j0 := wb j0 hb; replace HB := wh hb; (try clear hb ho0 ho1 ho2)) | ((with_reducible refine gate_dst (N := 11) rfl ?_); (try (refine gate_guard (by rfl) ?_; dsimp only)); refine bx 11 #[.slice none 0 0, .slice none 0 0, .slice none 0 0] 29 ?_; intro d1 hg w63 hbox hb; replace q1 := ro q1 hb; replace o1 := ro o1 hb; replace s1 := ro s1 hb; replace a2 := ro a2 hb; replace z1 := ro z1 hb; replace b2 := ro b2 hb; replace b3 := ro b3 hb; replace a3 := ro a3 hb; replace m3 := ro m3 hb; replace d4 := ro d4 hb; replace b4 := ro b4 hb; replace z4 := ro z4 hb; have m1 := mk hbox; have se4 := wg hg; replace HB := wh hb; have ga0 := nl b0 hg; have z9 := nr b0 hg; replace b0 := wb b0 hb; have da0 := nl g0 hg; have y9 := nr g0 hg; replace g0 := wb g0 hb; have ba0 := nl d0 hg; have v9 := nr d0 hg; replace d0 := wb d0 hb; have aa0 := nl j0 hg; have s9 := nr j0 hg; replace j0 := wb j0 hb; clear hb hbox hg; obtain ⟨m4, j4, ve2⟩ := Kd.R_slice d4.out; subst ve2; have se1 := z9.out; have zd9 := ga0.out; have qe1 := y9.out; have yd9 := da0.out; have oe1 := v9.out; have vd9 := ba0.out; have me1 := s9.out; have sd9 := aa0.out; obtain ⟨ac5, zc4, yc4, zc2, yc2, vc2⟩ := bz3 m1; obtain ⟨k4, g4, se2⟩ := Kd.R_slice b4.out; subst se2; obtain ⟨k8, z7, qe2⟩ := Kd.R_slice z4.out; subst qe2))
        have n0_ : Aside0 (Kd.R (Kd.int .i64) 3 (((w63.setCell ⟨d1, 0, none⟩ (.slice m4 s3.length j4)).setCell ⟨d1, 1, none⟩ (.slice k4 q3.length g4)).setCell ⟨d1, 2, none⟩ (.slice k8 o3.length z7)) w.heap.size (fun k_ => some k_ ≠ (.slice m8 o4.length g8 : Value).ownBlock ∧ some k_ ≠ (.slice a9 s4.length s8 : Value).ownBlock ∧ some k_ ≠ (.slice z8 a5.length q8 : Value).ownBlock ∧ some k_ ≠ (.slice o9 d8.length k9 : Value).ownBlock ∧ some k_ ≠ (.slice m9 b8.length j9 : Value).ownBlock ∧ some k_ ≠ (.slice m4 s3.length j4 : Value).ownBlock ∧ some k_ ≠ (.slice k4 q3.length g4 : Value).ownBlock) (.slice o8 a4.length j8) a4) := ⟨(by exact rm (rs1 q1 m1))⟩
        have n1_ : Aside0 (Kd.R (Kd.int .i64) 3 (((w63.setCell ⟨d1, 0, none⟩ (.slice m4 s3.length j4)).setCell ⟨d1, 1, none⟩ (.slice k4 q3.length g4)).setCell ⟨d1, 2, none⟩ (.slice k8 o3.length z7)) w.heap.size (fun k_ => some k_ ≠ (.slice o8 a4.length j8 : Value).ownBlock ∧ some k_ ≠ (.slice a9 s4.length s8 : Value).ownBlock ∧ some k_ ≠ (.slice z8 a5.length q8 : Value).ownBlock ∧ some k_ ≠ (.slice o9 d8.length k9 : Value).ownBlock ∧ some k_ ≠ (.slice m9 b8.length j9 : Value).ownBlock ∧ some k_ ≠ (.slice m4 s3.length j4 : Value).ownBlock ∧ some k_ ≠ (.slice k4 q3.length g4 : Value).ownBlock) (.slice m8 o4.length g8) o4) := ⟨(by exact rm (rs1 o1 m1))⟩
        have n2_ : Aside0 (Kd.R k50 50 (((w63.setCell ⟨d1, 0, none⟩ (.slice m4 s3.length j4)).setCell ⟨d1, 1, none⟩ (.slice k4 q3.length g4)).setCell ⟨d1, 2, none⟩ (.slice k8 o3.length z7)) w.heap.size (fun k_ => some k_ ≠ (.slice ja1 g9.length ga1 : Value).ownBlock ∧ some k_ ≠ (.slice ma3 oa0.length ka3 : Value).ownBlock ∧ some k_ ≠ (.slice k8 o3.length z7 : Value).ownBlock) (.slice ba1 v4.length qa0) v4) := ⟨(by exact rm (rs1 s1 m1))⟩
        have n3_ : Aside0 (Kd.R (Kd.int .i64) 3 (((w63.setCell ⟨d1, 0, none⟩ (.slice m4 s3.length j4)).setCell ⟨d1, 1, none⟩ (.slice k4 q3.length g4)).setCell ⟨d1, 2, none⟩ (.slice k8 o3.length z7)) w.heap.size (fun k_ => some k_ ≠ (.slice o8 a4.length j8 : Value).ownBlock ∧ some k_ ≠ (.slice m8 o4.length g8 : Value).ownBlock ∧ some k_ ≠ (.slice z8 a5.length q8 : Value).ownBlock ∧ some k_ ≠ (.slice o9 d8.length k9 : Value).ownBlock ∧ some k_ ≠ (.slice m9 b8.length j9 : Value).ownBlock ∧ some k_ ≠ (.slice m4 s3.length j4 : Value).ownBlock ∧ some k_ ≠ (.slice k4 q3.length g4 : Value).ownBlock) (.slice a9 s4.length s8) s4) := ⟨(by exact rm (rs1 a2 m1))⟩
        have n4_ : Aside0 (Kd.R (Kd.int .i64) 3 (((w63.setCell ⟨d1, 0, none⟩ (.slice m4 s3.length j4)).setCell ⟨d1, 1, none⟩ (.slice k4 q3.length g4)).setCell ⟨d1, 2, none⟩ (.slice k8 o3.length z7)) w.heap.size (fun k_ => some k_ ≠ (.slice o8 a4.length j8 : Value).ownBlock ∧ some k_ ≠ (.slice m8 o4.length g8 : Value).ownBlock ∧ some k_ ≠ (.slice a9 s4.length s8 : Value).ownBlock ∧ some k_ ≠ (.slice o9 d8.length k9 : Value).ownBlock ∧ some k_ ≠ (.slice m9 b8.length j9 : Value).ownBlock ∧ some k_ ≠ (.slice m4 s3.length j4 : Value).ownBlock ∧ some k_ ≠ (.slice k4 q3.length g4 : Value).ownBlock) (.slice z8 a5.length q8) a5) := ⟨(by exact rm (rs1 z1 m1))⟩
        have n5_ : Aside0 (Kd.R k50 50 (((w63.setCell ⟨d1, 0, none⟩ (.slice m4 s3.length j4)).setCell ⟨d1, 1, none⟩ (.slice k4 q3.length g4)).setCell ⟨d1, 2, none⟩ (.slice k8 o3.length z7)) w.heap.size (fun k_ => some k_ ≠ (.slice ba1 v4.length qa0 : Value).ownBlock ∧ some k_ ≠ (.slice ma3 oa0.length ka3 : Value).ownBlock ∧ some k_ ≠ (.slice k8 o3.length z7 : Value).ownBlock) (.slice ja1 g9.length ga1) g9) := ⟨(by exact rm (rs1 b2 m1))⟩
        have n6_ : Aside0 (Kd.R (Kd.int .i64) 3 (((w63.setCell ⟨d1, 0, none⟩ (.slice m4 s3.length j4)).setCell ⟨d1, 1, none⟩ (.slice k4 q3.length g4)).setCell ⟨d1, 2, none⟩ (.slice k8 o3.length z7)) w.heap.size (fun k_ => some k_ ≠ (.slice o8 a4.length j8 : Value).ownBlock ∧ some k_ ≠ (.slice m8 o4.length g8 : Value).ownBlock ∧ some k_ ≠ (.slice a9 s4.length s8 : Value).ownBlock ∧ some k_ ≠ (.slice z8 a5.length q8 : Value).ownBlock ∧ some k_ ≠ (.slice m9 b8.length j9 : Value).ownBlock ∧ some k_ ≠ (.slice m4 s3.length j4 : Value).ownBlock ∧ some k_ ≠ (.slice k4 q3.length g4 : Value).ownBlock) (.slice o9 d8.length k9) d8) := ⟨(by exact rm (rs1 b3 m1))⟩
        have n7_ : Aside0 (Kd.R (Kd.int .i64) 3 (((w63.setCell ⟨d1, 0, none⟩ (.slice m4 s3.length j4)).setCell ⟨d1, 1, none⟩ (.slice k4 q3.length g4)).setCell ⟨d1, 2, none⟩ (.slice k8 o3.length z7)) w.heap.size (fun k_ => some k_ ≠ (.slice o8 a4.length j8 : Value).ownBlock ∧ some k_ ≠ (.slice m8 o4.length g8 : Value).ownBlock ∧ some k_ ≠ (.slice a9 s4.length s8 : Value).ownBlock ∧ some k_ ≠ (.slice z8 a5.length q8 : Value).ownBlock ∧ some k_ ≠ (.slice o9 d8.length k9 : Value).ownBlock ∧ some k_ ≠ (.slice m4 s3.length j4 : Value).ownBlock ∧ some k_ ≠ (.slice k4 q3.length g4 : Value).ownBlock) (.slice m9 b8.length j9) b8) := ⟨(by exact rm (rs1 a3 m1))⟩
        have n8_ : Aside0 (Kd.R k50 50 (((w63.setCell ⟨d1, 0, none⟩ (.slice m4 s3.length j4)).setCell ⟨d1, 1, none⟩ (.slice k4 q3.length g4)).setCell ⟨d1, 2, none⟩ (.slice k8 o3.length z7)) w.heap.size (fun k_ => some k_ ≠ (.slice ba1 v4.length qa0 : Value).ownBlock ∧ some k_ ≠ (.slice ja1 g9.length ga1 : Value).ownBlock ∧ some k_ ≠ (.slice k8 o3.length z7 : Value).ownBlock) (.slice ma3 oa0.length ka3) oa0) := ⟨(by exact rm (rs1 m3 m1))⟩
        have n9_ : Aside0 (Kd.R (Kd.int .i64) 3 (((w63.setCell ⟨d1, 0, none⟩ (.slice m4 s3.length j4)).setCell ⟨d1, 1, none⟩ (.slice k4 q3.length g4)).setCell ⟨d1, 2, none⟩ (.slice k8 o3.length z7)) w.heap.size (fun k_ => some k_ ≠ (.slice o8 a4.length j8 : Value).ownBlock ∧ some k_ ≠ (.slice m8 o4.length g8 : Value).ownBlock ∧ some k_ ≠ (.slice a9 s4.length s8 : Value).ownBlock ∧ some k_ ≠ (.slice z8 a5.length q8 : Value).ownBlock ∧ some k_ ≠ (.slice o9 d8.length k9 : Value).ownBlock ∧ some k_ ≠ (.slice m9 b8.length j9 : Value).ownBlock ∧ some k_ ≠ (.slice k4 q3.length g4 : Value).ownBlock) (.slice m4 s3.length j4) s3) := ⟨(by exact rm (rs1 d4 m1))⟩
        have n10_ : Aside0 (Kd.R (Kd.int .i64) 3 (((w63.setCell ⟨d1, 0, none⟩ (.slice m4 s3.length j4)).setCell ⟨d1, 1, none⟩ (.slice k4 q3.length g4)).setCell ⟨d1, 2, none⟩ (.slice k8 o3.length z7)) w.heap.size (fun k_ => some k_ ≠ (.slice o8 a4.length j8 : Value).ownBlock ∧ some k_ ≠ (.slice m8 o4.length g8 : Value).ownBlock ∧ some k_ ≠ (.slice a9 s4.length s8 : Value).ownBlock ∧ some k_ ≠ (.slice z8 a5.length q8 : Value).ownBlock ∧ some k_ ≠ (.slice o9 d8.length k9 : Value).ownBlock ∧ some k_ ≠ (.slice m9 b8.length j9 : Value).ownBlock ∧ some k_ ≠ (.slice m4 s3.length j4 : Value).ownBlock) (.slice k4 q3.length g4) q3) := ⟨(by exact rm (rs1 b4 m1))⟩
        have n11_ : Aside0 (Kd.R k50 50 (((w63.setCell ⟨d1, 0, none⟩ (.slice m4 s3.length j4)).setCell ⟨d1, 1, none⟩ (.slice k4 q3.length g4)).setCell ⟨d1, 2, none⟩ (.slice k8 o3.length z7)) w.heap.size (fun k_ => some k_ ≠ (.slice ba1 v4.length qa0 : Value).ownBlock ∧ some k_ ≠ (.slice ja1 g9.length ga1 : Value).ownBlock ∧ some k_ ≠ (.slice ma3 oa0.length ka3 : Value).ownBlock) (.slice k8 o3.length z7) o3) := ⟨(by exact rm (rs1 z4 m1))⟩
        have n12_ : Aside0 ((((w63.setCell ⟨d1, 0, none⟩ (.slice m4 s3.length j4)).setCell ⟨d1, 1, none⟩ (.slice k4 q3.length g4)).setCell ⟨d1, 2, none⟩ (.slice k8 o3.length z7)).heap[ja0]? = some (.cells #[.slice o8 a4.length j8, .slice m8 o4.length g8, .slice ba1 v4.length qa0] 29 (0, 0))) := ⟨bq⟩
        have n13_ : Aside0 ((((w63.setCell ⟨d1, 0, none⟩ (.slice m4 s3.length j4)).setCell ⟨d1, 1, none⟩ (.slice k4 q3.length g4)).setCell ⟨d1, 2, none⟩ (.slice k8 o3.length z7)).heap[ma5]? = some (.cells #[.int .i64 ja5, .int .i64 qa3] 39 (0, 0))) := ⟨bq⟩
        have n14_ : Aside0 ((((w63.setCell ⟨d1, 0, none⟩ (.slice m4 s3.length j4)).setCell ⟨d1, 1, none⟩ (.slice k4 q3.length g4)).setCell ⟨d1, 2, none⟩ (.slice k8 o3.length z7)).heap[ja3]? = some (.cells #[.slice a9 s4.length s8, .slice z8 a5.length q8, .slice ja1 g9.length ga1] 29 (0, 0))) := ⟨bq⟩
        have n15_ : Aside0 ((((w63.setCell ⟨d1, 0, none⟩ (.slice m4 s3.length j4)).setCell ⟨d1, 1, none⟩ (.slice k4 q3.length g4)).setCell ⟨d1, 2, none⟩ (.slice k8 o3.length z7)).heap[ka5]? = some (.cells #[.slice o9 d8.length k9, .slice m9 b8.length j9, .slice ma3 oa0.length ka3] 29 (0, 0))) := ⟨bq⟩
        have n16_ : Aside0 ((((w63.setCell ⟨d1, 0, none⟩ (.slice m4 s3.length j4)).setCell ⟨d1, 1, none⟩ (.slice k4 q3.length g4)).setCell ⟨d1, 2, none⟩ (.slice k8 o3.length z7)).heap[d1]? = some (.cells #[.slice m4 s3.length j4, .slice k4 q3.length g4, .slice k8 o3.length z7] 29 (0, 0))) := ⟨bq⟩
        have n17_ : Aside0 (Below w.heap.size w (((w63.setCell ⟨d1, 0, none⟩ (.slice m4 s3.length j4)).setCell ⟨d1, 1, none⟩ (.slice k4 q3.length g4)).setCell ⟨d1, 2, none⟩ (.slice k8 o3.length z7))) := ⟨bl⟩
        (try clear q1)
        (try clear o1)
        (try clear s1)
        (try clear a2)
        (try clear z1)
        (try clear b2)
        (try clear b3)
        (try clear a3)
        (try clear m3)
        (try clear d4)
        (try clear b4)
        (try clear z4)
        (try clear b0)
        (try clear g0)
        (try clear d0)
        (try clear j0)
        (try clear m1)
        (try clear HB)
        generalize (((w63.setCell ⟨d1, 0, none⟩ (.slice m4 s3.length j4)).setCell ⟨d1, 1, none⟩ (.slice k4 q3.length g4)).setCell ⟨d1, 2, none⟩ (.slice k8 o3.length z7)) = w72 at n0_ n1_ n2_ n3_ n4_ n5_ n6_ n7_ n8_ n9_ n10_ n11_ n12_ n13_ n14_ n15_ n16_ n17_ ⊢
        have q1 := n0_
        have o1 := n1_
        have s1 := n2_
        have a2 := n3_
        have z1 := n4_
        have b2 := n5_
        have b3 := n6_
        have a3 := n7_
        have m3 := n8_
        have d4 := n9_
        have b4 := n10_
        have z4 := n11_
        have b0 := n12_
        have g0 := n13_
        have d0 := n14_
        have j0 := n15_
        have m1 := n16_
        have HB := n17_
        clear n0_ n1_ n2_ n3_ n4_ n5_ n6_ n7_ n8_ n9_ n10_ n11_ n12_ n13_ n14_ n15_ n16_ n17_
        replace q1 := mk (Kd.R_drew q1.out)
        replace o1 := mk (Kd.R_drew o1.out)
        replace s1 := mk (Kd.R_drew s1.out)
        replace a2 := mk (Kd.R_drew a2.out)
        replace z1 := mk (Kd.R_drew z1.out)
        replace b2 := mk (Kd.R_drew b2.out)
        replace b3 := mk (Kd.R_drew b3.out)
        replace a3 := mk (Kd.R_drew a3.out)
        replace m3 := mk (Kd.R_drew m3.out)
        replace d4 := mk (Kd.R_drew d4.out)
        replace b4 := mk (Kd.R_drew b4.out)
        replace z4 := mk (Kd.R_drew z4.out)
        replace b0 := wd b0
        replace g0 := wd g0
        replace d0 := wd d0
        replace j0 := wd j0
        replace m1 := wd m1
        replace HB := mk (below_drew1 HB.out)
        refine start_ (n := 49) (S := fun w' => w'.cell? ⟨ja3, 0, none⟩ = some (.slice a9 s4.length s8) ∧ w'.cell? ⟨ja3, 1, none⟩ = some (.slice z8 a5.length q8) ∧ w'.cell? ⟨ja3, 2, none⟩ = some (.slice ja1 g9.length ga1) ∧ w'.cell? ⟨ja0, 0, none⟩ = some (.slice o8 a4.length j8) ∧ w'.cell? ⟨ja0, 1, none⟩ = some (.slice m8 o4.length g8) ∧ w'.cell? ⟨ja0, 2, none⟩ = some (.slice ba1 v4.length qa0) ∧ w'.cell? ⟨d1, 0, none⟩ = some (.slice m4 s3.length j4) ∧ w'.cell? ⟨d1, 1, none⟩ = some (.slice k4 q3.length g4) ∧ w'.cell? ⟨d1, 2, none⟩ = some (.slice k8 o3.length z7)) (ds := []) #[F_, F_, F_, F_, F_, F_, F_, F_, F_, F_, F_, F_, F_, F_, F_, F_, F_, F_, F_, F_, F_, F_, F_, F_, F_, F_, F_, F_, F_, F_, F_, F_, F_, F_, F_, F_, F_, F_, F_, F_, F_, F_, F_, F_, F_, F_, F_, F_, F_] (by kernel_rfl) rfl rfl ⟨bc d0 0, bc d0 1, bc d0 2, bc b0 0, bc b0 1, bc b0 2, bc m1 0, bc m1 1, bc m1 2⟩ (fun hHeld => ?_); refine with_tabW laws_FnRipples.tab10 laws_FnRipples.bits10 (fun HT_ HW_ => ?_)
        generalize w72.drew = w73 at q1 o1 s1 a2 z1 b2 b3 a3 m3 d4 b4 z4 b0 g0 d0 j0 m1 HB hHeld ⊢
        refine pu 0 67 (tf 1 48) ?_
        refine pu 1 68 (tf 2 47) ?_
        refine pu 2 69 (tf 3 46) ?_
        refine pu 3 70 (tf 4 45) ?_
        refine pu 4 71 (tf 5 44) ?_
        refine tk 5 72 (tf 6 43) hHeld ?_
        refine pu 6 73 (tf 7 42) ?_
        refine pu 7 74 (tf 8 41) ?_
        refine pu 8 75 (tf 9 40) ?_
        refine pu 9 76 (tf 10 39) ?_
        refine pu 10 77 (tf 11 38) ?_
        refine pu 11 78 (tf 12 37) ?_
        refine pu 12 79 (tf 13 36) ?_
        refine tk 13 80 (tf 14 35) hHeld ?_
        refine pu 14 81 (tf 15 34) ?_
        refine pu 15 82 (tf 16 33) ?_
        refine pu 16 83 (tf 17 32) ?_
        refine pu 17 84 (tf 18 31) ?_
        refine tk 18 85 (tf 19 30) hHeld ?_
        refine on 19 86 (tf 20 29) (fun K hK => ?_)
        refine gs Try.func19 #[.agg #[.slice a9 s4.length s8, .slice z8 a5.length q8, .slice ja1 g9.length ga1]] ?_
        with_reducible refine (impl_IsCracker.calls k _ _ s4 _ _ a5 _ _ g9 true _ ?side1 ?side2 ?side3 ?side4 ?side5 ?side6 A47.out).mono ?_
        (case side1 => exact ra a2)
        (case side2 => exact rb a2)
        (case side3 => exact ra z1)
        (case side4 => exact rb z1)
        (case side5 => exact ra b2)
        (case side6 => exact rb b2)
        rintro e w74 ⟨rfl, hb⟩
        refine ⟨_, rfl, ?_⟩
        replace q1 := ro q1 hb
        replace o1 := ro o1 hb
        replace s1 := ro s1 hb
        replace a2 := ro a2 hb
        replace z1 := ro z1 hb
        replace b2 := ro b2 hb
        replace b3 := ro b3 hb
        replace a3 := ro a3 hb
        replace m3 := ro m3 hb
        replace d4 := ro d4 hb
        replace b4 := ro b4 hb
        replace z4 := ro z4 hb
        replace b0 := wb b0 hb
        replace g0 := wb g0 hb
        replace d0 := wb d0 hb
        replace j0 := wb j0 hb
        replace m1 := wb m1 hb
        replace HB := wh hb
        (try clear hb)
        (try clear hb2)
        (try clear hk)
        (try clear hi)
        refine hK.out _ _ ⟨bc d0 0, bc d0 1, bc d0 2, bc b0 0, bc b0 1, bc b0 2, bc m1 0, bc m1 1, bc m1 2⟩ (fun hHeld => ?_)
        clear hK K
        refine nm 86 ?_
        refine pu 20 87 (tf 21 28) ?_
        refine pu 21 88 (tf 22 27) ?_
        refine pu 22 89 (tf 23 26) ?_
        refine pu 23 90 (tf 24 25) ?_
        refine pu 26 93 #[T_,T_,T_,T_,T_,T_,T_,T_,T_,T_,T_,T_,T_,T_,T_,T_,T_,T_,T_,T_,T_,T_,T_,T_,F_,F_,T_,F_,F_,F_,F_,F_,F_,F_,F_,F_,F_,F_,F_,F_,F_,F_,F_,F_,F_,F_,F_,F_,F_] ?_
        refine tk 24 91 #[T_,T_,T_,T_,T_,T_,T_,T_,T_,T_,T_,T_,T_,T_,T_,T_,T_,T_,T_,T_,T_,T_,T_,T_,T_,F_,T_,F_,F_,F_,F_,F_,F_,F_,F_,F_,F_,F_,F_,F_,F_,F_,F_,F_,F_,F_,F_,F_,F_] hHeld ?_
        refine pu 25 92 (tf 27 22) ?_
        refine tk 27 94 (tf 28 21) hHeld ?_
        refine pu 28 95 (tf 29 20) ?_
        refine pu 29 96 (tf 30 19) ?_
        refine pu 30 97 (tf 31 18) ?_
        refine pu 31 98 (tf 32 17) ?_
        refine pu 32 99 (tf 33 16) ?_
        refine tk 33 100 (tf 34 15) hHeld ?_
        refine tk 35 102 #[T_,T_,T_,T_,T_,T_,T_,T_,T_,T_,T_,T_,T_,T_,T_,T_,T_,T_,T_,T_,T_,T_,T_,T_,T_,T_,T_,T_,T_,T_,T_,T_,T_,T_,F_,T_,F_,F_,F_,F_,F_,F_,F_,F_,F_,F_,F_,F_,F_] hHeld ?_
        refine on 34 101 (tf 36 13) (fun K hK => ?_)
        refine gs Try.func21 #[.agg #[.slice m4 s3.length j4, .slice k4 q3.length g4, .slice k8 o3.length z7]] ?_
        with_reducible refine (laws_pairsOf.calls k _ _ s3 _ _ q3 _ _ o3 ga6 _ ?side1 ?side2 ?side3 ?side4 ?side5 ?side6 A50.out).mono ?_
        (case side1 => exact ra d4)
        (case side2 => exact rb d4)
        (case side3 => exact ra b4)
        (case side4 => exact rb b4)
        (case side5 => exact ra z4)
        (case side6 => exact rb z4)
        rintro e w75 ⟨se7, rfl, ho0, hb⟩
        refine ⟨_, rfl, ?_⟩
        replace s1 := ro s1 hb
        replace b2 := ro b2 hb
        replace m3 := ro m3 hb
        replace z4 := ro z4 hb
        have oa3 := lo (nw (nw (nw (nw (nw (nw (nw (nw ho0 q1) o1) a2) z1) b3) a3) d4) b4)
        replace q1 := el q1 ho0 hb
        replace o1 := el o1 ho0 hb
        replace a2 := el a2 ho0 hb
        replace z1 := el z1 ho0 hb
        replace b3 := el b3 ho0 hb
        replace a3 := el a3 ho0 hb
        replace d4 := el d4 ho0 hb
        replace b4 := el b4 ho0 hb
        replace b0 := wb b0 hb
        replace g0 := wb g0 hb
        replace d0 := wb d0 hb
        replace j0 := wb j0 hb
        replace m1 := wb m1 hb
        replace HB := wh hb
        (try clear hb)
        (try clear hb2)
        (try clear hk)
        (try clear hi)
        (try clear ho0)
        refine hK.out _ _ ⟨bc d0 0, bc d0 1, bc d0 2, bc b0 0, bc b0 1, bc b0 2, bc m1 0, bc m1 1, bc m1 2⟩ (fun hHeld => ?_)
        clear hK K
        refine nm 101 ?_
        refine on 36 103 (tf 37 12) (fun K hK => ?_)
        refine gs Try.func21 #[.agg #[.slice o8 a4.length j8, .slice m8 o4.length g8, .slice ba1 v4.length qa0]] ?_
        with_reducible refine (laws_pairsOf.calls k _ _ a4 _ _ o4 _ _ v4 da6 _ ?side1 ?side2 ?side3 ?side4 ?side5 ?side6 A51.out).mono ?_
        (case side1 => exact ra q1)
        (case side2 => exact rb q1)
        (case side3 => exact ra o1)
        (case side4 => exact rb o1)
        (case side5 => exact ra s1)
        (case side6 => exact rb s1)
        rintro e w76 ⟨qe7, rfl, ho0, hb⟩
        refine ⟨_, rfl, ?_⟩
        replace s1 := ro s1 hb
        replace b2 := ro b2 hb
        replace m3 := ro m3 hb
        replace z4 := ro z4 hb
        have oa7 := lo (nw (nw (nw (nw (nw (nw (nw (nw (nw ho0 q1) o1) a2) z1) b3) a3) d4) b4) oa3)
        replace q1 := el q1 ho0 hb
        replace o1 := el o1 ho0 hb
        replace a2 := el a2 ho0 hb
        replace z1 := el z1 ho0 hb
        replace b3 := el b3 ho0 hb
        replace a3 := el a3 ho0 hb
        replace d4 := el d4 ho0 hb
        replace b4 := el b4 ho0 hb
        replace oa3 := el oa3 ho0 hb
        replace b0 := wb b0 hb
        replace g0 := wb g0 hb
        replace d0 := wb d0 hb
        replace j0 := wb j0 hb
        replace m1 := wb m1 hb
        replace HB := wh hb
        (try clear hb)
        (try clear hb2)
        (try clear hk)
        (try clear hi)
        (try clear ho0)
        obtain ⟨de5, ve3, md8⟩ := Kd.R_slice oa3.out
        (first | subst md8 | (injection md8 with f1_ f2_ f3_; have f4_ := f1_.symm; have f5_ := f3_.symm; clear f1_ f2_ f3_; subst f4_; subst f5_))
        obtain ⟨be5, se3, kd8⟩ := Kd.R_slice oa7.out
        (first | subst kd8 | (injection kd8 with f1_ f2_ f3_; have f4_ := f1_.symm; have f5_ := f3_.symm; clear f1_ f2_ f3_; subst f4_; subst f5_))
        refine hK.out _ _ ⟨bc d0 0, bc d0 1, bc d0 2, bc b0 0, bc b0 1, bc b0 2, bc m1 0, bc m1 1, bc m1 2⟩ (fun hHeld => ?_)
        clear hK K
        refine nm 103 ?_
        refine on 37 104 (tf 38 11) (fun K hK => ?_)
        refine gs Try.func20 #[.slice de5 ga6.length ve3, .slice be5 da6.length se3] ?_
        with_reducible refine (laws_sameInts.calls k _ _ ga6 _ _ da6 true _ ?side1 ?side2 ?side3 ?side4 A52.out).mono ?_
        (case side1 => exact ra oa3)
        (case side2 => exact rb oa3)
        (case side3 => exact ra oa7)
        (case side4 => exact rb oa7)
        rintro e w' ⟨rfl, ⟨nd, rfl⟩⟩
        refine ⟨_, rfl, ?_⟩
        refine hK.out _ _ ⟨bc d0 0, bc d0 1, bc d0 2, bc b0 0, bc b0 1, bc b0 2, bc m1 0, bc m1 1, bc m1 2⟩ (fun hHeld => ?_)
        clear hK K
        refine nm 104 ?_
        refine pu 38 105 (tf 39 10) ?_
        refine pu 39 106 (tf 40 9) ?_
        refine pu 40 107 (tf 41 8) ?_
        refine pu 41 108 (tf 42 7) ?_
        refine pu 44 111 #[T_,T_,T_,T_,T_,T_,T_,T_,T_,T_,T_,T_,T_,T_,T_,T_,T_,T_,T_,T_,T_,T_,T_,T_,T_,T_,T_,T_,T_,T_,T_,T_,T_,T_,T_,T_,T_,T_,T_,T_,T_,T_,F_,F_,T_,F_,F_,F_,F_] ?_
        refine tk 42 109 #[T_,T_,T_,T_,T_,T_,T_,T_,T_,T_,T_,T_,T_,T_,T_,T_,T_,T_,T_,T_,T_,T_,T_,T_,T_,T_,T_,T_,T_,T_,T_,T_,T_,T_,T_,T_,T_,T_,T_,T_,T_,T_,T_,F_,T_,F_,F_,F_,F_] hHeld ?_
        refine pu 43 110 (tf 45 4) ?_
        refine tk 45 112 (tf 46 3) hHeld ?_
        refine pu 46 113 (tf 47 2) ?_
        refine pu 47 114 (tf 48 1) ?_
        refine pu 48 115 (tf 49 0) ?_
        refine done_ (done_of HT_.out (by kernel_rfl)) ?_
        try go_wp2
        go_loopg [14] k (fun kq v14 w' => ∃ (d3 : Int), v14 = .int .i64 d3 ∧ Aside0 (laws_FnRipples.l0 kq l0 d3 a4 o4 v4 s3 q3 o3 = some r) ∧ Aside0 (kq ≤ k) ∧ Aside0 (Kd.R (Kd.int .i64) 3 w' w.heap.size (fun k_ => some k_ ≠ ((.slice m8 o4.length g8) : Value).ownBlock ∧ some k_ ≠ ((.slice a9 s4.length s8) : Value).ownBlock ∧ some k_ ≠ ((.slice z8 a5.length q8) : Value).ownBlock ∧ some k_ ≠ ((.slice o9 d8.length k9) : Value).ownBlock ∧ some k_ ≠ ((.slice m9 b8.length j9) : Value).ownBlock ∧ some k_ ≠ ((.slice m4 s3.length j4) : Value).ownBlock ∧ some k_ ≠ ((.slice k4 q3.length g4) : Value).ownBlock) (.slice o8 a4.length j8) a4) ∧ Aside0 (Kd.R (Kd.int .i64) 3 w' w.heap.size (fun k_ => some k_ ≠ ((.slice o8 a4.length j8) : Value).ownBlock ∧ some k_ ≠ ((.slice a9 s4.length s8) : Value).ownBlock ∧ some k_ ≠ ((.slice z8 a5.length q8) : Value).ownBlock ∧ some k_ ≠ ((.slice o9 d8.length k9) : Value).ownBlock ∧ some k_ ≠ ((.slice m9 b8.length j9) : Value).ownBlock ∧ some k_ ≠ ((.slice m4 s3.length j4) : Value).ownBlock ∧ some k_ ≠ ((.slice k4 q3.length g4) : Value).ownBlock) (.slice m8 o4.length g8) o4) ∧ Aside0 (Kd.R k50 50 w' w.heap.size (fun k_ => some k_ ≠ ((.slice ja1 g9.length ga1) : Value).ownBlock ∧ some k_ ≠ ((.slice ma3 oa0.length ka3) : Value).ownBlock ∧ some k_ ≠ ((.slice k8 o3.length z7) : Value).ownBlock) (.slice ba1 v4.length qa0) v4) ∧ Aside0 (Kd.R (Kd.int .i64) 3 w' w.heap.size (fun k_ => some k_ ≠ ((.slice o8 a4.length j8) : Value).ownBlock ∧ some k_ ≠ ((.slice m8 o4.length g8) : Value).ownBlock ∧ some k_ ≠ ((.slice z8 a5.length q8) : Value).ownBlock ∧ some k_ ≠ ((.slice o9 d8.length k9) : Value).ownBlock ∧ some k_ ≠ ((.slice m9 b8.length j9) : Value).ownBlock ∧ some k_ ≠ ((.slice m4 s3.length j4) : Value).ownBlock ∧ some k_ ≠ ((.slice k4 q3.length g4) : Value).ownBlock) (.slice a9 s4.length s8) s4) ∧ Aside0 (Kd.R (Kd.int .i64) 3 w' w.heap.size (fun k_ => some k_ ≠ ((.slice o8 a4.length j8) : Value).ownBlock ∧ some k_ ≠ ((.slice m8 o4.length g8) : Value).ownBlock ∧ some k_ ≠ ((.slice a9 s4.length s8) : Value).ownBlock ∧ some k_ ≠ ((.slice o9 d8.length k9) : Value).ownBlock ∧ some k_ ≠ ((.slice m9 b8.length j9) : Value).ownBlock ∧ some k_ ≠ ((.slice m4 s3.length j4) : Value).ownBlock ∧ some k_ ≠ ((.slice k4 q3.length g4) : Value).ownBlock) (.slice z8 a5.length q8) a5) ∧ Aside0 (Kd.R k50 50 w' w.heap.size (fun k_ => some k_ ≠ ((.slice ba1 v4.length qa0) : Value).ownBlock ∧ some k_ ≠ ((.slice ma3 oa0.length ka3) : Value).ownBlock ∧ some k_ ≠ ((.slice k8 o3.length z7) : Value).ownBlock) (.slice ja1 g9.length ga1) g9) ∧ Aside0 (Kd.R (Kd.int .i64) 3 w' w.heap.size (fun k_ => some k_ ≠ ((.slice o8 a4.length j8) : Value).ownBlock ∧ some k_ ≠ ((.slice m8 o4.length g8) : Value).ownBlock ∧ some k_ ≠ ((.slice a9 s4.length s8) : Value).ownBlock ∧ some k_ ≠ ((.slice z8 a5.length q8) : Value).ownBlock ∧ some k_ ≠ ((.slice m9 b8.length j9) : Value).ownBlock ∧ some k_ ≠ ((.slice m4 s3.length j4) : Value).ownBlock ∧ some k_ ≠ ((.slice k4 q3.length g4) : Value).ownBlock) (.slice o9 d8.length k9) d8) ∧ Aside0 (Kd.R (Kd.int .i64) 3 w' w.heap.size (fun k_ => some k_ ≠ ((.slice o8 a4.length j8) : Value).ownBlock ∧ some k_ ≠ ((.slice m8 o4.length g8) : Value).ownBlock ∧ some k_ ≠ ((.slice a9 s4.length s8) : Value).ownBlock ∧ some k_ ≠ ((.slice z8 a5.length q8) : Value).ownBlock ∧ some k_ ≠ ((.slice o9 d8.length k9) : Value).ownBlock ∧ some k_ ≠ ((.slice m4 s3.length j4) : Value).ownBlock ∧ some k_ ≠ ((.slice k4 q3.length g4) : Value).ownBlock) (.slice m9 b8.length j9) b8) ∧ Aside0 (Kd.R k50 50 w' w.heap.size (fun k_ => some k_ ≠ ((.slice ba1 v4.length qa0) : Value).ownBlock ∧ some k_ ≠ ((.slice ja1 g9.length ga1) : Value).ownBlock ∧ some k_ ≠ ((.slice k8 o3.length z7) : Value).ownBlock) (.slice ma3 oa0.length ka3) oa0) ∧ Aside0 (Kd.R (Kd.int .i64) 3 w' w.heap.size (fun k_ => some k_ ≠ ((.slice o8 a4.length j8) : Value).ownBlock ∧ some k_ ≠ ((.slice m8 o4.length g8) : Value).ownBlock ∧ some k_ ≠ ((.slice a9 s4.length s8) : Value).ownBlock ∧ some k_ ≠ ((.slice z8 a5.length q8) : Value).ownBlock ∧ some k_ ≠ ((.slice o9 d8.length k9) : Value).ownBlock ∧ some k_ ≠ ((.slice m9 b8.length j9) : Value).ownBlock ∧ some k_ ≠ ((.slice k4 q3.length g4) : Value).ownBlock) (.slice m4 s3.length j4) s3) ∧ Aside0 (Kd.R (Kd.int .i64) 3 w' w.heap.size (fun k_ => some k_ ≠ ((.slice o8 a4.length j8) : Value).ownBlock ∧ some k_ ≠ ((.slice m8 o4.length g8) : Value).ownBlock ∧ some k_ ≠ ((.slice a9 s4.length s8) : Value).ownBlock ∧ some k_ ≠ ((.slice z8 a5.length q8) : Value).ownBlock ∧ some k_ ≠ ((.slice o9 d8.length k9) : Value).ownBlock ∧ some k_ ≠ ((.slice m9 b8.length j9) : Value).ownBlock ∧ some k_ ≠ ((.slice m4 s3.length j4) : Value).ownBlock) (.slice k4 q3.length g4) q3) ∧ Aside0 (Kd.R k50 50 w' w.heap.size (fun k_ => some k_ ≠ ((.slice ba1 v4.length qa0) : Value).ownBlock ∧ some k_ ≠ ((.slice ja1 g9.length ga1) : Value).ownBlock ∧ some k_ ≠ ((.slice ma3 oa0.length ka3) : Value).ownBlock) (.slice k8 o3.length z7) o3) ∧ Aside0 (w'.heap[ja0]? = some (.cells #[(.slice o8 a4.length j8), (.slice m8 o4.length g8), (.slice ba1 v4.length qa0)] 29 (0, 0))) ∧ Aside0 (w'.heap[ma5]? = some (.cells #[.int .i64 ja5, .int .i64 qa3] 39 (0, 0))) ∧ Aside0 (w'.heap[ja3]? = some (.cells #[(.slice a9 s4.length s8), (.slice z8 a5.length q8), (.slice ja1 g9.length ga1)] 29 (0, 0))) ∧ Aside0 (w'.heap[ka5]? = some (.cells #[(.slice o9 d8.length k9), (.slice m9 b8.length j9), (.slice ma3 oa0.length ka3)] 29 (0, 0))) ∧ Aside0 (w'.heap[d1]? = some (.cells #[(.slice m4 s3.length j4), (.slice k4 q3.length g4), (.slice k8 o3.length z7)] 29 (0, 0))) ∧ Aside0 (Below w.heap.size w w'))
        case atStart => exact ⟨(0), (by first | rfl | (simp; done) | (simp [*]; done)), H', ⟨Nat.le_refl _⟩, ⟨by exact up (Kd.R_mono q1.out (fun _ hk => by first | exact ⟨hk.1.1.1, ⟨hk.1.1.2.1, ⟨hk.1.1.2.2.1, ⟨hk.1.1.2.2.2.1, ⟨hk.1.1.2.2.2.2.1, ⟨hk.1.1.2.2.2.2.2.1, hk.1.1.2.2.2.2.2.2⟩⟩⟩⟩⟩⟩ | (revert hk; simp only [and_imp]; intros; (repeat' (refine And.intro ?_ ?_)) <;> assumption)))⟩, ⟨by exact up (Kd.R_mono o1.out (fun _ hk => by first | exact ⟨hk.1.1.1, ⟨hk.1.1.2.1, ⟨hk.1.1.2.2.1, ⟨hk.1.1.2.2.2.1, ⟨hk.1.1.2.2.2.2.1, ⟨hk.1.1.2.2.2.2.2.1, hk.1.1.2.2.2.2.2.2⟩⟩⟩⟩⟩⟩ | (revert hk; simp only [and_imp]; intros; (repeat' (refine And.intro ?_ ?_)) <;> assumption)))⟩, ⟨up s1.out⟩, ⟨by exact up (Kd.R_mono a2.out (fun _ hk => by first | exact ⟨hk.1.1.1, ⟨hk.1.1.2.1, ⟨hk.1.1.2.2.1, ⟨hk.1.1.2.2.2.1, ⟨hk.1.1.2.2.2.2.1, ⟨hk.1.1.2.2.2.2.2.1, hk.1.1.2.2.2.2.2.2⟩⟩⟩⟩⟩⟩ | (revert hk; simp only [and_imp]; intros; (repeat' (refine And.intro ?_ ?_)) <;> assumption)))⟩, ⟨by exact up (Kd.R_mono z1.out (fun _ hk => by first | exact ⟨hk.1.1.1, ⟨hk.1.1.2.1, ⟨hk.1.1.2.2.1, ⟨hk.1.1.2.2.2.1, ⟨hk.1.1.2.2.2.2.1, ⟨hk.1.1.2.2.2.2.2.1, hk.1.1.2.2.2.2.2.2⟩⟩⟩⟩⟩⟩ | (revert hk; simp only [and_imp]; intros; (repeat' (refine And.intro ?_ ?_)) <;> assumption)))⟩, ⟨up b2.out⟩, ⟨by exact up (Kd.R_mono b3.out (fun _ hk => by first | exact ⟨hk.1.1.1, ⟨hk.1.1.2.1, ⟨hk.1.1.2.2.1, ⟨hk.1.1.2.2.2.1, ⟨hk.1.1.2.2.2.2.1, ⟨hk.1.1.2.2.2.2.2.1, hk.1.1.2.2.2.2.2.2⟩⟩⟩⟩⟩⟩ | (revert hk; simp only [and_imp]; intros; (repeat' (refine And.intro ?_ ?_)) <;> assumption)))⟩, ⟨by exact up (Kd.R_mono a3.out (fun _ hk => by first | exact ⟨hk.1.1.1, ⟨hk.1.1.2.1, ⟨hk.1.1.2.2.1, ⟨hk.1.1.2.2.2.1, ⟨hk.1.1.2.2.2.2.1, ⟨hk.1.1.2.2.2.2.2.1, hk.1.1.2.2.2.2.2.2⟩⟩⟩⟩⟩⟩ | (revert hk; simp only [and_imp]; intros; (repeat' (refine And.intro ?_ ?_)) <;> assumption)))⟩, ⟨up m3.out⟩, ⟨by exact up (Kd.R_mono d4.out (fun _ hk => by first | exact ⟨hk.1.1.1, ⟨hk.1.1.2.1, ⟨hk.1.1.2.2.1, ⟨hk.1.1.2.2.2.1, ⟨hk.1.1.2.2.2.2.1, ⟨hk.1.1.2.2.2.2.2.1, hk.1.1.2.2.2.2.2.2⟩⟩⟩⟩⟩⟩ | (revert hk; simp only [and_imp]; intros; (repeat' (refine And.intro ?_ ?_)) <;> assumption)))⟩, ⟨by exact up (Kd.R_mono b4.out (fun _ hk => by first | exact ⟨hk.1.1.1, ⟨hk.1.1.2.1, ⟨hk.1.1.2.2.1, ⟨hk.1.1.2.2.2.1, ⟨hk.1.1.2.2.2.2.1, ⟨hk.1.1.2.2.2.2.2.1, hk.1.1.2.2.2.2.2.2⟩⟩⟩⟩⟩⟩ | (revert hk; simp only [and_imp]; intros; (repeat' (refine And.intro ?_ ?_)) <;> assumption)))⟩, ⟨up z4.out⟩, ⟨ub b0.out⟩, ⟨ub g0.out⟩, ⟨ub d0.out⟩, ⟨ub j0.out⟩, ⟨ub m1.out⟩, ⟨bl⟩⟩
        case round =>
         clear H'
         try clear c1
         try clear c2
         try clear p2
         try clear c19
         try clear c20
         try clear c21
         obtain ⟨d3, rfl, HA, HK1, z2, v2, d2, s2, q2, o2, m2, k2, j2, y8, v8, s7, b0, g0, d0, j0, m1, HB⟩ := hrel
         cases gk with
         | zero => exact absurd HA.out (by simp [laws_FnRipples.l0])
         | succ k1 =>
          have H := HA.out
          clear HA
          simp only [laws_FnRipples.l0] at H
          revert H; refine ci (fun c79 H => ?_) fun c79 H => ?_
          ·have va8 : decide (d3 < (o3.length : Int)) = true := decide_eq_true c79
           clear c79
           revert H; refine ca fun c80 H => ?_
           have yc9 : decide (0 ≤ d3) = true := decide_eq_true c80
           clear c80
           revert H; refine ca fun c81 H => ?_
           have vc9 : decide (d3 < (v4.length : Int)) = true := decide_eq_true c81
           clear c81
           revert H; refine cn fun c82 H => ?_
           have sc9 : (!(((rd_T50 o3 d3).f0) == ((rd_T50 v4 d3).f0)) || (!(((rd_T50 o3 d3).f1) == ((rd_T50 v4 d3).f1)))) = false := by simpa using c82
           clear c82
           have H' := mk H
           clear H
           have ke1 := z9.out
           have qd9 := ga0.out
           have je1 := y9.out
           have od9 := da0.out
           have ge1 := v9.out
           have md9 := ba0.out
           have de1 := s9.out
           have kd9 := aa0.out
           obtain ⟨da7, ba7, aa7, sa6, qa6, oa6⟩ := bz3 m1
           try go_wp2
           replace z2 := mk (Kd.R_drew z2.out)
           replace v2 := mk (Kd.R_drew v2.out)
           replace d2 := mk (Kd.R_drew d2.out)
           replace s2 := mk (Kd.R_drew s2.out)
           replace q2 := mk (Kd.R_drew q2.out)
           replace o2 := mk (Kd.R_drew o2.out)
           replace m2 := mk (Kd.R_drew m2.out)
           replace k2 := mk (Kd.R_drew k2.out)
           replace j2 := mk (Kd.R_drew j2.out)
           replace y8 := mk (Kd.R_drew y8.out)
           replace v8 := mk (Kd.R_drew v8.out)
           replace s7 := mk (Kd.R_drew s7.out)
           replace b0 := wd b0
           replace g0 := wd g0
           replace d0 := wd d0
           replace j0 := wd j0
           replace m1 := wd m1
           replace HB := mk (below_drew1 HB.out)
           have ya9 : 0 ≤ (d3 : Int) := dt
           have sa9 : d3 < (o3.length : Int) := dt
           obtain ⟨sa5, qe3, ga3, da3⟩ := at_T50 (Kd.R_reads' s7.out).2.2 d3 ya9 sa9
           cases qe3
           replace ya9 := eq_true ya9
           replace sa9 := eq_true sa9
           have va9 : 0 ≤ (d3 : Int) := dt
           have qa9 : d3 < (v4.length : Int) := dt
           obtain ⟨qa5, oe3, ba3, aa3⟩ := at_T50 (Kd.R_reads' d2.out).2.2 d3 va9 qa9
           cases oe3
           replace va9 := eq_true va9
           replace qa9 := eq_true qa9
           refine start_ (n := 11) (S := fun w' => w'.cell? ⟨d1, 0, none⟩ = some (.slice m4 s3.length j4) ∧ w'.cell? ⟨d1, 1, none⟩ = some (.slice k4 q3.length g4) ∧ w'.cell? ⟨d1, 2, none⟩ = some (.slice (some sa5) o3.length z7) ∧ w'.cell? ⟨ja0, 0, none⟩ = some (.slice o8 a4.length j8) ∧ w'.cell? ⟨ja0, 1, none⟩ = some (.slice m8 o4.length g8) ∧ w'.cell? ⟨ja0, 2, none⟩ = some (.slice (some qa5) v4.length qa0) ∧ w'.cell? (sa5.add ((d3).toNat * 2)) = some (.int .i64 ((rd_T50 o3 d3).f0)) ∧ w'.cell? ⟨(sa5.add ((d3).toNat * 2)).block, (sa5.add ((d3).toNat * 2)).off + 1, none⟩ = some (.int .i64 ((rd_T50 o3 d3).f1)) ∧ w'.cell? (qa5.add ((d3).toNat * 2)) = some (.int .i64 ((rd_T50 v4 d3).f0)) ∧ w'.cell? ⟨(qa5.add ((d3).toNat * 2)).block, (qa5.add ((d3).toNat * 2)).off + 1, none⟩ = some (.int .i64 ((rd_T50 v4 d3).f1))) (ds := []) #[F_, F_, F_, F_, F_, F_, F_, F_, F_, F_, F_] (by kernel_rfl) rfl rfl ⟨bc m1 0, bc m1 1, bc m1 2, bc b0 0, bc b0 1, bc b0 2, ga3, da3, ba3, aa3⟩ (fun hHeld => ?_); refine with_tabW laws_FnRipples.tab15 laws_FnRipples.bits15 (fun HT_ HW_ => ?_)
           generalize wr.drew = w88 at z2 v2 d2 s2 q2 o2 m2 k2 j2 y8 v8 s7 b0 g0 d0 j0 m1 HB ga3 da3 ba3 aa3 hHeld ⊢
           refine pu 0 123 (tf 1 10) ?_
           refine pu 2 125 #[T_,F_,T_,F_,F_,F_,F_,F_,F_,F_,F_] ?_
           refine pu 5 128 #[T_,F_,T_,F_,F_,T_,F_,F_,F_,F_,F_] ?_
           refine pu 7 130 #[T_,F_,T_,F_,F_,T_,F_,T_,F_,F_,F_] ?_
           refine tk 1 124 #[T_,T_,T_,F_,F_,T_,F_,T_,F_,F_,F_] hHeld ?_
           refine pu 3 126 #[T_,T_,T_,T_,F_,T_,F_,T_,F_,F_,F_] ?_
           refine tk 4 127 #[T_,T_,T_,T_,T_,T_,F_,T_,F_,F_,F_] hHeld ?_
           refine tk 6 129 (tf 8 3) hHeld ?_
           refine pu 8 131 (tf 9 2) ?_
           refine tk 9 132 (tf 10 1) hHeld ?_
           refine pu 10 133 (tf 11 0) ?_
           refine done_ (done_of HT_.out (by kernel_rfl)) ?_
           try go_wp2
           go_roundg k1
           case measure => have := HK1.out; omega
           case rel => exact ⟨(wrap64 (d3 + 1)), (by first | rfl | (simp; done) | (simp [*]; done)), H', ⟨by have := HK1.out; omega⟩, ⟨up z2.out⟩, ⟨up v2.out⟩, ⟨up d2.out⟩, ⟨up s2.out⟩, ⟨up q2.out⟩, ⟨up o2.out⟩, ⟨up m2.out⟩, ⟨up k2.out⟩, ⟨up j2.out⟩, ⟨up y8.out⟩, ⟨up v8.out⟩, ⟨up s7.out⟩, ⟨ub b0.out⟩, ⟨ub g0.out⟩, ⟨ub d0.out⟩, ⟨ub j0.out⟩, ⟨ub m1.out⟩, ⟨bl⟩⟩
          ·have va8 : decide (d3 < (o3.length : Int)) = false := decide_eq_false c79
           clear c79
           have H' := mk H
           clear H
           have be1 := z9.out
           have jd9 := ga0.out
           have ae1 := y9.out
           have gd9 := da0.out
           have ze0 := v9.out
           have dd9 := ba0.out
           have ye0 := s9.out
           have bd9 := aa0.out
           obtain ⟨za6, ya6, va6, ma6, ka6, ja6⟩ := bz3 m1
           go_wp2
           go_meet
           case rel => exact ⟨_, H', ⟨by have := HK1.out; first | omega | exact Nat.le_refl _⟩, ⟨by exact up (Kd.R_mono z2.out (fun _ hk => by first | exact ⟨hk.1, ⟨hk.2.1, ⟨hk.2.2.1, ⟨hk.2.2.2.1, hk.2.2.2.2.1⟩⟩⟩⟩ | (revert hk; simp only [and_imp]; intros; (repeat' (refine And.intro ?_ ?_)) <;> assumption)))⟩, ⟨by exact up (Kd.R_mono v2.out (fun _ hk => by first | exact ⟨hk.1, ⟨hk.2.1, ⟨hk.2.2.1, ⟨hk.2.2.2.1, hk.2.2.2.2.1⟩⟩⟩⟩ | (revert hk; simp only [and_imp]; intros; (repeat' (refine And.intro ?_ ?_)) <;> assumption)))⟩, ⟨by exact up (Kd.R_mono d2.out (fun _ hk => by first | exact ⟨hk.1, hk.2.1⟩ | (revert hk; simp only [and_imp]; intros; (repeat' (refine And.intro ?_ ?_)) <;> assumption)))⟩, ⟨by exact up (Kd.R_mono s2.out (fun _ hk => by first | exact ⟨hk.1, ⟨hk.2.1, ⟨hk.2.2.1, ⟨hk.2.2.2.1, hk.2.2.2.2.1⟩⟩⟩⟩ | (revert hk; simp only [and_imp]; intros; (repeat' (refine And.intro ?_ ?_)) <;> assumption)))⟩, ⟨by exact up (Kd.R_mono q2.out (fun _ hk => by first | exact ⟨hk.1, ⟨hk.2.1, ⟨hk.2.2.1, ⟨hk.2.2.2.1, hk.2.2.2.2.1⟩⟩⟩⟩ | (revert hk; simp only [and_imp]; intros; (repeat' (refine And.intro ?_ ?_)) <;> assumption)))⟩, ⟨by exact up (Kd.R_mono o2.out (fun _ hk => by first | exact ⟨hk.1, hk.2.1⟩ | (revert hk; simp only [and_imp]; intros; (repeat' (refine And.intro ?_ ?_)) <;> assumption)))⟩, ⟨by exact up (Kd.R_mono m2.out (fun _ hk => by first | exact ⟨hk.1, ⟨hk.2.1, ⟨hk.2.2.1, ⟨hk.2.2.2.1, hk.2.2.2.2.1⟩⟩⟩⟩ | (revert hk; simp only [and_imp]; intros; (repeat' (refine And.intro ?_ ?_)) <;> assumption)))⟩, ⟨by exact up (Kd.R_mono k2.out (fun _ hk => by first | exact ⟨hk.1, ⟨hk.2.1, ⟨hk.2.2.1, ⟨hk.2.2.2.1, hk.2.2.2.2.1⟩⟩⟩⟩ | (revert hk; simp only [and_imp]; intros; (repeat' (refine And.intro ?_ ?_)) <;> assumption)))⟩, ⟨by exact up (Kd.R_mono j2.out (fun _ hk => by first | exact ⟨hk.1, hk.2.1⟩ | (revert hk; simp only [and_imp]; intros; (repeat' (refine And.intro ?_ ?_)) <;> assumption)))⟩, ⟨ub b0.out⟩, ⟨ub g0.out⟩, ⟨ub d0.out⟩, ⟨ub j0.out⟩, ⟨bl⟩⟩
       ·replace c53 := Bool.eq_false_iff.mpr c53
        subst c53
        rw [if_neg nf] at H
        exact absurd H (by simp)
      ·replace c48 := Bool.eq_false_iff.mpr c48
       subst c48
       rw [if_neg nf] at H
       exact absurd H (by simp)
     ·replace c44 := Bool.eq_false_iff.mpr c44
      subst c44
      rw [if_neg nf] at H
      exact absurd H (by simp)
    ·replace c42 := Bool.eq_false_iff.mpr c42
     subst c42
     rw [if_neg nf] at H
     have H' := mk H
     clear H
     go_wp2
     go_meet
     case rel => exact ⟨_, H', ⟨by first | omega | exact Nat.le_refl _⟩, ⟨by exact up (Kd.R_mono q1.out (fun _ hk => by first | exact ⟨hk.1.1.1.1, ⟨hk.1.1.1.2, ⟨hk.1.1.2, ⟨hk.1.2, hk.2⟩⟩⟩⟩ | (revert hk; simp only [and_imp]; intros; (repeat' (refine And.intro ?_ ?_)) <;> assumption)))⟩, ⟨by exact up (Kd.R_mono o1.out (fun _ hk => by first | exact ⟨hk.1.1.1.1, ⟨hk.1.1.1.2, ⟨hk.1.1.2, ⟨hk.1.2, hk.2⟩⟩⟩⟩ | (revert hk; simp only [and_imp]; intros; (repeat' (refine And.intro ?_ ?_)) <;> assumption)))⟩, ⟨by exact up (Kd.R_mono s1.out (fun _ hk => by first | exact ⟨hk.1.2, hk.2⟩ | (revert hk; simp only [and_imp]; intros; (repeat' (refine And.intro ?_ ?_)) <;> assumption)))⟩, ⟨by exact up (Kd.R_mono a2.out (fun _ hk => by first | exact ⟨hk.1.1.1.2, ⟨hk.1.1.2, ⟨hk.1.1.1.1, ⟨hk.1.2, hk.2⟩⟩⟩⟩ | (revert hk; simp only [and_imp]; intros; (repeat' (refine And.intro ?_ ?_)) <;> assumption)))⟩, ⟨by exact up (Kd.R_mono z1.out (fun _ hk => by first | exact ⟨hk.1.1.1.2, ⟨hk.1.1.2, ⟨hk.1.1.1.1, ⟨hk.1.2, hk.2⟩⟩⟩⟩ | (revert hk; simp only [and_imp]; intros; (repeat' (refine And.intro ?_ ?_)) <;> assumption)))⟩, ⟨by exact up (Kd.R_mono b2.out (fun _ hk => by first | exact ⟨hk.1.2, hk.2⟩ | (revert hk; simp only [and_imp]; intros; (repeat' (refine And.intro ?_ ?_)) <;> assumption)))⟩, ⟨by exact up (Kd.R_mono b3.out (fun _ hk => by first | exact ⟨hk.1.1.1.2, ⟨hk.1.1.2, ⟨hk.1.2, ⟨hk.2, hk.1.1.1.1⟩⟩⟩⟩ | (revert hk; simp only [and_imp]; intros; (repeat' (refine And.intro ?_ ?_)) <;> assumption)))⟩, ⟨by exact up (Kd.R_mono a3.out (fun _ hk => by first | exact ⟨hk.1.1.1.2, ⟨hk.1.1.2, ⟨hk.1.2, ⟨hk.2, hk.1.1.1.1⟩⟩⟩⟩ | (revert hk; simp only [and_imp]; intros; (repeat' (refine And.intro ?_ ?_)) <;> assumption)))⟩, ⟨by exact up (Kd.R_mono m3.out (fun _ hk => by first | exact ⟨hk.1.2, hk.2⟩ | (revert hk; simp only [and_imp]; intros; (repeat' (refine And.intro ?_ ?_)) <;> assumption)))⟩, ⟨ub b0.out⟩, ⟨ub g0.out⟩, ⟨ub d0.out⟩, ⟨ub j0.out⟩, ⟨bl⟩⟩
   case rest =>
    clear bd0
    try clear c1
    try clear c2
    try clear p2
    try clear c4
    try clear c5
    try clear p6
    try clear c7
    try clear p7
    try clear q7
    try clear hx7
    try clear c8
    try clear c9
    try clear c19
    try clear c20
    try clear c21
    try clear c42
    try clear c44
    try clear c48
    try clear c49
    try clear c53
    try clear c54
    try clear p64
    try clear c79
    try clear va8
    try clear p79
    try clear q79
    try clear se8
    try clear c80
    try clear yc9
    try clear c81
    try clear vc9
    try clear c82
    try clear sc9
    try clear c83
    try clear c84
    try clear c85
    try clear c86
    try clear c89
    try clear c90
    try clear c91
    try clear c92
    try clear da7
    try clear ba7
    try clear aa7
    try clear za6
    try clear ya6
    try clear va6
    try clear sa6
    try clear qa6
    try clear oa6
    try clear ma6
    try clear ka6
    try clear ja6
    try clear ga3
    try clear da3
    try clear ba3
    try clear aa3
    try clear p2
    try clear ya9
    try clear va9
    try clear sa9
    try clear qa9
    obtain ⟨kq, HA, de9, z2, v2, d2, s2, q2, o2, m2, k2, j2, b0, g0, d0, j0, HB⟩ := hcut
    cases kq with
    | zero => exact absurd HA.out (by simp [laws_FnRipples.j1])
    | succ za0 =>
     have H := HA.out
     clear HA
     simp only [laws_FnRipples.j1] at H
     revert H; refine bo ?_; rintro ⟨z3, v7, d9, ka1⟩ A94 H
     dsimp only at H
     revert H; refine bo ?_; rintro ⟨a8, b9, ya0, ja8, ka9⟩ A95 H
     dsimp only at H
     revert H; refine bo ?_; rintro ⟨ga5, da5, ba5, ga8, ba8⟩ A96 H
     dsimp only at H
     revert H; refine cn fun c97 H => ?_
     have de4 : (ka9 != ba8) = false := by simpa using c97
     (try (have be4 : decide (ka9 = ba8) = true := by simpa using c97))
     (try (have ae4 : (ka9 == ba8) = true := by simpa using c97))
     clear c97
     revert H; refine ca fun c98 H => ?_
     have ze3 : (ja8 == ga8) = true := beq_iff_eq.mpr c98
     have ye3 : (ja8 != ga8) = false := bne_eq_false_iff_eq.mpr c98
     clear c98
     revert H; refine bo ?_; rintro qc2 A99 H
     by_cases gc2 : qc2 = true
     ·subst gc2
      rw [if_pos rfl] at H
      by_cases dc2 : ka9 = true
      ·subst dc2
       rw [if_pos rfl] at H
       revert H; refine bo ?_; rintro oc2 ke5 H
       by_cases bc2 : oc2 = true
       ·subst bc2
        rw [if_pos rfl] at H
        revert H; refine bo ?_; rintro da8 je5 H
        revert H; refine ca fun ad0 H => ?_
        have vd8 : (da8 == (-1)) = true := beq_iff_eq.mpr ad0
        have sd8 : (da8 != (-1)) = false := bne_eq_false_iff_eq.mpr ad0
        clear ad0
        revert H; refine ca fun zc9 H => ?_
        have qd8 : ((a8.length : Int) == (wrap64 ((z3.length : Int) - 1))) = true := beq_iff_eq.mpr zc9
        have od8 : ((a8.length : Int) != (wrap64 ((z3.length : Int) - 1))) = false := bne_eq_false_iff_eq.mpr zc9
        clear zc9
        obtain rfl := Option.some.inj H
        clear z2
        clear v2
        clear d2
        clear s2
        clear q2
        clear o2
        clear m2
        clear k2
        clear j2
        go_wp2_with (first | ((with_reducible refine gate_callee (f := 22) rfl ?_); refine gl (some 136) rfl Try.func22 #[.slice A0 l0.length c0] ?_; (with_reducible refine (spec_DrawRippleDelete.calls za0 _ _ l0 z3 v7 d9 ka1 _ ?side1 ?side2 A94.out).mono ?_); (case side1 => exact cb HR0 HB); (case side2 => exact HC0.out); rintro e oe7 ⟨jd1, gd1, dd1, rfl, ho0, ho1, ho2, hb⟩; refine ⟨_, rfl, ?_⟩; have k0 := lo ho0; have s0 := lo ho1; have q0 := lo ho2; replace b0 := wb b0 hb; replace g0 := wb g0 hb; replace d0 := wb d0 hb; replace j0 := wb j0 hb; replace HB := wh hb; (try clear hb ho0 ho1 ho2)) | ((with_reducible refine gate_dst (N := 15) rfl ?_); (try (refine gate_guard (by rfl) ?_; dsimp only)); refine bx 15 #[.slice none 0 0, .slice none 0 0, .slice none 0 0] 29 ?_; intro ya3 hg me7 hbox hb; replace k0 := ro k0 hb; replace s0 := ro s0 hb; replace q0 := ro q0 hb; have o0 := mk hbox; have ba9 := wg hg; have ja9 := wg hg; replace HB := wh hb; have o7 := nl b0 hg; have o6 := nr b0 hg; replace b0 := wb b0 hb; have j7 := nl g0 hg; have m6 := nr g0 hg; replace g0 := wb g0 hb; have b7 := nl d0 hg; have k6 := nr d0 hg; replace d0 := wb d0 hb; have v6 := nl j0 hg; have j6 := nr j0 hg; replace j0 := wb j0 hb; clear hb hbox hg; obtain ⟨ma0, ka0, zc8⟩ := Kd.R_slice k0.out; subst zc8; have jd8 := o6.out; have yd4 := o7.out; have gd8 := m6.out; have vd4 := j7.out; have dd8 := k6.out; have sd4 := b7.out; have bd8 := j6.out; have qd4 := v6.out; obtain ⟨yc1, vc1, sc1, yb5, vb5, sb5⟩ := bz3 o0; obtain ⟨ya7, ma7, yc8⟩ := Kd.R_slice s0.out; subst yc8; obtain ⟨va5, oa5, vc8⟩ := Kd.R_slice q0.out; subst vc8) | ((with_reducible refine gate_callee (f := 9) rfl ?_); refine gl (some 142) rfl Try.func9 #[.agg #[.slice ma0 z3.length ka0, .slice ya7 v7.length ma7, .slice va5 d9.length oa5], .int .i64 ka1] ?_; (with_reducible refine (impl_RippleDelete.calls za0 _ _ z3 _ _ v7 _ _ d9 ka1 a8 b9 ya0 ja8 true _ ?side1 ?side2 ?side3 ?side4 ?side5 ?side6 A95.out).mono ?_); (case side1 => exact rc1 k0 o0); (case side2 => exact rb k0); (case side3 => exact rc1 s0 o0); (case side4 => exact rb s0); (case side5 => exact rc1 q0 o0); (case side6 => exact rb q0); rintro e ke7 ⟨bd1, ad1, zd0, rfl, ho0, ho1, ho2, hb⟩; refine ⟨_, rfl, ?_⟩; have v0 := lo (nw1 (nw1 ho0 k0 o0) s0 o0); have a1 := lo (nw1 (nw1 ho1 k0 o0) s0 o0); replace k0 := td2r1 k0 o0 hb ho0 ho1; replace s0 := td2r1 s0 o0 hb ho0 ho1; have g1 := lo (nw1 ho2 q0 o0); replace q0 := el1 q0 o0 ho2 hb; replace b0 := wx b0 hb; replace g0 := wx g0 hb; replace d0 := wx d0 hb; replace j0 := wx j0 hb; replace o0 := wq ya3 #[.slice ma0 z3.length ka0, .slice ya7 v7.length ma7, .slice va5 d9.length oa5] 29 hb; replace HB := wh hb; (try clear hb ho0 ho1 ho2)) | ((with_reducible refine gate_dst (N := 17) rfl ?_); (try (refine gate_guard (by rfl) ?_; dsimp only)); refine bx 17 #[.slice none 0 0, .slice none 0 0, .slice none 0 0] 29 ?_; intro va3 hg je7 hbox hb; replace k0 := ro k0 hb; replace s0 := ro s0 hb; replace q0 := ro q0 hb; replace v0 := ro v0 hb; replace a1 := ro a1 hb; replace g1 := ro g1 hb; have m0 := mk hbox; have aa9 := wg hg; have ga9 := wg hg; replace HB := wh hb; have m7 := nl b0 hg; have b6 := nr b0 hg; replace b0 := wb b0 hb; have g7 := nl g0 hg; have a6 := nr g0 hg; replace g0 := wb g0 hb; have a7 := nl d0 hg; have z5 := nr d0 hg; replace d0 := wb d0 hb; have s6 := nl j0 hg; have v5 := nr j0 hg; replace j0 := wb j0 hb; have g6 := nl o0 hg; have s5 := nr o0 hg; replace o0 := wb o0 hb; clear hb hbox hg; obtain ⟨da1, aa1, sc8⟩ := Kd.R_slice v0.out; subst sc8; have ad8 := b6.out; have od4 := m7.out; have zd7 := a6.out; have md4 := g7.out; have yd7 := z5.out; have kd4 := a7.out; have vd7 := v5.out; have jd4 := s6.out; have sd7 := s5.out; have gd4 := g6.out; obtain ⟨qc1, oc1, mc1, qb5, ob5, mb5⟩ := bz3 m0; obtain ⟨za2, va1, qc8⟩ := Kd.R_slice a1.out; subst qc8; obtain ⟨va7, ka7, oc8⟩ := Kd.R_slice g1.out; subst oc8; obtain ⟨kc1, jc1, gc1, kb5, jb5, gb5⟩ := bz3 o0) | ((with_reducible refine gate_callee (f := 7) rfl ?_); refine gl (some 149) rfl Try.func7 #[.agg #[.slice ma0 z3.length ka0, .slice ya7 v7.length ma7, .slice va5 d9.length oa5], .int .i64 ka1] ?_; (with_reducible refine (spec_RippleDelete.calls za0 _ _ z3 _ _ v7 _ _ d9 ka1 ga5 da5 ba5 ga8 ba8 _ ?side1 ?side2 ?side3 ?side4 ?side5 ?side6 A96.out).mono ?_); (case side1 => exact rc1 k0 m0); (case side2 => exact rb k0); (case side3 => exact rc1 s0 m0); (case side4 => exact rb s0); (case side5 => exact rc1 q0 m0); (case side6 => exact rb q0); rintro e ge7 ⟨aa8, za7, yd0, rfl, ho0, ho1, ho2, hb⟩; refine ⟨_, rfl, ?_⟩; have j3 := lo (nw1 (nw1 (nw1 (nw1 ho0 k0 m0) s0 m0) v0 m0) a1 m0); have g3 := lo (nw1 (nw1 (nw1 (nw1 ho1 k0 m0) s0 m0) v0 m0) a1 m0); replace k0 := td2r1 k0 m0 hb ho0 ho1; replace s0 := td2r1 s0 m0 hb ho0 ho1; replace v0 := td2r1 v0 m0 hb ho0 ho1; replace a1 := td2r1 a1 m0 hb ho0 ho1; have k3 := lo (nw1 (nw1 ho2 q0 m0) g1 m0); replace q0 := el1 q0 m0 ho2 hb; replace g1 := el1 g1 m0 ho2 hb; replace b0 := wx b0 hb; replace g0 := wx g0 hb; replace d0 := wx d0 hb; replace j0 := wx j0 hb; replace o0 := wx o0 hb; replace m0 := wq va3 #[.slice da1 a8.length aa1, .slice za2 b9.length va1, .slice va7 ya0.length ka7] 29 hb; replace HB := wh hb; (try clear hb ho0 ho1 ho2); replace k0 := ko4 (.slice da1 a8.length aa1) (.slice za2 b9.length va1) aa8 za7 k0; replace v0 := ko4 (.slice ma0 z3.length ka0) (.slice za2 b9.length va1) aa8 za7 v0; replace a1 := ko4 (.slice ma0 z3.length ka0) (.slice da1 a8.length aa1) aa8 za7 a1; replace j3 := ko4 (.slice ma0 z3.length ka0) (.slice da1 a8.length aa1) (.slice za2 b9.length va1) za7 j3; replace g3 := ko4 (.slice ma0 z3.length ka0) (.slice da1 a8.length aa1) (.slice za2 b9.length va1) aa8 g3; clear s0) | ((with_reducible refine gate_dst (N := 20) rfl ?_); (try (refine gate_guard (by rfl) ?_; dsimp only)); refine bx 20 #[.slice none 0 0, .slice none 0 0, .slice none 0 0] 29 ?_; intro sa3 hg de7 hbox hb; replace k0 := ro k0 hb; replace q0 := ro q0 hb; replace v0 := ro v0 hb; replace a1 := ro a1 hb; replace g1 := ro g1 hb; replace j3 := ro j3 hb; replace g3 := ro g3 hb; replace k3 := ro k3 hb; have b1 := mk hbox; have za8 := wg hg; have da9 := wg hg; replace HB := wh hb; have k7 := nl b0 hg; have o5 := nr b0 hg; replace b0 := wb b0 hb; have d7 := nl g0 hg; have m5 := nr g0 hg; replace g0 := wb g0 hb; have z6 := nl d0 hg; have k5 := nr d0 hg; replace d0 := wb d0 hb; have q6 := nl j0 hg; have j5 := nr j0 hg; replace j0 := wb j0 hb; have d6 := nl o0 hg; have g5 := nr o0 hg; replace o0 := wb o0 hb; have q5 := nl m0 hg; have d5 := nr m0 hg; replace m0 := wb m0 hb; clear hb hbox hg; obtain ⟨vd0, qc9, mc8⟩ := Kd.R_slice j3.out; subst mc8; have qd7 := o5.out; have dd4 := k7.out; have od7 := m5.out; have bd4 := d7.out; have md7 := k5.out; have ad4 := z6.out; have kd7 := j5.out; have zd3 := q6.out; have jd7 := g5.out; have yd3 := d6.out; have gd7 := d5.out; have vd3 := q5.out; obtain ⟨dc1, bc1, ac1, db5, bb5, ab5⟩ := bz3 b1; obtain ⟨sd0, oc9, kc8⟩ := Kd.R_slice g3.out; subst kc8; obtain ⟨qd0, mc9, jc8⟩ := Kd.R_slice k3.out; subst jc8; obtain ⟨zc0, yc0, vc0, zb4, yb4, vb4⟩ := bz3 m0) | (go_at_call 18; (with_reducible refine (spec_EqualCrackers.calls za0 _ _ a8 _ _ b9 _ _ ya0 _ _ ga5 _ _ da5 _ _ ba5 true _ ?side1 ?side2 ?side3 ?side4 ?side5 ?side6 ?side7 ?side8 ?side9 ?side10 ?side11 ?side12 A99.out).mono ?_); (case side1 => exact rc1 v0 b1); (case side2 => exact rb v0); (case side3 => exact rc1 a1 b1); (case side4 => exact rb a1); (case side5 => exact rc1 g1 b1); (case side6 => exact rb g1); (case side7 => exact rc1 j3 b1); (case side8 => exact rb j3); (case side9 => exact rc1 g3 b1); (case side10 => exact rb g3); (case side11 => exact rc1 k3 b1); (case side12 => exact rb k3); rintro e be7 ⟨rfl, hb⟩; replace k0 := ro1 k0 b1 hb; replace q0 := ro1 q0 b1 hb; replace v0 := ro1 v0 b1 hb; replace a1 := ro1 a1 b1 hb; replace g1 := ro1 g1 b1 hb; replace j3 := ro1 j3 b1 hb; replace g3 := ro1 g3 b1 hb; replace k3 := ro1 k3 b1 hb; replace b0 := wx b0 hb; replace g0 := wx g0 hb; replace d0 := wx d0 hb; replace j0 := wx j0 hb; replace o0 := wx o0 hb; replace m0 := wx m0 hb; replace b1 := wq sa3 #[.slice vd0 ga5.length qc9, .slice sd0 da5.length oc9, .slice qd0 ba5.length mc9] 29 hb; replace HB := wh hb; (try clear hb); replace k0 := ko2 (.slice da1 a8.length aa1) (.slice za2 b9.length va1) k0; replace q0 := ko1 (.slice va7 ya0.length ka7) q0; replace v0 := ko2 (.slice ma0 z3.length ka0) (.slice za2 b9.length va1) v0; replace a1 := ko2 (.slice ma0 z3.length ka0) (.slice da1 a8.length aa1) a1; replace g1 := ko1 (.slice va5 d9.length oa5) g1; clear j3; clear g3; clear k3; obtain ⟨sc0, qc0, oc0, sb4, qb4, ob4⟩ := bz3 m0) | ((with_reducible refine gate_callee (f := 19) rfl ?_); refine gl (some 184) rfl Try.func19 #[.agg #[.slice da1 a8.length aa1, .slice za2 b9.length va1, .slice va7 ya0.length ka7]] ?_; (with_reducible refine (impl_IsCracker.calls za0 _ _ a8 _ _ b9 _ _ ya0 true _ ?side1 ?side2 ?side3 ?side4 ?side5 ?side6 ke5.out).mono ?_); (case side1 => exact ra v0); (case side2 => exact rb v0); (case side3 => exact ra a1); (case side4 => exact rb a1); (case side5 => exact ra g1); (case side6 => exact rb g1); rintro e ae7 ⟨rfl, hb⟩; refine ⟨_, rfl, ?_⟩; replace k0 := ro k0 hb; replace q0 := ro q0 hb; replace v0 := ro v0 hb; replace a1 := ro a1 hb; replace g1 := ro g1 hb; replace b0 := wb b0 hb; replace g0 := wb g0 hb; replace d0 := wb d0 hb; replace j0 := wb j0 hb; replace o0 := wb o0 hb; replace m0 := wb m0 hb; replace b1 := wb b1 hb; replace HB := wh hb; (try clear hb); obtain ⟨mc0, kc0, jc0, mb4, kb4, jb4⟩ := bz3 m0) | (go_at_call 24; (with_reducible refine (impl_FindRow.calls za0 _ _ a8 _ _ b9 _ _ ya0 ka1 da8 _ ?side1 ?side2 ?side3 ?side4 ?side5 ?side6 je5.out).mono ?_); (case side1 => exact ra v0); (case side2 => exact rb v0); (case side3 => exact ra a1); (case side4 => exact rb a1); (case side5 => exact ra g1); (case side6 => exact rb g1); rintro e ze6 ⟨rfl, hb⟩; replace k0 := ro k0 hb; replace q0 := ro q0 hb; replace v0 := ro v0 hb; replace a1 := ro a1 hb; replace g1 := ro g1 hb; replace b0 := wb b0 hb; replace g0 := wb g0 hb; replace d0 := wb d0 hb; replace j0 := wb j0 hb; replace o0 := wb o0 hb; replace m0 := wb m0 hb; replace b1 := wb b1 hb; replace HB := wh hb; (try clear hb); replace k0 := ko1 (.slice da1 a8.length aa1) k0; replace q0 := ko0 q0; replace v0 := ko1 (.slice ma0 z3.length ka0) v0; clear a1; clear g1; obtain ⟨gc0, dc0, bc0, gb4, db4, bb4⟩ := bz3 m0; replace k0 := ko0 k0; clear v0; obtain ⟨ac0, zb9, yb9, ab4, zb3, yb3⟩ := bz3 o0; clear k0))
        go_ret
        exact ⟨rx, bl⟩
       ·replace bc2 := Bool.eq_false_iff.mpr bc2
        subst bc2
        rw [if_neg nf] at H
        exact absurd H (by simp)
      ·replace dc2 := Bool.eq_false_iff.mpr dc2
       subst dc2
       rw [if_neg nf] at H
       revert H; refine bo ?_; rintro mc2 zd8 H
       by_cases ac2 : mc2 = true
       ·subst ac2
        rw [if_pos rfl] at H
        revert H; refine bo ?_; rintro kc2 yd8 H
        by_cases zc1 : kc2 = true
        ·subst zc1
         rw [if_pos rfl] at H
         revert H; refine bo ?_; rintro jc2 ge5 H
         obtain rfl := Option.some.inj H
         clear z2
         clear v2
         clear d2
         clear s2
         clear q2
         clear o2
         clear m2
         clear k2
         clear j2
         go_wp2_with (first | ((with_reducible refine gate_callee (f := 22) rfl ?_); refine gl (some 136) rfl Try.func22 #[.slice A0 l0.length c0] ?_; (with_reducible refine (spec_DrawRippleDelete.calls za0 _ _ l0 z3 v7 d9 ka1 _ ?side1 ?side2 A94.out).mono ?_); (case side1 => exact cb HR0 HB); (case side2 => exact HC0.out); rintro e ye6 ⟨jd1, gd1, dd1, rfl, ho0, ho1, ho2, hb⟩; refine ⟨_, rfl, ?_⟩; have k0 := lo ho0; have s0 := lo ho1; have q0 := lo ho2; replace b0 := wb b0 hb; replace g0 := wb g0 hb; replace d0 := wb d0 hb; replace j0 := wb j0 hb; replace HB := wh hb; (try clear hb ho0 ho1 ho2)) | ((with_reducible refine gate_dst (N := 15) rfl ?_); (try (refine gate_guard (by rfl) ?_; dsimp only)); refine bx 15 #[.slice none 0 0, .slice none 0 0, .slice none 0 0] 29 ?_; intro ya3 hg ve6 hbox hb; replace k0 := ro k0 hb; replace s0 := ro s0 hb; replace q0 := ro q0 hb; have o0 := mk hbox; have ba9 := wg hg; have ja9 := wg hg; replace HB := wh hb; have o7 := nl b0 hg; have o6 := nr b0 hg; replace b0 := wb b0 hb; have j7 := nl g0 hg; have m6 := nr g0 hg; replace g0 := wb g0 hb; have b7 := nl d0 hg; have k6 := nr d0 hg; replace d0 := wb d0 hb; have v6 := nl j0 hg; have j6 := nr j0 hg; replace j0 := wb j0 hb; clear hb hbox hg; obtain ⟨ya2, sa1, gc8⟩ := Kd.R_slice k0.out; subst gc8; have dd7 := o6.out; have sd3 := o7.out; have bd7 := m6.out; have qd3 := j7.out; have ad7 := k6.out; have od3 := b7.out; have zd6 := j6.out; have md3 := v6.out; obtain ⟨vb9, sb9, qb9, vb3, sb3, qb3⟩ := bz3 o0; obtain ⟨va2, qa1, dc8⟩ := Kd.R_slice s0.out; subst dc8; obtain ⟨aa5, ja4, bc8⟩ := Kd.R_slice q0.out; subst bc8) | ((with_reducible refine gate_callee (f := 9) rfl ?_); refine gl (some 142) rfl Try.func9 #[.agg #[.slice ya2 z3.length sa1, .slice va2 v7.length qa1, .slice aa5 d9.length ja4], .int .i64 ka1] ?_; (with_reducible refine (impl_RippleDelete.calls za0 _ _ z3 _ _ v7 _ _ d9 ka1 a8 b9 ya0 ja8 false _ ?side1 ?side2 ?side3 ?side4 ?side5 ?side6 A95.out).mono ?_); (case side1 => exact rc1 k0 o0); (case side2 => exact rb k0); (case side3 => exact rc1 s0 o0); (case side4 => exact rb s0); (case side5 => exact rc1 q0 o0); (case side6 => exact rb q0); rintro e se6 ⟨bd1, ad1, zd0, rfl, ho0, ho1, ho2, hb⟩; refine ⟨_, rfl, ?_⟩; have v0 := lo (nw1 (nw1 ho0 k0 o0) s0 o0); have a1 := lo (nw1 (nw1 ho1 k0 o0) s0 o0); replace k0 := td2r1 k0 o0 hb ho0 ho1; replace s0 := td2r1 s0 o0 hb ho0 ho1; have g1 := lo (nw1 ho2 q0 o0); replace q0 := el1 q0 o0 ho2 hb; replace b0 := wx b0 hb; replace g0 := wx g0 hb; replace d0 := wx d0 hb; replace j0 := wx j0 hb; replace o0 := wq ya3 #[.slice ya2 z3.length sa1, .slice va2 v7.length qa1, .slice aa5 d9.length ja4] 29 hb; replace HB := wh hb; (try clear hb ho0 ho1 ho2)) | ((with_reducible refine gate_dst (N := 17) rfl ?_); (try (refine gate_guard (by rfl) ?_; dsimp only)); refine bx 17 #[.slice none 0 0, .slice none 0 0, .slice none 0 0] 29 ?_; intro va3 hg qe6 hbox hb; replace k0 := ro k0 hb; replace s0 := ro s0 hb; replace q0 := ro q0 hb; replace v0 := ro v0 hb; replace a1 := ro a1 hb; replace g1 := ro g1 hb; have m0 := mk hbox; have aa9 := wg hg; have ga9 := wg hg; replace HB := wh hb; have m7 := nl b0 hg; have b6 := nr b0 hg; replace b0 := wb b0 hb; have g7 := nl g0 hg; have a6 := nr g0 hg; replace g0 := wb g0 hb; have a7 := nl d0 hg; have z5 := nr d0 hg; replace d0 := wb d0 hb; have s6 := nl j0 hg; have v5 := nr j0 hg; replace j0 := wb j0 hb; have g6 := nl o0 hg; have s5 := nr o0 hg; replace o0 := wb o0 hb; clear hb hbox hg; obtain ⟨za4, ga4, ac8⟩ := Kd.R_slice v0.out; subst ac8; have yd6 := b6.out; have kd3 := m7.out; have vd6 := a6.out; have jd3 := g7.out; have sd6 := z5.out; have gd3 := a7.out; have qd6 := v5.out; have dd3 := s6.out; have od6 := s5.out; have bd3 := g6.out; obtain ⟨ob9, mb9, kb9, ob3, mb3, kb3⟩ := bz3 m0; obtain ⟨ya4, da4, zc7⟩ := Kd.R_slice a1.out; subst zc7; obtain ⟨sa7, ja7, yc7⟩ := Kd.R_slice g1.out; subst yc7; obtain ⟨jb9, gb9, db9, jb3, gb3, db3⟩ := bz3 o0) | ((with_reducible refine gate_callee (f := 7) rfl ?_); refine gl (some 149) rfl Try.func7 #[.agg #[.slice ya2 z3.length sa1, .slice va2 v7.length qa1, .slice aa5 d9.length ja4], .int .i64 ka1] ?_; (with_reducible refine (spec_RippleDelete.calls za0 _ _ z3 _ _ v7 _ _ d9 ka1 ga5 da5 ba5 ga8 ba8 _ ?side1 ?side2 ?side3 ?side4 ?side5 ?side6 A96.out).mono ?_); (case side1 => exact rc1 k0 m0); (case side2 => exact rb k0); (case side3 => exact rc1 s0 m0); (case side4 => exact rb s0); (case side5 => exact rc1 q0 m0); (case side6 => exact rb q0); rintro e oe6 ⟨aa8, za7, yd0, rfl, ho0, ho1, ho2, hb⟩; refine ⟨_, rfl, ?_⟩; have j3 := lo (nw1 (nw1 (nw1 (nw1 ho0 k0 m0) s0 m0) v0 m0) a1 m0); have g3 := lo (nw1 (nw1 (nw1 (nw1 ho1 k0 m0) s0 m0) v0 m0) a1 m0); replace k0 := td2r1 k0 m0 hb ho0 ho1; replace s0 := td2r1 s0 m0 hb ho0 ho1; replace v0 := td2r1 v0 m0 hb ho0 ho1; replace a1 := td2r1 a1 m0 hb ho0 ho1; have k3 := lo (nw1 (nw1 ho2 q0 m0) g1 m0); replace q0 := el1 q0 m0 ho2 hb; replace g1 := el1 g1 m0 ho2 hb; replace b0 := wx b0 hb; replace g0 := wx g0 hb; replace d0 := wx d0 hb; replace j0 := wx j0 hb; replace o0 := wx o0 hb; replace m0 := wq va3 #[.slice za4 a8.length ga4, .slice ya4 b9.length da4, .slice sa7 ya0.length ja7] 29 hb; replace HB := wh hb; (try clear hb ho0 ho1 ho2)) | ((with_reducible refine gate_dst (N := 20) rfl ?_); (try (refine gate_guard (by rfl) ?_; dsimp only)); refine bx 20 #[.slice none 0 0, .slice none 0 0, .slice none 0 0] 29 ?_; intro sa3 hg me6 hbox hb; replace k0 := ro k0 hb; replace s0 := ro s0 hb; replace q0 := ro q0 hb; replace v0 := ro v0 hb; replace a1 := ro a1 hb; replace g1 := ro g1 hb; replace j3 := ro j3 hb; replace g3 := ro g3 hb; replace k3 := ro k3 hb; have b1 := mk hbox; have za8 := wg hg; have da9 := wg hg; replace HB := wh hb; have k7 := nl b0 hg; have o5 := nr b0 hg; replace b0 := wb b0 hb; have d7 := nl g0 hg; have m5 := nr g0 hg; replace g0 := wb g0 hb; have z6 := nl d0 hg; have k5 := nr d0 hg; replace d0 := wb d0 hb; have q6 := nl j0 hg; have j5 := nr j0 hg; replace j0 := wb j0 hb; have d6 := nl o0 hg; have g5 := nr o0 hg; replace o0 := wb o0 hb; have q5 := nl m0 hg; have d5 := nr m0 hg; replace m0 := wb m0 hb; clear hb hbox hg; obtain ⟨od0, kc9, vc7⟩ := Kd.R_slice j3.out; subst vc7; have md6 := o5.out; have ad3 := k7.out; have kd6 := m5.out; have zd2 := d7.out; have jd6 := k5.out; have yd2 := z6.out; have gd6 := j5.out; have vd2 := q6.out; have dd6 := g5.out; have sd2 := d6.out; have bd6 := d5.out; have qd2 := q5.out; obtain ⟨bb9, ab9, zb8, bb3, ab3, zb2⟩ := bz3 b1; obtain ⟨md0, jc9, sc7⟩ := Kd.R_slice g3.out; subst sc7; obtain ⟨kd0, gc9, qc7⟩ := Kd.R_slice k3.out; subst qc7; obtain ⟨yb8, vb8, sb8, yb2, vb2, sb2⟩ := bz3 m0) | (go_at_call 18; (with_reducible refine (spec_EqualCrackers.calls za0 _ _ a8 _ _ b9 _ _ ya0 _ _ ga5 _ _ da5 _ _ ba5 true _ ?side1 ?side2 ?side3 ?side4 ?side5 ?side6 ?side7 ?side8 ?side9 ?side10 ?side11 ?side12 A99.out).mono ?_); (case side1 => exact rc1 v0 b1); (case side2 => exact rb v0); (case side3 => exact rc1 a1 b1); (case side4 => exact rb a1); (case side5 => exact rc1 g1 b1); (case side6 => exact rb g1); (case side7 => exact rc1 j3 b1); (case side8 => exact rb j3); (case side9 => exact rc1 g3 b1); (case side10 => exact rb g3); (case side11 => exact rc1 k3 b1); (case side12 => exact rb k3); rintro e ke6 ⟨rfl, hb⟩; replace k0 := ro1 k0 b1 hb; replace s0 := ro1 s0 b1 hb; replace q0 := ro1 q0 b1 hb; replace v0 := ro1 v0 b1 hb; replace a1 := ro1 a1 b1 hb; replace g1 := ro1 g1 b1 hb; replace j3 := ro1 j3 b1 hb; replace g3 := ro1 g3 b1 hb; replace k3 := ro1 k3 b1 hb; replace b0 := wx b0 hb; replace g0 := wx g0 hb; replace d0 := wx d0 hb; replace j0 := wx j0 hb; replace o0 := wx o0 hb; replace m0 := wx m0 hb; replace b1 := wq sa3 #[.slice od0 ga5.length kc9, .slice md0 da5.length jc9, .slice kd0 ba5.length gc9] 29 hb; replace HB := wh hb; (try clear hb); replace k0 := ko3 (.slice va2 v7.length qa1) (.slice za4 a8.length ga4) (.slice ya4 b9.length da4) k0; replace s0 := ko3 (.slice ya2 z3.length sa1) (.slice za4 a8.length ga4) (.slice ya4 b9.length da4) s0; replace q0 := ko1 (.slice sa7 ya0.length ja7) q0; replace v0 := ko3 (.slice ya2 z3.length sa1) (.slice va2 v7.length qa1) (.slice ya4 b9.length da4) v0; replace a1 := ko3 (.slice ya2 z3.length sa1) (.slice va2 v7.length qa1) (.slice za4 a8.length ga4) a1; replace g1 := ko1 (.slice aa5 d9.length ja4) g1; clear j3; clear g3; clear k3; obtain ⟨qb8, ob8, mb8, qb2, ob2, mb2⟩ := bz3 m0; obtain ⟨kb8, jb8, gb8, kb2, jb2, gb2⟩ := bz3 o0) | ((with_reducible refine gate_callee (f := 18) rfl ?_); refine gl (some 171) rfl Try.func18 #[.agg #[.slice za4 a8.length ga4, .slice ya4 b9.length da4, .slice sa7 ya0.length ja7], .agg #[.slice ya2 z3.length sa1, .slice va2 v7.length qa1, .slice aa5 d9.length ja4]] ?_; (with_reducible refine (spec_EqualCrackers.calls za0 _ _ a8 _ _ b9 _ _ ya0 _ _ z3 _ _ v7 _ _ d9 true _ ?side1 ?side2 ?side3 ?side4 ?side5 ?side6 ?side7 ?side8 ?side9 ?side10 ?side11 ?side12 zd8.out).mono ?_); (case side1 => exact ra v0); (case side2 => exact rb v0); (case side3 => exact ra a1); (case side4 => exact rb a1); (case side5 => exact ra g1); (case side6 => exact rb g1); (case side7 => exact ra k0); (case side8 => exact rb k0); (case side9 => exact ra s0); (case side10 => exact rb s0); (case side11 => exact ra q0); (case side12 => exact rb q0); rintro e je6 ⟨rfl, hb⟩; refine ⟨_, rfl, ?_⟩; replace k0 := ro k0 hb; replace s0 := ro s0 hb; replace q0 := ro q0 hb; replace v0 := ro v0 hb; replace a1 := ro a1 hb; replace g1 := ro g1 hb; replace b0 := wb b0 hb; replace g0 := wb g0 hb; replace d0 := wb d0 hb; replace j0 := wb j0 hb; replace o0 := wb o0 hb; replace m0 := wb m0 hb; replace b1 := wb b1 hb; replace HB := wh hb; (try clear hb); replace k0 := ko1 (.slice va2 v7.length qa1) k0; replace s0 := ko1 (.slice ya2 z3.length sa1) s0; replace q0 := ko0 q0; clear v0; clear a1; clear g1; obtain ⟨db8, bb8, ab8, db2, bb2, ab2⟩ := bz3 o0) | (go_at_call 23; (with_reducible refine (spec_IsCracker.calls za0 _ _ z3 _ _ v7 _ _ d9 true _ ?side1 ?side2 ?side3 ?side4 ?side5 ?side6 yd8.out).mono ?_); (case side1 => exact ra k0); (case side2 => exact rb k0); (case side3 => exact ra s0); (case side4 => exact rb s0); (case side5 => exact ra q0); (case side6 => exact rb q0); rintro e ge6 ⟨rfl, hb⟩; replace k0 := ro k0 hb; replace s0 := ro s0 hb; replace q0 := ro q0 hb; replace b0 := wb b0 hb; replace g0 := wb g0 hb; replace d0 := wb d0 hb; replace j0 := wb j0 hb; replace o0 := wb o0 hb; replace m0 := wb m0 hb; replace b1 := wb b1 hb; replace HB := wh hb; (try clear hb); obtain ⟨zb7, yb7, vb7, zb1, yb1, vb1⟩ := bz3 o0) | (go_at_call 24; (with_reducible refine (impl_FindRow.calls za0 _ _ z3 _ _ v7 _ _ d9 ka1 jc2 _ ?side1 ?side2 ?side3 ?side4 ?side5 ?side6 ge5.out).mono ?_); (case side1 => exact ra k0); (case side2 => exact rb k0); (case side3 => exact ra s0); (case side4 => exact rb s0); (case side5 => exact ra q0); (case side6 => exact rb q0); rintro e de6 ⟨rfl, hb⟩; replace k0 := ro k0 hb; replace s0 := ro s0 hb; replace q0 := ro q0 hb; replace b0 := wb b0 hb; replace g0 := wb g0 hb; replace d0 := wb d0 hb; replace j0 := wb j0 hb; replace o0 := wb o0 hb; replace m0 := wb m0 hb; replace b1 := wb b1 hb; replace HB := wh hb; (try clear hb)))
         go_ret
         exact ⟨rx, bl⟩
        ·replace zc1 := Bool.eq_false_iff.mpr zc1
         subst zc1
         rw [if_neg nf] at H
         obtain rfl := Option.some.inj H
         clear z2
         clear v2
         clear d2
         clear s2
         clear q2
         clear o2
         clear m2
         clear k2
         clear j2
         go_wp2_with (first | ((with_reducible refine gate_callee (f := 22) rfl ?_); refine gl (some 136) rfl Try.func22 #[.slice A0 l0.length c0] ?_; (with_reducible refine (spec_DrawRippleDelete.calls za0 _ _ l0 z3 v7 d9 ka1 _ ?side1 ?side2 A94.out).mono ?_); (case side1 => exact cb HR0 HB); (case side2 => exact HC0.out); rintro e be6 ⟨jd1, gd1, dd1, rfl, ho0, ho1, ho2, hb⟩; refine ⟨_, rfl, ?_⟩; have k0 := lo ho0; have s0 := lo ho1; have q0 := lo ho2; replace b0 := wb b0 hb; replace g0 := wb g0 hb; replace d0 := wb d0 hb; replace j0 := wb j0 hb; replace HB := wh hb; (try clear hb ho0 ho1 ho2)) | ((with_reducible refine gate_dst (N := 15) rfl ?_); (try (refine gate_guard (by rfl) ?_; dsimp only)); refine bx 15 #[.slice none 0 0, .slice none 0 0, .slice none 0 0] 29 ?_; intro ya3 hg ae6 hbox hb; replace k0 := ro k0 hb; replace s0 := ro s0 hb; replace q0 := ro q0 hb; have o0 := mk hbox; have ba9 := wg hg; have ja9 := wg hg; replace HB := wh hb; have o7 := nl b0 hg; have o6 := nr b0 hg; replace b0 := wb b0 hb; have j7 := nl g0 hg; have m6 := nr g0 hg; replace g0 := wb g0 hb; have b7 := nl d0 hg; have k6 := nr d0 hg; replace d0 := wb d0 hb; have v6 := nl j0 hg; have j6 := nr j0 hg; replace j0 := wb j0 hb; clear hb hbox hg; obtain ⟨sa2, oa1, oc7⟩ := Kd.R_slice k0.out; subst oc7; have ad6 := o6.out; have od2 := o7.out; have zd5 := m6.out; have md2 := j7.out; have yd5 := k6.out; have kd2 := b7.out; have vd5 := j6.out; have jd2 := v6.out; obtain ⟨sb7, qb7, ob7, sb1, qb1, ob1⟩ := bz3 o0; obtain ⟨qa2, ma1, mc7⟩ := Kd.R_slice s0.out; subst mc7; obtain ⟨va4, ba4, kc7⟩ := Kd.R_slice q0.out; subst kc7) | ((with_reducible refine gate_callee (f := 9) rfl ?_); refine gl (some 142) rfl Try.func9 #[.agg #[.slice sa2 z3.length oa1, .slice qa2 v7.length ma1, .slice va4 d9.length ba4], .int .i64 ka1] ?_; (with_reducible refine (impl_RippleDelete.calls za0 _ _ z3 _ _ v7 _ _ d9 ka1 a8 b9 ya0 ja8 false _ ?side1 ?side2 ?side3 ?side4 ?side5 ?side6 A95.out).mono ?_); (case side1 => exact rc1 k0 o0); (case side2 => exact rb k0); (case side3 => exact rc1 s0 o0); (case side4 => exact rb s0); (case side5 => exact rc1 q0 o0); (case side6 => exact rb q0); rintro e ze5 ⟨bd1, ad1, zd0, rfl, ho0, ho1, ho2, hb⟩; refine ⟨_, rfl, ?_⟩; have v0 := lo (nw1 (nw1 ho0 k0 o0) s0 o0); have a1 := lo (nw1 (nw1 ho1 k0 o0) s0 o0); replace k0 := td2r1 k0 o0 hb ho0 ho1; replace s0 := td2r1 s0 o0 hb ho0 ho1; have g1 := lo (nw1 ho2 q0 o0); replace q0 := el1 q0 o0 ho2 hb; replace b0 := wx b0 hb; replace g0 := wx g0 hb; replace d0 := wx d0 hb; replace j0 := wx j0 hb; replace o0 := wq ya3 #[.slice sa2 z3.length oa1, .slice qa2 v7.length ma1, .slice va4 d9.length ba4] 29 hb; replace HB := wh hb; (try clear hb ho0 ho1 ho2)) | ((with_reducible refine gate_dst (N := 17) rfl ?_); (try (refine gate_guard (by rfl) ?_; dsimp only)); refine bx 17 #[.slice none 0 0, .slice none 0 0, .slice none 0 0] 29 ?_; intro va3 hg ye5 hbox hb; replace k0 := ro k0 hb; replace s0 := ro s0 hb; replace q0 := ro q0 hb; replace v0 := ro v0 hb; replace a1 := ro a1 hb; replace g1 := ro g1 hb; have m0 := mk hbox; have aa9 := wg hg; have ga9 := wg hg; replace HB := wh hb; have m7 := nl b0 hg; have b6 := nr b0 hg; replace b0 := wb b0 hb; have g7 := nl g0 hg; have a6 := nr g0 hg; replace g0 := wb g0 hb; have a7 := nl d0 hg; have z5 := nr d0 hg; replace d0 := wb d0 hb; have s6 := nl j0 hg; have v5 := nr j0 hg; replace j0 := wb j0 hb; have g6 := nl o0 hg; have s5 := nr o0 hg; replace o0 := wb o0 hb; clear hb hbox hg; obtain ⟨sa4, aa4, jc7⟩ := Kd.R_slice v0.out; subst jc7; have sd5 := b6.out; have gd2 := m7.out; have qd5 := a6.out; have dd2 := g7.out; have od5 := z5.out; have bd2 := a7.out; have md5 := v5.out; have ad2 := s6.out; have kd5 := s5.out; have zd1 := g6.out; obtain ⟨mb7, kb7, jb7, mb1, kb1, jb1⟩ := bz3 m0; obtain ⟨qa4, za3, gc7⟩ := Kd.R_slice a1.out; subst gc7; obtain ⟨qa7, ga7, dc7⟩ := Kd.R_slice g1.out; subst dc7; obtain ⟨gb7, db7, bb7, gb1, db1, bb1⟩ := bz3 o0) | ((with_reducible refine gate_callee (f := 7) rfl ?_); refine gl (some 149) rfl Try.func7 #[.agg #[.slice sa2 z3.length oa1, .slice qa2 v7.length ma1, .slice va4 d9.length ba4], .int .i64 ka1] ?_; (with_reducible refine (spec_RippleDelete.calls za0 _ _ z3 _ _ v7 _ _ d9 ka1 ga5 da5 ba5 ga8 ba8 _ ?side1 ?side2 ?side3 ?side4 ?side5 ?side6 A96.out).mono ?_); (case side1 => exact rc1 k0 m0); (case side2 => exact rb k0); (case side3 => exact rc1 s0 m0); (case side4 => exact rb s0); (case side5 => exact rc1 q0 m0); (case side6 => exact rb q0); rintro e ve5 ⟨aa8, za7, yd0, rfl, ho0, ho1, ho2, hb⟩; refine ⟨_, rfl, ?_⟩; have j3 := lo (nw1 (nw1 (nw1 (nw1 ho0 k0 m0) s0 m0) v0 m0) a1 m0); have g3 := lo (nw1 (nw1 (nw1 (nw1 ho1 k0 m0) s0 m0) v0 m0) a1 m0); replace k0 := td2r1 k0 m0 hb ho0 ho1; replace s0 := td2r1 s0 m0 hb ho0 ho1; replace v0 := td2r1 v0 m0 hb ho0 ho1; replace a1 := td2r1 a1 m0 hb ho0 ho1; have k3 := lo (nw1 (nw1 ho2 q0 m0) g1 m0); replace q0 := el1 q0 m0 ho2 hb; replace g1 := el1 g1 m0 ho2 hb; replace b0 := wx b0 hb; replace g0 := wx g0 hb; replace d0 := wx d0 hb; replace j0 := wx j0 hb; replace o0 := wx o0 hb; replace m0 := wq va3 #[.slice sa4 a8.length aa4, .slice qa4 b9.length za3, .slice qa7 ya0.length ga7] 29 hb; replace HB := wh hb; (try clear hb ho0 ho1 ho2)) | ((with_reducible refine gate_dst (N := 20) rfl ?_); (try (refine gate_guard (by rfl) ?_; dsimp only)); refine bx 20 #[.slice none 0 0, .slice none 0 0, .slice none 0 0] 29 ?_; intro sa3 hg se5 hbox hb; replace k0 := ro k0 hb; replace s0 := ro s0 hb; replace q0 := ro q0 hb; replace v0 := ro v0 hb; replace a1 := ro a1 hb; replace g1 := ro g1 hb; replace j3 := ro j3 hb; replace g3 := ro g3 hb; replace k3 := ro k3 hb; have b1 := mk hbox; have za8 := wg hg; have da9 := wg hg; replace HB := wh hb; have k7 := nl b0 hg; have o5 := nr b0 hg; replace b0 := wb b0 hb; have d7 := nl g0 hg; have m5 := nr g0 hg; replace g0 := wb g0 hb; have z6 := nl d0 hg; have k5 := nr d0 hg; replace d0 := wb d0 hb; have q6 := nl j0 hg; have j5 := nr j0 hg; replace j0 := wb j0 hb; have d6 := nl o0 hg; have g5 := nr o0 hg; replace o0 := wb o0 hb; have q5 := nl m0 hg; have d5 := nr m0 hg; replace m0 := wb m0 hb; clear hb hbox hg; obtain ⟨jd0, dc9, bc7⟩ := Kd.R_slice j3.out; subst bc7; have jd5 := o5.out; have yd1 := k7.out; have gd5 := m5.out; have vd1 := d7.out; have dd5 := k5.out; have sd1 := z6.out; have bd5 := j5.out; have qd1 := q6.out; have ad5 := g5.out; have od1 := d6.out; have zd4 := d5.out; have md1 := q5.out; obtain ⟨ab7, zb6, yb6, ab1, zb0, yb0⟩ := bz3 b1; obtain ⟨gd0, bc9, ac7⟩ := Kd.R_slice g3.out; subst ac7; obtain ⟨dd0, ac9, zc6⟩ := Kd.R_slice k3.out; subst zc6; obtain ⟨vb6, sb6, qb6, vb0, sb0, qb0⟩ := bz3 m0) | (go_at_call 18; (with_reducible refine (spec_EqualCrackers.calls za0 _ _ a8 _ _ b9 _ _ ya0 _ _ ga5 _ _ da5 _ _ ba5 true _ ?side1 ?side2 ?side3 ?side4 ?side5 ?side6 ?side7 ?side8 ?side9 ?side10 ?side11 ?side12 A99.out).mono ?_); (case side1 => exact rc1 v0 b1); (case side2 => exact rb v0); (case side3 => exact rc1 a1 b1); (case side4 => exact rb a1); (case side5 => exact rc1 g1 b1); (case side6 => exact rb g1); (case side7 => exact rc1 j3 b1); (case side8 => exact rb j3); (case side9 => exact rc1 g3 b1); (case side10 => exact rb g3); (case side11 => exact rc1 k3 b1); (case side12 => exact rb k3); rintro e qe5 ⟨rfl, hb⟩; replace k0 := ro1 k0 b1 hb; replace s0 := ro1 s0 b1 hb; replace q0 := ro1 q0 b1 hb; replace v0 := ro1 v0 b1 hb; replace a1 := ro1 a1 b1 hb; replace g1 := ro1 g1 b1 hb; replace j3 := ro1 j3 b1 hb; replace g3 := ro1 g3 b1 hb; replace k3 := ro1 k3 b1 hb; replace b0 := wx b0 hb; replace g0 := wx g0 hb; replace d0 := wx d0 hb; replace j0 := wx j0 hb; replace o0 := wx o0 hb; replace m0 := wx m0 hb; replace b1 := wq sa3 #[.slice jd0 ga5.length dc9, .slice gd0 da5.length bc9, .slice dd0 ba5.length ac9] 29 hb; replace HB := wh hb; (try clear hb); replace k0 := ko3 (.slice qa2 v7.length ma1) (.slice sa4 a8.length aa4) (.slice qa4 b9.length za3) k0; replace s0 := ko3 (.slice sa2 z3.length oa1) (.slice sa4 a8.length aa4) (.slice qa4 b9.length za3) s0; replace q0 := ko1 (.slice qa7 ya0.length ga7) q0; replace v0 := ko3 (.slice sa2 z3.length oa1) (.slice qa2 v7.length ma1) (.slice qa4 b9.length za3) v0; replace a1 := ko3 (.slice sa2 z3.length oa1) (.slice qa2 v7.length ma1) (.slice sa4 a8.length aa4) a1; replace g1 := ko1 (.slice va4 d9.length ba4) g1; clear j3; clear g3; clear k3; obtain ⟨ob6, mb6, kb6, ob0, mb0, kb0⟩ := bz3 m0; obtain ⟨jb6, gb6, db6, jb0, gb0, db0⟩ := bz3 o0) | ((with_reducible refine gate_callee (f := 18) rfl ?_); refine gl (some 171) rfl Try.func18 #[.agg #[.slice sa4 a8.length aa4, .slice qa4 b9.length za3, .slice qa7 ya0.length ga7], .agg #[.slice sa2 z3.length oa1, .slice qa2 v7.length ma1, .slice va4 d9.length ba4]] ?_; (with_reducible refine (spec_EqualCrackers.calls za0 _ _ a8 _ _ b9 _ _ ya0 _ _ z3 _ _ v7 _ _ d9 true _ ?side1 ?side2 ?side3 ?side4 ?side5 ?side6 ?side7 ?side8 ?side9 ?side10 ?side11 ?side12 zd8.out).mono ?_); (case side1 => exact ra v0); (case side2 => exact rb v0); (case side3 => exact ra a1); (case side4 => exact rb a1); (case side5 => exact ra g1); (case side6 => exact rb g1); (case side7 => exact ra k0); (case side8 => exact rb k0); (case side9 => exact ra s0); (case side10 => exact rb s0); (case side11 => exact ra q0); (case side12 => exact rb q0); rintro e oe5 ⟨rfl, hb⟩; refine ⟨_, rfl, ?_⟩; replace k0 := ro k0 hb; replace s0 := ro s0 hb; replace q0 := ro q0 hb; replace v0 := ro v0 hb; replace a1 := ro a1 hb; replace g1 := ro g1 hb; replace b0 := wb b0 hb; replace g0 := wb g0 hb; replace d0 := wb d0 hb; replace j0 := wb j0 hb; replace o0 := wb o0 hb; replace m0 := wb m0 hb; replace b1 := wb b1 hb; replace HB := wh hb; (try clear hb); replace k0 := ko1 (.slice qa2 v7.length ma1) k0; replace s0 := ko1 (.slice sa2 z3.length oa1) s0; replace q0 := ko0 q0; clear v0; clear a1; clear g1; obtain ⟨bb6, ab6, zb5, bb0, ab0, za9⟩ := bz3 o0) | (go_at_call 23; (with_reducible refine (spec_IsCracker.calls za0 _ _ z3 _ _ v7 _ _ d9 false _ ?side1 ?side2 ?side3 ?side4 ?side5 ?side6 yd8.out).mono ?_); (case side1 => exact ra k0); (case side2 => exact rb k0); (case side3 => exact ra s0); (case side4 => exact rb s0); (case side5 => exact ra q0); (case side6 => exact rb q0); rintro e me5 ⟨rfl, hb⟩; replace k0 := ro k0 hb; replace s0 := ro s0 hb; replace q0 := ro q0 hb; replace b0 := wb b0 hb; replace g0 := wb g0 hb; replace d0 := wb d0 hb; replace j0 := wb j0 hb; replace o0 := wb o0 hb; replace m0 := wb m0 hb; replace b1 := wb b1 hb; replace HB := wh hb; (try clear hb)))
         go_ret
         exact ⟨rx, bl⟩
       ·replace ac2 := Bool.eq_false_iff.mpr ac2
        subst ac2
        rw [if_neg nf] at H
        exact absurd H (by simp)
     ·replace gc2 := Bool.eq_false_iff.mpr gc2
      subst gc2
      rw [if_neg nf] at H
      exact absurd H (by simp)
  ·replace c10 := Bool.eq_false_iff.mpr c10
   subst c10
   rw [if_neg nf] at H
   exact absurd H (by simp)

/-- THE ONE PURE STATEMENT of laws_FnRipples: yours. -/
def laws_FnRipples.Pure : Prop := ∀ (l0 : List Int), l0.length ≤ maxLen → l0.length * 1 ≤ 140737488351232 → (∀ x ∈ l0, (Lit.int .u8 x).wf = true) → ∃ k, laws_FnRipples.f k l0 = some true
theorem laws_FnRipples.walk (P : laws_FnRipples.Pure) (a0 : Option Addr) (len0 cap0 : Nat) (z0 : List Int) (w : World) (w0 : (a0 = none ∧ len0 = 0 ∧ cap0 = 0 ∧ z0 = []) ∨ ∃ x, a0 = some x ∧ len0 ≤ cap0 ∧ cap0 ≤ maxLen ∧ z0.length = cap0 ∧ (∀ i, i < z0.length → w.cell? (x.add i) = some (.int .u8 (z0.getD i 0))) ∧ ∀ n ∈ z0, (Lit.int .u8 n).wf = true) (y0 : len0 * 1 ≤ 140737488351232) :
  Calls Try.prog 5 #[.slice a0 len0 cap0] w fun e w' => e = .returned (.bool true) ∧ Below w.heap.size w w' := by
 obtain ⟨l0, rfl, hr0, hm0, hw0, hc0⟩ := ReadsInt.ofRowC w0
 obtain ⟨k, h⟩ := P l0 hm0 y0 hw0
 refine (laws_FnRipples.calls k _ _ l0 true w (Kd.C_of_reads (d := (0 : Int)) (h1 := fun _ => rfl) hr0) hc0 ⟨rfl⟩ h).mono ?_
 rintro e w' ⟨rfl, hd⟩
 exact ⟨rfl, hd⟩

end Go.Proofs.Ytlikcmonejefoab.PFnRipples
