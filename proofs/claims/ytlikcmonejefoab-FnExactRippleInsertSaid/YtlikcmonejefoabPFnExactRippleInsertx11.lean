-- printed by a program of this session, a turned copy of the print of the kit
import Derived.Test.YtlikcmonejefoabSq
import Derived.Test.YtlikcmonejefoabPFnExactRippleInsertx0
import Derived.Test.YtlikcmonejefoabPFnExactRippleInsertx9
import Derived.Test.YtlikcmonejefoabPFnExactRippleInsertx10
namespace Go.Proofs.Ytlikcmonejefoab.PFnExactRippleInsert
open Go.RowKit Go.Proofs.YtlikcmonejefoabW.PrintWords Go.Proofs.YtlikcmonejefoabW.PrintLast Go.Proofs.YtlikcmonejefoabW.PrintMore Go.Proofs.Ytlikcmonejefoab.Sq
attribute [local go_sem] max2_int min2_int max_two min_two max_three min_three max_four min_four Giv.cell_twice   -- for this text's walks alone
set_option linter.unusedVariables false
set_option linter.unusedSimpArgs false

/-! ### impl_RippleInsert: function 15 -/
mutual
def impl_RippleInsert.j0 : Nat → Bool → List Int → List Int → List (S50) → Int → Int → List Int → List Int → List (S50) → Option (List Int × List Int × (List (S50)) × Int × Bool)
 | 0, _, _, _, _, _, _, _, _, _ => none
 | k + 1, x34, x280000, x280001, x280002, x281000, x281001, x292000, x292001, x292002 => if x34 = true then (some (x292000, x292001, x292002, 0, false)) else ((some (([x281000] : List Int) : List Int)).bind fun y295 => (if x292000.length + y295.length < 17592186044416 then ((some (([x281001] : List Int) : List Int)).bind fun y301 => (if x292001.length + y301.length < 17592186044416 then (impl_RippleInsert.l0 k (x280000.length : Int) 0 (wrap64 ((x292002.length : Int) - 1)) x281000 x281001 (x292000 ++ y295) (x292001 ++ y301) x292002) else (none))) else (none)))
def impl_RippleInsert.l0 : Nat → Int → Int → Int → Int → Int → List Int → List Int → List (S50) → Option (List Int × List Int × (List (S50)) × Int × Bool)
 | 0, _, _, _, _, _, _, _, _ => none
 | k + 1, x8, x9, x10, x281000, x281001, x292000, x292001, x292002 => if x10 ≥ 0 then (if 0 ≤ x10 then (if x10 < (x292002.length : Int) then (if ((rd_T50 x292002 x10).f0) > x281000 then (if 0 ≤ ((rd_T50 x292002 x10).f1) then (if ((rd_T50 x292002 x10).f1) < (x292000.length : Int) then (if 0 ≤ x8 then (if x8 < (x292000.length : Int) then (if ((rd_T50 x292002 x10).f1) < (x292001.length : Int) then (if x8 < (x292001.length : Int) then ((impl_Cracker_put.f x8 ((rd_T50 x292002 x10).f1)).bind fun t313 => (impl_RippleInsert.l0 k ((rd_T50 x292002 x10).f1) (wrap64 (x9 + t313)) (wrap64 (x10 - 1)) x281000 x281001 (x292000.set (x8 : Int).toNat (rd x292000 ((rd_T50 x292002 x10).f1))) (x292001.set (x8 : Int).toNat (rd x292001 ((rd_T50 x292002 x10).f1))) (x292002.set (x10 : Int).toNat (⟨(rd_T50 x292002 x10).f0, wrap64 (((rd_T50 x292002 x10).f1) + 1)⟩ : S50)))) else (none)) else (none)) else (none)) else (none)) else (none)) else (none)) else (if 0 ≤ x8 then (if x8 < (x292000.length : Int) then (if x8 < (x292001.length : Int) then (some ((x292000.set (x8 : Int).toNat x281000), (x292001.set (x8 : Int).toNat x281001), x292002, x9, true)) else (none)) else (none)) else (none))) else (none)) else (none)) else (if 0 ≤ x8 then (if x8 < (x292000.length : Int) then (if x8 < (x292001.length : Int) then (some ((x292000.set (x8 : Int).toNat x281000), (x292001.set (x8 : Int).toNat x281001), x292002, x9, true)) else (none)) else (none)) else (none))
end
def impl_RippleInsert.f (k : Nat) (l0_0 : List Int) (l0_1 : List Int) (l0_2 : List (S50)) (a1_0 : Int) (a1_1 : Int) : Option (List Int × List Int × (List (S50)) × Int × Bool) := (impl_copyCracker.f l0_0 l0_1 l0_2).bind fun bt282 => ((impl_IsCracker.f k l0_0 l0_1 l0_2).bind fun t292 => (if t292 = true then ((impl_IsItem.f a1_0 a1_1).bind fun t293 => (if t293 = true then ((impl_FindRow.f k l0_0 l0_1 l0_2 a1_1).bind fun t294 => (if t294 ≥ 0 then (impl_RippleInsert.j0 k true l0_0 l0_1 l0_2 a1_0 a1_1 bt282.1 bt282.2.1 bt282.2.2) else (impl_RippleInsert.j0 k (decide ((l0_0.length : Int) ≥ 64)) l0_0 l0_1 l0_2 a1_0 a1_1 bt282.1 bt282.2.1 bt282.2.2))) else (impl_RippleInsert.j0 k true l0_0 l0_1 l0_2 a1_0 a1_1 bt282.1 bt282.2.1 bt282.2.2))) else (impl_RippleInsert.j0 k true l0_0 l0_1 l0_2 a1_0 a1_1 bt282.1 bt282.2.1 bt282.2.2)))
theorem impl_RippleInsert.mono_l : ∀ k, (∀ y0 y1 y2 y3 y4 y5 y6 y7 y8, LeO (impl_RippleInsert.j0 k y0 y1 y2 y3 y4 y5 y6 y7 y8) (impl_RippleInsert.j0 (k + 1) y0 y1 y2 y3 y4 y5 y6 y7 y8)) ∧ (∀ y0 y1 y2 y3 y4 y5 y6 y7, LeO (impl_RippleInsert.l0 k y0 y1 y2 y3 y4 y5 y6 y7) (impl_RippleInsert.l0 (k + 1) y0 y1 y2 y3 y4 y5 y6 y7))
 | 0 => ⟨fun _ _ _ _ _ _ _ _ _ r h => by simp [impl_RippleInsert.j0] at h, fun _ _ _ _ _ _ _ _ r h => by simp [impl_RippleInsert.l0] at h⟩
 | k + 1 => by
  obtain ⟨ih0, ih1⟩ := impl_RippleInsert.mono_l k
  refine ⟨?_, ?_⟩
  ·intro y0 y1 y2 y3 y4 y5 y6 y7 y8
   unfold impl_RippleInsert.j0
   exact mo
  ·intro y0 y1 y2 y3 y4 y5 y6 y7
   unfold impl_RippleInsert.l0
   exact mo
theorem impl_RippleInsert.mono : ∀ a0 a1 a2 a3 a4 k, LeO (impl_RippleInsert.f k a0 a1 a2 a3 a4) (impl_RippleInsert.f (k + 1) a0 a1 a2 a3 a4) := by
 intro a0 a1 a2 a3 a4 k
 obtain ⟨ih0, ih1⟩ := impl_RippleInsert.mono_l k
 unfold impl_RippleInsert.f
 exact mo
instance impl_RippleInsert.mi (a0 a1 a2 a3 a4 k) : LeC (impl_RippleInsert.f k a0 a1 a2 a3 a4) (impl_RippleInsert.f (k + 1) a0 a1 a2 a3 a4) := ⟨impl_RippleInsert.mono a0 a1 a2 a3 a4 k⟩
def impl_RippleInsert.T5 : Bool × List (List Nat × List Nat) := (true, [([], []), ([0], [0]), ([], []), ([2], [2]), ([3], [3]), ([1, 4], [1, 4]), ([], []), ([6], [6]), ([], []), ([8], [8]), ([9], [9]), ([7, 10, 5], [7, 10]), ([0, 1, 2, 3, 4, 5, 7, 11], []), ([12, 5, 11, 0, 1, 2, 3, 4, 5, 7, 11], [5, 12]), ([0, 1, 2, 3, 4, 5, 6, 7, 8, 9, 10, 11, 12, 13], []), ([14, 11, 13, 0, 1, 2, 3, 4, 5, 6, 7, 8, 9, 10, 11, 12, 13], [11, 14])])
def impl_RippleInsert.B5 : List Nat := [0, 1, 0, 4, 12, 31, 0, 64, 0, 256, 768, 2047, 4095, 8191, 16383, 32767]
theorem impl_RippleInsert.tab5 : rtab .any (opsOf Try.f15 5) = impl_RippleInsert.T5 := by kernel_rfl
theorem impl_RippleInsert.bits5 : waitsOk impl_RippleInsert.T5.2 impl_RippleInsert.B5 = true := by kernel_rfl
def impl_RippleInsert.T7 : Bool × List (List Nat × List Nat) := (true, [([], []), ([0], [0]), ([1], [1]), ([2], [2]), ([3, 2], [2, 3]), ([2], [2]), ([4, 5, 2], [2, 4, 5]), ([6, 2], [2, 6]), ([7, 2], [2, 7]), ([2], [2]), ([9, 2], [2, 9]), ([8, 10, 2], [2, 8, 10]), ([2, 11], [2, 11])])
def impl_RippleInsert.B7 : List Nat := [0, 1, 3, 7, 15, 7, 63, 127, 255, 7, 519, 2047, 4095]
theorem impl_RippleInsert.tab7 : rtab .any (opsOf Try.f15 7) = impl_RippleInsert.T7 := by kernel_rfl
theorem impl_RippleInsert.bits7 : waitsOk impl_RippleInsert.T7.2 impl_RippleInsert.B7 = true := by kernel_rfl
set_option maxHeartbeats 8000000 in
set_option maxRecDepth 100000 in
theorem impl_RippleInsert.calls (k : Nat) (A0_0 : Option Addr) (c0_0 : Nat) (l0_0 : List Int) (A0_1 : Option Addr) (c0_1 : Nat) (l0_1 : List Int) (A0_2 : Option Addr) (c0_2 : Nat) (l0_2 : List (S50)) (a1_0 : Int) (a1_1 : Int) (r1 : List Int) (r2 : List Int) (r3 : List (S50)) (r4 : Int) (r5 : Bool) (w : World) (hr0_0 : Kd.C (Kd.int .i64) w A0_0 l0_0.length l0_0) (hc0_0 : l0_0.length ≤ c0_0) (hr0_1 : Kd.C (Kd.int .i64) w A0_1 l0_1.length l0_1) (hc0_1 : l0_1.length ≤ c0_1) (hr0_2 : Kd.C k50 w A0_2 l0_2.length l0_2) (hc0_2 : l0_2.length ≤ c0_2) (h : impl_RippleInsert.f k l0_0 l0_1 l0_2 a1_0 a1_1 = some (r1, r2, r3, r4, r5)) :
  Calls Try.prog 15 #[.agg #[.slice A0_0 l0_0.length c0_0, .slice A0_1 l0_1.length c0_1, .slice A0_2 l0_2.length c0_2], .agg #[.int .i64 a1_0, .int .i64 a1_1]] w fun e w' => ∃ v0_ v1_ v2_ : Value, e = .returned (.tuple #[.agg #[v0_, v1_, v2_], .int .i64 r4, .bool r5]) ∧ Kd.R (Kd.int .i64) 3 w' w.heap.size (fun k_ => some k_ ≠ (v1_ : Value).ownBlock) v0_ r1 ∧ Kd.R (Kd.int .i64) 3 w' w.heap.size (fun k_ => some k_ ≠ (v0_ : Value).ownBlock) v1_ r2 ∧ Kd.R k50 50 w' w.heap.size (fun _ => True) v2_ r3 ∧ Below w.heap.size w w' := by
 have hu29 := Try.underlying29
 have hu39 := Try.underlying39
 have HR0_0 := Aside0.mk hr0_0
 have HC0_0 := Aside0.mk hc0_0
 clear hr0_0 hc0_0
 have HR0_1 := Aside0.mk hr0_1
 have HC0_1 := Aside0.mk hc0_1
 clear hr0_1 hc0_1
 have HR0_2 := Aside0.mk hr0_2
 have HC0_2 := Aside0.mk hc0_2
 clear hr0_2 hc0_2
 have HB := Aside0.mk (Below.refl w.heap.size w)
 have H : ((impl_copyCracker.f l0_0 l0_1 l0_2).bind fun bt282 => ((impl_IsCracker.f k l0_0 l0_1 l0_2).bind fun t292 => (if t292 = true then ((impl_IsItem.f a1_0 a1_1).bind fun t293 => (if t293 = true then ((impl_FindRow.f k l0_0 l0_1 l0_2 a1_1).bind fun t294 => (if t294 ≥ 0 then (impl_RippleInsert.j0 k true l0_0 l0_1 l0_2 a1_0 a1_1 bt282.1 bt282.2.1 bt282.2.2) else (impl_RippleInsert.j0 k (decide ((l0_0.length : Int) ≥ 64)) l0_0 l0_1 l0_2 a1_0 a1_1 bt282.1 bt282.2.1 bt282.2.2))) else (impl_RippleInsert.j0 k true l0_0 l0_1 l0_2 a1_0 a1_1 bt282.1 bt282.2.1 bt282.2.2))) else (impl_RippleInsert.j0 k true l0_0 l0_1 l0_2 a1_0 a1_1 bt282.1 bt282.2.1 bt282.2.2)))) = some (r1, r2, r3, r4, r5) := h
 clear h
 revert H; refine bo ?_; rintro ⟨t282, t285, t288⟩ A3 H
 dsimp only at H
 have HC4 := Aside0.mk H
 clear H
 go_enter Try.func15, Try.ntmps15
 go_upto_region 2 with (first | ((with_reducible refine gate_dst (N := 2) rfl ?_); (try (refine gate_guard (by rfl) ?_; dsimp only)); refine bx 2 #[.slice A0_0 l0_0.length c0_0, .slice A0_1 l0_1.length c0_1, .slice A0_2 l0_2.length c0_2] 29 ?_; intro gb279 hg w5 hbox hb; have BK279 := mk hbox; have GW279 := wg hg; have GE279 := wg hg; replace HB := wh hb; clear hb hbox hg) | ((with_reducible refine gate_dst (N := 3) rfl ?_); (try (refine gate_guard (by rfl) ?_; dsimp only)); refine bx 3 #[.int .i64 a1_0, .int .i64 a1_1] 39 ?_; intro gb280 hg w6 hbox hb; have BK280 := mk hbox; have GW280 := wg hg; have GE280 := wg hg; replace HB := wh hb; have NB279_280 := nl BK279 hg; have NB280_279 := nr BK279 hg; replace BK279 := wb BK279 hb; clear hb hbox hg) | ((with_reducible refine gate_dst (N := 4) rfl ?_); (try (refine gate_guard (by rfl) ?_; dsimp only)); refine bx 4 #[.slice none 0 0, .slice none 0 0, .slice none 0 0] 29 ?_; intro gb281 hg w7 hbox hb; have BK281 := mk hbox; have GW281 := wg hg; have GE281 := wg hg; replace HB := wh hb; have NB279_281 := nl BK279 hg; have NB281_279 := nr BK279 hg; replace BK279 := wb BK279 hb; have NB280_281 := nl BK280 hg; have NB281_280 := nr BK280 hg; replace BK280 := wb BK280 hb; clear hb hbox hg; have hnb8 := NB279_280.out; have hnc8 := NB280_279.out; have hnb9 := NB279_281.out; have hnc9 := NB281_279.out; obtain ⟨hcz10_0, hcz10_1, hcz10_2, hfz10_0, hfz10_1, hfz10_2⟩ := bz3 BK279) | ((with_reducible refine gate_callee (f := 32) rfl ?_); refine gl (some 13) rfl Try.func32 #[.agg #[.slice A0_0 l0_0.length c0_0, .slice A0_1 l0_1.length c0_1, .slice A0_2 l0_2.length c0_2]] ?_; (with_reducible refine (impl_copyCracker.calls _ _ l0_0 _ _ l0_1 _ _ l0_2 t282 t285 t288 _ ?side1 ?side2 ?side3 ?side4 ?side5 ?side6 A3.out).mono ?_); (case side1 => exact uc (Kd.C_below HR0_0.out HB.out)); (case side2 => exact HC0_0.out); (case side3 => exact uc (Kd.C_below HR0_1.out HB.out)); (case side4 => exact HC0_1.out); (case side5 => exact uc (Kd.C_below HR0_2.out HB.out)); (case side6 => exact HC0_2.out); rintro e w11 ⟨v283, v286, v289, rfl, ho0, ho1, ho2, hb⟩; refine ⟨_, rfl, ?_⟩; have HO284 := mk (Kd.R_lower ho0 (below_size bl)); have HO287 := mk (Kd.R_lower ho1 (below_size bl)); have HO290 := mk (Kd.R_lower ho2 (below_size bl)); replace BK279 := wb BK279 hb; replace BK280 := wb BK280 hb; replace BK281 := wb BK281 hb; replace HB := wh hb; (try clear hb); (try clear hb2); (try clear hk); (try clear hi); (try clear ho0); (try clear ho1); (try clear ho2)) | ((with_reducible refine gate_dst (N := 7) rfl ?_); (try (refine gate_guard (by rfl) ?_; dsimp only)); refine bx 7 #[.slice none 0 0, .slice none 0 0, .slice none 0 0] 29 ?_; intro gb291 hg w12 hbox hb; replace HO284 := mk (Kd.R_below (up HO284.out) hb); replace HO287 := mk (Kd.R_below (up HO287.out) hb); replace HO290 := mk (Kd.R_below (up HO290.out) hb); have BK291 := mk hbox; have GW291 := wg hg; have GE291 := wg hg; replace HB := wh hb; have NB279_291 := nl BK279 hg; have NB291_279 := nr BK279 hg; replace BK279 := wb BK279 hb; have NB280_291 := nl BK280 hg; have NB291_280 := nr BK280 hg; replace BK280 := wb BK280 hb; have NB281_291 := nl BK281 hg; have NB291_281 := nr BK281 hg; replace BK281 := wb BK281 hb; clear hb hbox hg; obtain ⟨Ao13, co13, eo13⟩ := Kd.R_slice HO284.out; subst eo13; have hnb14 := NB291_279.out; have hnc14 := NB279_291.out; have hnb15 := NB291_280.out; have hnc15 := NB280_291.out; have hnb16 := NB291_281.out; have hnc16 := NB281_291.out; obtain ⟨hcz17_0, hcz17_1, hcz17_2, hfz17_0, hfz17_1, hfz17_2⟩ := bz3 BK291; obtain ⟨Ao18, co18, eo18⟩ := Kd.R_slice HO287.out; subst eo18; obtain ⟨Ao19, co19, eo19⟩ := Kd.R_slice HO290.out; subst eo19))
 (try simp only [Act.put, List.setIfInBounds_toArray, List.set_cons_zero, List.set_cons_succ])
 go_cut [34] (fun v34 wc => ∃ (kq : Nat) (x34_3 : Bool), v34 = .bool x34_3 ∧ Aside0 (impl_RippleInsert.j0 kq x34_3 l0_0 l0_1 l0_2 a1_0 a1_1 t282 t285 t288 = some (r1, r2, r3, r4, r5)) ∧ Aside0 (kq ≤ k) ∧ Aside0 (Kd.R (Kd.int .i64) 3 wc w.heap.size (fun k_ => some k_ ≠ ((.slice Ao18 t285.length co18) : Value).ownBlock) (.slice Ao13 t282.length co13) t282) ∧ Aside0 (Kd.R (Kd.int .i64) 3 wc w.heap.size (fun k_ => some k_ ≠ ((.slice Ao13 t282.length co13) : Value).ownBlock) (.slice Ao18 t285.length co18) t285) ∧ Aside0 (Kd.R k50 50 wc w.heap.size (fun _ => True) (.slice Ao19 t288.length co19) t288) ∧ Aside0 (wc.heap[gb279]? = some (.cells #[(.slice A0_0 l0_0.length c0_0), (.slice A0_1 l0_1.length c0_1), (.slice A0_2 l0_2.length c0_2)] 29 (0, 0))) ∧ Aside0 (wc.heap[gb280]? = some (.cells #[.int .i64 a1_0, .int .i64 a1_1] 39 (0, 0))) ∧ Aside0 (wc.heap[gb281]? = some (.cells #[(.slice none 0 0), (.slice none 0 0), (.slice none 0 0)] 29 (0, 0))) ∧ Aside0 (wc.heap[gb291]? = some (.cells #[(.slice Ao13 t282.length co13), (.slice Ao18 t285.length co18), (.slice Ao19 t288.length co19)] 29 (0, 0))) ∧ Aside0 (Below w.heap.size w wc))
 case first =>
  have H := HC4.out
  clear HC4
  revert H; refine bo ?_; rintro t292 A20 H
  by_cases c21 : t292 = true
  ·subst c21
   rw [if_pos rfl] at H
   revert H; refine bo ?_; rintro t293 A22 H
   by_cases c23 : t293 = true
   ·subst c23
    rw [if_pos rfl] at H
    revert H; refine bo ?_; rintro t294 A24 H
    by_cases c25 : t294 ≥ 0
    ·rw [if_pos c25] at H
     have c25b0 : decide (0 ≤ t294) = true := decide_eq_true c25
     clear c25
     (first | rw [c25b0] | (simp only [i64_w, i32_w]; rw [c25b0]) | skip)
     have H' := Aside0.mk H
     clear H
     have hnb26 := NB279_280.out
     have hnc26 := NB280_279.out
     have hnb27 := NB279_281.out
     have hnc27 := NB281_279.out
     have hnb28 := NB279_291.out
     have hnc28 := NB291_279.out
     obtain ⟨hcz29_0, hcz29_1, hcz29_2, hfz29_0, hfz29_1, hfz29_2⟩ := bz3 BK279
     go_wp2_with (first | ((with_reducible refine gate_callee (f := 19) rfl ?_); refine gl (some 15) rfl Try.func19 #[.agg #[.slice A0_0 l0_0.length c0_0, .slice A0_1 l0_1.length c0_1, .slice A0_2 l0_2.length c0_2]] ?_; (with_reducible refine (impl_IsCracker.calls k _ _ l0_0 _ _ l0_1 _ _ l0_2 true _ ?side1 ?side2 ?side3 ?side4 ?side5 ?side6 A20.out).mono ?_); (case side1 => exact Kd.C_below HR0_0.out bl); (case side2 => exact HC0_0.out); (case side3 => exact Kd.C_below HR0_1.out bl); (case side4 => exact HC0_1.out); (case side5 => exact Kd.C_below HR0_2.out bl); (case side6 => exact HC0_2.out); rintro e w30 ⟨rfl, hb⟩; refine ⟨_, rfl, ?_⟩; replace HO284 := mk (Kd.R_below (by exact rs1 HO284 BK291) hb); replace HO287 := mk (Kd.R_below (by exact rs1 HO287 BK291) hb); replace HO290 := mk (Kd.R_below (by exact rs1 HO290 BK291) hb); replace BK279 := wx BK279 hb; replace BK280 := wx BK280 hb; replace BK281 := wx BK281 hb; replace BK291 := mk (blk_below (g := gb291) (o := .cells #[.slice Ao13 t282.length co13, .slice Ao18 t285.length co18, .slice Ao19 t288.length co19] 29 (0, 0)) bq hb); replace HB := wh hb; (try clear hb); (try clear hb2); (try clear hk); (try clear hi); have hnb31 := NB280_281.out; have hnc31 := NB281_280.out; have hnb32 := NB280_291.out; have hnc32 := NB291_280.out; obtain ⟨hcz33_0, hcz33_1, hfz33_0, hfz33_1⟩ := bz2 BK280) | (go_at_call 41; (with_reducible refine (impl_IsItem.calls a1_0 a1_1 true _ A22.out).mono ?_); rintro e w34 ⟨rfl, hb⟩; replace HO284 := mk (Kd.R_below (up HO284.out) hb); replace HO287 := mk (Kd.R_below (up HO287.out) hb); replace HO290 := mk (Kd.R_below (up HO290.out) hb); replace BK279 := wb BK279 hb; replace BK280 := wb BK280 hb; replace BK281 := wb BK281 hb; replace BK291 := wb BK291 hb; replace HB := wh hb; (try clear hb); (try clear hb2); (try clear hk); (try clear hi); obtain ⟨hcz35_0, hcz35_1, hcz35_2, hfz35_0, hfz35_1, hfz35_2⟩ := bz3 BK279; obtain ⟨hcz36_0, hcz36_1, hfz36_0, hfz36_1⟩ := bz2 BK280) | (go_at_call 24; (with_reducible refine (impl_FindRow.calls k _ _ l0_0 _ _ l0_1 _ _ l0_2 a1_1 t294 _ ?side1 ?side2 ?side3 ?side4 ?side5 ?side6 A24.out).mono ?_); (case side1 => exact uc (Kd.C_below HR0_0.out HB.out)); (case side2 => exact HC0_0.out); (case side3 => exact uc (Kd.C_below HR0_1.out HB.out)); (case side4 => exact HC0_1.out); (case side5 => exact uc (Kd.C_below HR0_2.out HB.out)); (case side6 => exact HC0_2.out); rintro e w37 ⟨rfl, hb⟩; replace HO284 := mk (Kd.R_below (up HO284.out) hb); replace HO287 := mk (Kd.R_below (up HO287.out) hb); replace HO290 := mk (Kd.R_below (up HO290.out) hb); replace BK279 := wb BK279 hb; replace BK280 := wb BK280 hb; replace BK281 := wb BK281 hb; replace BK291 := wb BK291 hb; replace HB := wh hb; (try clear hb); (try clear hb2); (try clear hk); (try clear hi)))
     go_meet
     case rel => exact ⟨_, (true), (by first | rfl | (simp; done) | (simp [*]; done)), H', ⟨by first | omega | exact Nat.le_refl _⟩, ⟨up HO284.out⟩, ⟨up HO287.out⟩, ⟨up HO290.out⟩, ⟨ub BK279.out⟩, ⟨ub BK280.out⟩, ⟨ub BK281.out⟩, ⟨ub BK291.out⟩, ⟨bl⟩⟩
    ·rw [if_neg c25] at H
     have c25b0 : decide (0 ≤ t294) = false := decide_eq_false c25
     clear c25
     (first | rw [c25b0] | (simp only [i64_w, i32_w]; rw [c25b0]) | skip)
     have H' := Aside0.mk H
     clear H
     have hnb38 := NB279_280.out
     have hnc38 := NB280_279.out
     have hnb39 := NB279_281.out
     have hnc39 := NB281_279.out
     have hnb40 := NB279_291.out
     have hnc40 := NB291_279.out
     obtain ⟨hcz41_0, hcz41_1, hcz41_2, hfz41_0, hfz41_1, hfz41_2⟩ := bz3 BK279
     go_wp2_with (first | ((with_reducible refine gate_callee (f := 19) rfl ?_); refine gl (some 15) rfl Try.func19 #[.agg #[.slice A0_0 l0_0.length c0_0, .slice A0_1 l0_1.length c0_1, .slice A0_2 l0_2.length c0_2]] ?_; (with_reducible refine (impl_IsCracker.calls k _ _ l0_0 _ _ l0_1 _ _ l0_2 true _ ?side1 ?side2 ?side3 ?side4 ?side5 ?side6 A20.out).mono ?_); (case side1 => exact Kd.C_below HR0_0.out bl); (case side2 => exact HC0_0.out); (case side3 => exact Kd.C_below HR0_1.out bl); (case side4 => exact HC0_1.out); (case side5 => exact Kd.C_below HR0_2.out bl); (case side6 => exact HC0_2.out); rintro e w42 ⟨rfl, hb⟩; refine ⟨_, rfl, ?_⟩; replace HO284 := mk (Kd.R_below (by exact rs1 HO284 BK291) hb); replace HO287 := mk (Kd.R_below (by exact rs1 HO287 BK291) hb); replace HO290 := mk (Kd.R_below (by exact rs1 HO290 BK291) hb); replace BK279 := wx BK279 hb; replace BK280 := wx BK280 hb; replace BK281 := wx BK281 hb; replace BK291 := mk (blk_below (g := gb291) (o := .cells #[.slice Ao13 t282.length co13, .slice Ao18 t285.length co18, .slice Ao19 t288.length co19] 29 (0, 0)) bq hb); replace HB := wh hb; (try clear hb); (try clear hb2); (try clear hk); (try clear hi); have hnb43 := NB280_281.out; have hnc43 := NB281_280.out; have hnb44 := NB280_291.out; have hnc44 := NB291_280.out; obtain ⟨hcz45_0, hcz45_1, hfz45_0, hfz45_1⟩ := bz2 BK280) | (go_at_call 41; (with_reducible refine (impl_IsItem.calls a1_0 a1_1 true _ A22.out).mono ?_); rintro e w46 ⟨rfl, hb⟩; replace HO284 := mk (Kd.R_below (up HO284.out) hb); replace HO287 := mk (Kd.R_below (up HO287.out) hb); replace HO290 := mk (Kd.R_below (up HO290.out) hb); replace BK279 := wb BK279 hb; replace BK280 := wb BK280 hb; replace BK281 := wb BK281 hb; replace BK291 := wb BK291 hb; replace HB := wh hb; (try clear hb); (try clear hb2); (try clear hk); (try clear hi); obtain ⟨hcz47_0, hcz47_1, hcz47_2, hfz47_0, hfz47_1, hfz47_2⟩ := bz3 BK279; obtain ⟨hcz48_0, hcz48_1, hfz48_0, hfz48_1⟩ := bz2 BK280) | (go_at_call 24; (with_reducible refine (impl_FindRow.calls k _ _ l0_0 _ _ l0_1 _ _ l0_2 a1_1 t294 _ ?side1 ?side2 ?side3 ?side4 ?side5 ?side6 A24.out).mono ?_); (case side1 => exact uc (Kd.C_below HR0_0.out HB.out)); (case side2 => exact HC0_0.out); (case side3 => exact uc (Kd.C_below HR0_1.out HB.out)); (case side4 => exact HC0_1.out); (case side5 => exact uc (Kd.C_below HR0_2.out HB.out)); (case side6 => exact HC0_2.out); rintro e w49 ⟨rfl, hb⟩; replace HO284 := mk (Kd.R_below (up HO284.out) hb); replace HO287 := mk (Kd.R_below (up HO287.out) hb); replace HO290 := mk (Kd.R_below (up HO290.out) hb); replace BK279 := wb BK279 hb; replace BK280 := wb BK280 hb; replace BK281 := wb BK281 hb; replace BK291 := wb BK291 hb; replace HB := wh hb; (try clear hb); (try clear hb2); (try clear hk); (try clear hi); obtain ⟨hcz50_0, hcz50_1, hcz50_2, hfz50_0, hfz50_1, hfz50_2⟩ := bz3 BK279))
     go_meet
     case rel => exact ⟨_, (decide ((l0_0.length : Int) ≥ 64)), (by first | rfl | (simp; done) | (simp [*]; done)), H', ⟨by first | omega | exact Nat.le_refl _⟩, ⟨up HO284.out⟩, ⟨up HO287.out⟩, ⟨up HO290.out⟩, ⟨ub BK279.out⟩, ⟨ub BK280.out⟩, ⟨ub BK281.out⟩, ⟨ub BK291.out⟩, ⟨bl⟩⟩
   ·replace c23 := Bool.eq_false_iff.mpr c23
    subst c23
    rw [if_neg nf] at H
    have H' := Aside0.mk H
    clear H
    have hnb51 := NB279_280.out
    have hnc51 := NB280_279.out
    have hnb52 := NB279_281.out
    have hnc52 := NB281_279.out
    have hnb53 := NB279_291.out
    have hnc53 := NB291_279.out
    obtain ⟨hcz54_0, hcz54_1, hcz54_2, hfz54_0, hfz54_1, hfz54_2⟩ := bz3 BK279
    go_wp2_with (first | ((with_reducible refine gate_callee (f := 19) rfl ?_); refine gl (some 15) rfl Try.func19 #[.agg #[.slice A0_0 l0_0.length c0_0, .slice A0_1 l0_1.length c0_1, .slice A0_2 l0_2.length c0_2]] ?_; (with_reducible refine (impl_IsCracker.calls k _ _ l0_0 _ _ l0_1 _ _ l0_2 true _ ?side1 ?side2 ?side3 ?side4 ?side5 ?side6 A20.out).mono ?_); (case side1 => exact Kd.C_below HR0_0.out bl); (case side2 => exact HC0_0.out); (case side3 => exact Kd.C_below HR0_1.out bl); (case side4 => exact HC0_1.out); (case side5 => exact Kd.C_below HR0_2.out bl); (case side6 => exact HC0_2.out); rintro e w55 ⟨rfl, hb⟩; refine ⟨_, rfl, ?_⟩; replace HO284 := mk (Kd.R_below (by exact rs1 HO284 BK291) hb); replace HO287 := mk (Kd.R_below (by exact rs1 HO287 BK291) hb); replace HO290 := mk (Kd.R_below (by exact rs1 HO290 BK291) hb); replace BK279 := wx BK279 hb; replace BK280 := wx BK280 hb; replace BK281 := wx BK281 hb; replace BK291 := mk (blk_below (g := gb291) (o := .cells #[.slice Ao13 t282.length co13, .slice Ao18 t285.length co18, .slice Ao19 t288.length co19] 29 (0, 0)) bq hb); replace HB := wh hb; (try clear hb); (try clear hb2); (try clear hk); (try clear hi); have hnb56 := NB280_281.out; have hnc56 := NB281_280.out; have hnb57 := NB280_291.out; have hnc57 := NB291_280.out; obtain ⟨hcz58_0, hcz58_1, hfz58_0, hfz58_1⟩ := bz2 BK280) | (go_at_call 41; (with_reducible refine (impl_IsItem.calls a1_0 a1_1 false _ A22.out).mono ?_); rintro e w59 ⟨rfl, hb⟩; replace HO284 := mk (Kd.R_below (up HO284.out) hb); replace HO287 := mk (Kd.R_below (up HO287.out) hb); replace HO290 := mk (Kd.R_below (up HO290.out) hb); replace BK279 := wb BK279 hb; replace BK280 := wb BK280 hb; replace BK281 := wb BK281 hb; replace BK291 := wb BK291 hb; replace HB := wh hb; (try clear hb); (try clear hb2); (try clear hk); (try clear hi)))
    go_meet
    case rel => exact ⟨_, (true), (by first | rfl | (simp; done) | (simp [*]; done)), H', ⟨by first | omega | exact Nat.le_refl _⟩, ⟨up HO284.out⟩, ⟨up HO287.out⟩, ⟨up HO290.out⟩, ⟨ub BK279.out⟩, ⟨ub BK280.out⟩, ⟨ub BK281.out⟩, ⟨ub BK291.out⟩, ⟨bl⟩⟩
  ·replace c21 := Bool.eq_false_iff.mpr c21
   subst c21
   rw [if_neg nf] at H
   have H' := Aside0.mk H
   clear H
   have hnb60 := NB279_280.out
   have hnc60 := NB280_279.out
   have hnb61 := NB279_281.out
   have hnc61 := NB281_279.out
   have hnb62 := NB279_291.out
   have hnc62 := NB291_279.out
   obtain ⟨hcz63_0, hcz63_1, hcz63_2, hfz63_0, hfz63_1, hfz63_2⟩ := bz3 BK279
   go_wp2_with (first | ((with_reducible refine gate_callee (f := 19) rfl ?_); refine gl (some 15) rfl Try.func19 #[.agg #[.slice A0_0 l0_0.length c0_0, .slice A0_1 l0_1.length c0_1, .slice A0_2 l0_2.length c0_2]] ?_; (with_reducible refine (impl_IsCracker.calls k _ _ l0_0 _ _ l0_1 _ _ l0_2 false _ ?side1 ?side2 ?side3 ?side4 ?side5 ?side6 A20.out).mono ?_); (case side1 => exact Kd.C_below HR0_0.out bl); (case side2 => exact HC0_0.out); (case side3 => exact Kd.C_below HR0_1.out bl); (case side4 => exact HC0_1.out); (case side5 => exact Kd.C_below HR0_2.out bl); (case side6 => exact HC0_2.out); rintro e w64 ⟨rfl, hb⟩; refine ⟨_, rfl, ?_⟩; replace HO284 := mk (Kd.R_below (by exact rs1 HO284 BK291) hb); replace HO287 := mk (Kd.R_below (by exact rs1 HO287 BK291) hb); replace HO290 := mk (Kd.R_below (by exact rs1 HO290 BK291) hb); replace BK279 := wx BK279 hb; replace BK280 := wx BK280 hb; replace BK281 := wx BK281 hb; replace BK291 := mk (blk_below (g := gb291) (o := .cells #[.slice Ao13 t282.length co13, .slice Ao18 t285.length co18, .slice Ao19 t288.length co19] 29 (0, 0)) bq hb); replace HB := wh hb; (try clear hb); (try clear hb2); (try clear hk); (try clear hi)))
   go_meet
   case rel => exact ⟨_, (true), (by first | rfl | (simp; done) | (simp [*]; done)), H', ⟨by first | omega | exact Nat.le_refl _⟩, ⟨up HO284.out⟩, ⟨up HO287.out⟩, ⟨up HO290.out⟩, ⟨ub BK279.out⟩, ⟨ub BK280.out⟩, ⟨ub BK281.out⟩, ⟨ub BK291.out⟩, ⟨bl⟩⟩
 case rest =>
  clear HC4
  try clear c1
  try clear c2
  try clear p2
  try clear c3
  try clear c4
  try clear c5
  try clear c6
  try clear c8
  try clear c9
  try clear c14
  try clear c15
  try clear c16
  try clear c19
  try clear c21
  try clear c23
  try clear c25
  try clear c25b0
  try clear c26
  try clear c27
  try clear c28
  try clear c31
  try clear c32
  try clear c38
  try clear c39
  try clear c40
  try clear c43
  try clear c44
  try clear c51
  try clear c52
  try clear c53
  try clear c56
  try clear c57
  try clear c60
  try clear c61
  try clear c62
  try clear hcz10_0
  try clear hcz10_1
  try clear hcz10_2
  try clear hcz17_0
  try clear hcz17_1
  try clear hcz17_2
  try clear hcz29_0
  try clear hcz29_1
  try clear hcz29_2
  try clear hcz33_0
  try clear hcz33_1
  try clear hcz35_0
  try clear hcz35_1
  try clear hcz35_2
  try clear hcz36_0
  try clear hcz36_1
  try clear hcz41_0
  try clear hcz41_1
  try clear hcz41_2
  try clear hcz45_0
  try clear hcz45_1
  try clear hcz47_0
  try clear hcz47_1
  try clear hcz47_2
  try clear hcz48_0
  try clear hcz48_1
  try clear hcz50_0
  try clear hcz50_1
  try clear hcz50_2
  try clear hcz54_0
  try clear hcz54_1
  try clear hcz54_2
  try clear hcz58_0
  try clear hcz58_1
  try clear hcz63_0
  try clear hcz63_1
  try clear hcz63_2
  try clear hfz10_0
  try clear hfz10_1
  try clear hfz10_2
  try clear hfz17_0
  try clear hfz17_1
  try clear hfz17_2
  try clear hfz29_0
  try clear hfz29_1
  try clear hfz29_2
  try clear hfz33_0
  try clear hfz33_1
  try clear hfz35_0
  try clear hfz35_1
  try clear hfz35_2
  try clear hfz36_0
  try clear hfz36_1
  try clear hfz41_0
  try clear hfz41_1
  try clear hfz41_2
  try clear hfz45_0
  try clear hfz45_1
  try clear hfz47_0
  try clear hfz47_1
  try clear hfz47_2
  try clear hfz48_0
  try clear hfz48_1
  try clear hfz50_0
  try clear hfz50_1
  try clear hfz50_2
  try clear hfz54_0
  try clear hfz54_1
  try clear hfz54_2
  try clear hfz58_0
  try clear hfz58_1
  try clear hfz63_0
  try clear hfz63_1
  try clear hfz63_2
  obtain ⟨kq, x34_3, rfl, HA, HJ3, HO_292000, HO_292001, HO_292002, BK279, BK280, BK281, BK291, HB⟩ := hcut
  cases kq with
  | zero => exact absurd HA.out (by simp [impl_RippleInsert.j0])
  | succ kj3 =>
   have H := HA.out
   clear HA
   simp only [impl_RippleInsert.j0] at H
   by_cases c65 : x34_3 = true
   ·subst c65
    rw [if_pos rfl] at H
    simp only [Option.some.injEq, Prod.mk.injEq] at H
    obtain ⟨rfl, rfl, rfl, rfl, rfl⟩ := H
    have hnb66 := NB291_279.out
    have hnc66 := NB279_291.out
    have hnb67 := NB291_280.out
    have hnc67 := NB280_291.out
    have hnb68 := NB291_281.out
    have hnc68 := NB281_291.out
    obtain ⟨hcz69_0, hcz69_1, hcz69_2, hfz69_0, hfz69_1, hfz69_2⟩ := bz3 BK291
    have hnb70 := NB281_279.out
    have hnc70 := NB279_281.out
    have hnb71 := NB281_280.out
    have hnc71 := NB280_281.out
    obtain ⟨hcz72_0, hcz72_1, hcz72_2, hfz72_0, hfz72_1, hfz72_2⟩ := bz3 BK281
    go_wp2
    refine bodyPost_ret (results_ctt rfl _ _ gb281 29 #[.slice Ao13 t282.length co13, .slice Ao18 t285.length co18, .slice Ao19 t288.length co19] (0, 0) _ rfl bq Try.underlying29 rfl (by kernel_rfl)) rfl ?_
    exact ⟨_, _, _, by first | rfl | (simp [errW_none, errW_some] <;> rfl) | (simp [*, errW_none, errW_some] <;> rfl), (by exact rm (rs1 HO_292000 BK281)), (by exact rm (rs1 HO_292001 BK281)), (by exact rm (rs1 HO_292002 BK281)), bl⟩
   ·replace c65 := Bool.eq_false_iff.mpr c65
    subst c65
    rw [if_neg nf] at H
    obtain ⟨y295, hy295⟩ : ∃ y_ : List Int, y_ = (([a1_0] : List Int)) := ⟨_, rfl⟩
    replace H : (if t282.length + y295.length < 17592186044416 then ((some (([a1_1] : List Int) : List Int)).bind fun y301 => (if t285.length + y301.length < 17592186044416 then (impl_RippleInsert.l0 kj3 (l0_0.length : Int) 0 (wrap64 ((t288.length : Int) - 1)) a1_0 a1_1 (t282 ++ y295) (t285 ++ y301) t288) else (none))) else (none)) = some (r1, r2, r3, r4, r5) := by first | (rw [hy295]; with_reducible exact H) | (have H2_ := (Option.bind_some _ _).symm.trans H; rw [hy295]; with_reducible exact H2_) | (have H2_ := (Option.bind_some _ _).symm.trans H; with_reducible exact H2_) | with_reducible exact H | (rw [hy295]; exact H) | exact H
    have Ny295 := Aside0.mk hy295
    clear hy295
    by_cases c73 : t282.length + y295.length < 17592186044416
    ·rw [if_pos c73] at H
     have LMc73 := Aside0.mk c73
     clear c73
     obtain ⟨y298, hy298⟩ : ∃ y_ : List Int, y_ = (t282 ++ y295) := ⟨_, rfl⟩
     replace H : ((some (([a1_1] : List Int) : List Int)).bind fun y301 => (if t285.length + y301.length < 17592186044416 then (impl_RippleInsert.l0 kj3 (l0_0.length : Int) 0 (wrap64 ((t288.length : Int) - 1)) a1_0 a1_1 y298 (t285 ++ y301) t288) else (none))) = some (r1, r2, r3, r4, r5) := by first | (rw [hy298]; with_reducible exact H) | (have H2_ := (Option.bind_some _ _).symm.trans H; rw [hy298]; with_reducible exact H2_) | (have H2_ := (Option.bind_some _ _).symm.trans H; with_reducible exact H2_) | with_reducible exact H | (rw [hy298]; exact H) | exact H
     have Ny298 := Aside0.mk hy298
     clear hy298
     obtain ⟨y301, hy301⟩ : ∃ y_ : List Int, y_ = (([a1_1] : List Int)) := ⟨_, rfl⟩
     replace H : (if t285.length + y301.length < 17592186044416 then (impl_RippleInsert.l0 kj3 (l0_0.length : Int) 0 (wrap64 ((t288.length : Int) - 1)) a1_0 a1_1 y298 (t285 ++ y301) t288) else (none)) = some (r1, r2, r3, r4, r5) := by first | (rw [hy301]; with_reducible exact H) | (have H2_ := (Option.bind_some _ _).symm.trans H; rw [hy301]; with_reducible exact H2_) | (have H2_ := (Option.bind_some _ _).symm.trans H; with_reducible exact H2_) | with_reducible exact H | (rw [hy301]; exact H) | exact H
     have Ny301 := Aside0.mk hy301
     clear hy301
     by_cases c74 : t285.length + y301.length < 17592186044416
     ·rw [if_pos c74] at H
      have LMc74 := Aside0.mk c74
      clear c74
      obtain ⟨y304, hy304⟩ : ∃ y_ : List Int, y_ = (t285 ++ y301) := ⟨_, rfl⟩
      replace H : (impl_RippleInsert.l0 kj3 (l0_0.length : Int) 0 (wrap64 ((t288.length : Int) - 1)) a1_0 a1_1 y298 y304 t288) = some (r1, r2, r3, r4, r5) := by first | (rw [hy304]; with_reducible exact H) | (have H2_ := (Option.bind_some _ _).symm.trans H; rw [hy304]; with_reducible exact H2_) | (have H2_ := (Option.bind_some _ _).symm.trans H; with_reducible exact H2_) | with_reducible exact H | (rw [hy304]; exact H) | exact H
      have Ny304 := Aside0.mk hy304
      clear hy304
      have H' := Aside0.mk H
      clear H
      have hnb75 := NB279_280.out
      have hnc75 := NB280_279.out
      have hnb76 := NB279_281.out
      have hnc76 := NB281_279.out
      have hnb77 := NB279_291.out
      have hnc77 := NB291_279.out
      obtain ⟨hcz78_0, hcz78_1, hcz78_2, hfz78_0, hfz78_1, hfz78_2⟩ := bz3 BK279
      try go_wp2
      replace HO_292000 := mk (Kd.R_drew HO_292000.out)
      replace HO_292001 := mk (Kd.R_drew HO_292001.out)
      replace HO_292002 := mk (Kd.R_drew HO_292002.out)
      replace BK279 := wd BK279
      replace BK280 := wd BK280
      replace BK281 := wd BK281
      replace BK291 := wd BK291
      replace HB := mk (below_drew1 HB.out)
      refine start_ (n := 16) (S := fun w' => w'.cell? ⟨gb291, 0, none⟩ = some (.slice Ao13 t282.length co13) ∧ w'.cell? ⟨gb291, 1, none⟩ = some (.slice Ao18 t285.length co18) ∧ w'.cell? ⟨gb291, 2, none⟩ = some (.slice Ao19 t288.length co19) ∧ w'.cell? ⟨gb280, 0, none⟩ = some (.int .i64 a1_0) ∧ w'.cell? ⟨gb280, 1, none⟩ = some (.int .i64 a1_1)) (ds := [13, 15]) #[F_, F_, F_, F_, F_, F_, F_, F_, F_, F_, F_, F_, F_, F_, F_, F_] (by kernel_rfl) rfl rfl ⟨(blk_cell BK291.out 0).trans rfl, (blk_cell BK291.out 1).trans rfl, (blk_cell BK291.out 2).trans rfl, (blk_cell BK280.out 0).trans rfl, (blk_cell BK280.out 1).trans rfl⟩ (fun hHeld => ?_); refine with_tabW impl_RippleInsert.tab5 impl_RippleInsert.bits5 (fun HT_ HW_ => ?_)
      generalize wc.drew = w79 at HO_292000 HO_292001 HO_292002 BK279 BK280 BK281 BK291 HB hHeld ⊢
      refine pu 0 39 (tf 1 15) ?_
      refine pu 2 41 #[T_,F_,T_,F_,F_,F_,F_,F_,F_,F_,F_,F_,F_,F_,F_,F_] ?_
      refine pu 6 45 #[T_,F_,T_,F_,F_,F_,T_,F_,F_,F_,F_,F_,F_,F_,F_,F_] ?_
      refine pu 8 47 #[T_,F_,T_,F_,F_,F_,T_,F_,T_,F_,F_,F_,F_,F_,F_,F_] ?_
      refine tk 1 40 #[T_,T_,T_,F_,F_,F_,T_,F_,T_,F_,F_,F_,F_,F_,F_,F_] hHeld ?_
      refine tk 3 42 #[T_,T_,T_,T_,F_,F_,T_,F_,T_,F_,F_,F_,F_,F_,F_,F_] hHeld ?_
      refine tk 7 46 #[T_,T_,T_,T_,F_,F_,T_,T_,T_,F_,F_,F_,F_,F_,F_,F_] hHeld ?_
      refine tk 9 48 #[T_,T_,T_,T_,F_,F_,T_,T_,T_,T_,F_,F_,F_,F_,F_,F_] hHeld ?_
      refine join_ (σ := Value × Value × Value) 5 #[T_, T_, T_, T_, T_, T_, T_, T_, T_, T_, T_, F_, F_, F_, F_, F_] (fun s_ => [(43, s_.1), (44, s_.2.1), (49, s_.2.2)]) (fun s_ w' => (w'.cell? ⟨gb291, 0, none⟩ = some (.slice Ao13 t282.length co13) ∧ w'.cell? ⟨gb291, 1, none⟩ = some (.slice Ao18 t285.length co18) ∧ w'.cell? ⟨gb291, 2, none⟩ = some (.slice Ao19 t288.length co19) ∧ w'.cell? ⟨gb280, 0, none⟩ = some (.int .i64 a1_0) ∧ w'.cell? ⟨gb280, 1, none⟩ = some (.int .i64 a1_1)) ∧ (Kd.R (Kd.int .i64) 3 w' w.heap.size (fun k_ => some k_ ≠ (s_.2.1 : Value).ownBlock ∧ some k_ ≠ (s_.2.2 : Value).ownBlock ∧ some k_ ≠ (.slice Ao18 t285.length co18 : Value).ownBlock) s_.1 y295) ∧ (Kd.R (Kd.int .i64) 3 w' w.heap.size (fun k_ => some k_ ≠ (s_.1 : Value).ownBlock ∧ some k_ ≠ (s_.2.2 : Value).ownBlock ∧ some k_ ≠ (.slice Ao18 t285.length co18 : Value).ownBlock) s_.2.1 y298) ∧ (Kd.R (Kd.int .i64) 3 w' w.heap.size (fun k_ => some k_ ≠ (s_.1 : Value).ownBlock ∧ some k_ ≠ (s_.2.1 : Value).ownBlock ∧ some k_ ≠ (.slice Ao18 t285.length co18 : Value).ownBlock) s_.2.2 y301) ∧ (Kd.R (Kd.int .i64) 3 w' w.heap.size (fun k_ => some k_ ≠ (s_.1 : Value).ownBlock ∧ some k_ ≠ (s_.2.1 : Value).ownBlock ∧ some k_ ≠ (s_.2.2 : Value).ownBlock) (.slice Ao18 t285.length co18) t285) ∧ (Kd.R k50 50 w' w.heap.size (fun _ => True) (.slice Ao19 t288.length co19) t288) ∧ (w'.heap[gb279]? = some (.cells #[.slice A0_0 l0_0.length c0_0, .slice A0_1 l0_1.length c0_1, .slice A0_2 l0_2.length c0_2] 29 (0, 0))) ∧ (w'.heap[gb280]? = some (.cells #[.int .i64 a1_0, .int .i64 a1_1] 39 (0, 0))) ∧ (w'.heap[gb281]? = some (.cells #[.slice none 0 0, .slice none 0 0, .slice none 0 0] 29 (0, 0))) ∧ (w'.heap[gb291]? = some (.cells #[.slice Ao13 t282.length co13, .slice Ao18 t285.length co18, .slice Ao19 t288.length co19] 29 (0, 0))) ∧ (Below w.heap.size w w')) ?_ ?_
      rotate_left
      ·intro hCont
       refine two_ (i := 4) (j := 10) (Ni := some 43) (Nj := some 49) #[T_, T_, T_, T_, T_, F_, T_, T_, T_, T_, F_, F_, F_, F_, F_, F_] #[T_, T_, T_, T_, F_, F_, T_, T_, T_, T_, T_, F_, F_, F_, F_, F_] rfl rfl rfl rfl (two_of HT_.out (by kernel_rfl)) (by decide) (by decide) (fun K hK => ?_) (fun K hK => ?_)
       ·skip
        refine Kd.R_lit_step (Kd.int .i64) _ 3 ?hg (N := 43) ?hd (xs := ([a1_0] : List Int)) (inner := [.int .i64 a1_0]) (ok := fun _ => True) (okp := fun _ => True) ?hr ?hp (fun _ hk => hk) trivial (Below.refl _ _) (Nat.le_refl _) (by simp) ?_; (case hd => rfl); (case hg => rfl); (case hr => first | (go_simp; done) | (go_simp; rfl)); (case hp => exact (Reps.one (show Kd.M (Kd.int .i64) _ _ _ a1_0 [.int .i64 a1_0] from rfl) (Reps.none _ _)))
        intro v296 w80 ho81 hb hg_ hnew_
        clear hg_ hnew_
        (first | rw [← Ny295.out] at ho81 | (simp only [Int.reduceToNat] at ho81; rw [← Ny295.out] at ho81))
        replace HO_292002 := mk (Kd.R_below (up HO_292002.out) hb)
        have HO297 := mk (Kd.R_lower (Kd.R_new' (Kd.R_new' ho81 (Kd.R_lt (up HO_292000.out))) (Kd.R_lt (up HO_292001.out))) (below_size bl))
        replace HO_292000 := mk (Kd.R_elder' (up HO_292000.out) (Kd.R_base ho81) hb)
        replace HO_292001 := mk (Kd.R_elder' (up HO_292001.out) (Kd.R_base ho81) hb)
        replace BK279 := wb BK279 hb
        replace BK280 := wb BK280 hb
        replace BK281 := wb BK281 hb
        replace BK291 := wb BK291 hb
        replace HB := wh hb
        clear hb ho81
        obtain ⟨Ao83, co83, eo83⟩ := Kd.R_slice HO297.out
        (first | subst eo83 | (injection eo83 with f1_ f2_ f3_; have f4_ := f1_.symm; have f5_ := f3_.symm; clear f1_ f2_ f3_; subst f4_; subst f5_))
        refine hK.out _ _ ⟨(blk_cell BK291.out 0).trans rfl, (blk_cell BK291.out 1).trans rfl, (blk_cell BK291.out 2).trans rfl, (blk_cell BK280.out 0).trans rfl, (blk_cell BK280.out 1).trans rfl⟩ (fun hHeld => ?_)
        clear hK K
        refine nm 43 ?_
        refine two_ (i := 5) (j := 10) (Ni := some 44) (Nj := some 49) #[T_, T_, T_, T_, T_, T_, T_, T_, T_, T_, F_, F_, F_, F_, F_, F_] #[T_, T_, T_, T_, T_, F_, T_, T_, T_, T_, T_, F_, F_, F_, F_, F_] rfl rfl rfl rfl (two_of HT_.out (by kernel_rfl)) (by decide) (by decide) (fun K hK => ?_) (fun K hK => ?_)
        ·skip
         refine Kd.R_append_rows_step (Kd.int .i64) (w0 := w) w.heap.size (by rfl) (.tmp 40) (.tmp 43) 22 3 (.int .i64 0) 8 rfl Try.underlying22 info3 rfl (by decide) (by omega) (.slice Ao13 t282.length co13) t282 y295 _ _ _ (fun k_ => some k_ ≠ (.slice Ao18 t285.length co18 : Value).ownBlock ∧ some k_ ≠ (.slice Ao83 y295.length co83 : Value).ownBlock) (fun _ => False) rfl rfl ?aO ?aR (fun _ _ h => h) (fun _ h => h.elim) ?aF ?aB ?aS ?aL ?_
         (case aR => exact uc (Kd.R_reads' HO297.out).2.2)
         (case aB => exact bl)
         (case aF => exact (fun k_ hk => ⟨Kd.fresh' (Kd.R_lt (up HO_292001.out)) k_ hk, Kd.fresh' (Kd.R_lt (up HO297.out)) k_ hk⟩))
         (case aO => exact (up HO_292000.out))
         (case aS => exact (below_size bl))
         (case aL => have := LMc73.out; omega)
         intro v299 w82 ho hb hg hat
         rw [← Ny298.out] at ho
         replace HO_292001 := mk (Kd.R_after (ok := (fun k_ => some k_ ≠ (.slice Ao83 y295.length co83 : Value).ownBlock)) (by exact up (Kd.R_mono HO_292001.out (fun _ hk => by first | exact ⟨hk.2, hk.1⟩ | (revert hk; simp only [and_imp]; intros; (repeat' (refine And.intro ?_ ?_)) <;> assumption)))) hg hat)
         replace HO_292002 := mk (Kd.R_over' (up HO_292002.out) (Kd.R_typed (up HO_292000.out)) (by decide) hg)
         replace BK279 := mk (blk_grown (g := gb279) (o := .cells #[.slice A0_0 l0_0.length c0_0, .slice A0_1 l0_1.length c0_1, .slice A0_2 l0_2.length c0_2] 29 (0, 0)) (ub BK279.out) hg (Kd.R_ne HO_292000.out BK279.out (by decide)))
         replace BK280 := mk (blk_grown (g := gb280) (o := .cells #[.int .i64 a1_0, .int .i64 a1_1] 39 (0, 0)) (ub BK280.out) hg (Kd.R_ne HO_292000.out BK280.out (by decide)))
         replace BK281 := mk (blk_grown (g := gb281) (o := .cells #[.slice none 0 0, .slice none 0 0, .slice none 0 0] 29 (0, 0)) (ub BK281.out) hg (Kd.R_ne HO_292000.out BK281.out (by decide)))
         replace BK291 := mk (blk_grown (g := gb291) (o := .cells #[.slice Ao13 t282.length co13, .slice Ao18 t285.length co18, .slice Ao19 t288.length co19] 29 (0, 0)) (ub BK291.out) hg (Kd.R_ne HO_292000.out BK291.out (by decide)))
         replace HO297 := mk (Kd.R_after (ok := (fun k_ => some k_ ≠ (.slice Ao18 t285.length co18 : Value).ownBlock)) (by exact up (Kd.R_mono HO297.out (fun _ hk => by first | exact ⟨hk.2, hk.1.2⟩ | (revert hk; simp only [and_imp]; intros; (repeat' (refine And.intro ?_ ?_)) <;> assumption)))) hg hat)
         replace HB := mk hb
         have HO300 := mk ho
         clear HO_292000
         clear ho hb hg hat
         refine hK.out _ _ ⟨(blk_cell BK291.out 0).trans rfl, (blk_cell BK291.out 1).trans rfl, (blk_cell BK291.out 2).trans rfl, (blk_cell BK280.out 0).trans rfl, (blk_cell BK280.out 1).trans rfl⟩ (fun hHeld => ?_)
         clear hK K
         refine nm 44 ?_
         refine on 10 49 (tf 11 5) (fun K hK => ?_)
         refine Kd.R_lit_step (Kd.int .i64) _ 3 ?hg (N := 49) ?hd (xs := ([a1_1] : List Int)) (inner := [.int .i64 a1_1]) (ok := fun _ => True) (okp := fun _ => True) ?hr ?hp (fun _ hk => hk) trivial (Below.refl _ _) (Nat.le_refl _) (by simp) ?_; (case hd => rfl); (case hg => rfl); (case hr => first | (go_simp; done) | (go_simp; rfl)); (case hp => exact (Reps.one (show Kd.M (Kd.int .i64) _ _ _ a1_1 [.int .i64 a1_1] from rfl) (Reps.none _ _)))
         intro v302 w84 ho85 hb hg_ hnew_
         clear hg_ hnew_
         (first | rw [← Ny301.out] at ho85 | (simp only [Int.reduceToNat] at ho85; rw [← Ny301.out] at ho85))
         replace HO_292002 := mk (Kd.R_below (up HO_292002.out) hb)
         have HO303 := mk (Kd.R_lower (Kd.R_new' (Kd.R_new' (Kd.R_new' ho85 (Kd.R_lt (up HO_292001.out))) (Kd.R_lt (up HO297.out))) (Kd.R_lt (up HO300.out))) (below_size bl))
         replace HO_292001 := mk (Kd.R_elder' (up HO_292001.out) (Kd.R_base ho85) hb)
         replace HO297 := mk (Kd.R_elder' (up HO297.out) (Kd.R_base ho85) hb)
         replace HO300 := mk (Kd.R_elder' (up HO300.out) (Kd.R_base ho85) hb)
         replace BK279 := wb BK279 hb
         replace BK280 := wb BK280 hb
         replace BK281 := wb BK281 hb
         replace BK291 := wb BK291 hb
         replace HB := wh hb
         clear hb ho85
         refine hK.out _ _ ⟨(blk_cell BK291.out 0).trans rfl, (blk_cell BK291.out 1).trans rfl, (blk_cell BK291.out 2).trans rfl, (blk_cell BK280.out 0).trans rfl, (blk_cell BK280.out 1).trans rfl⟩ (fun hHeld => ?_)
         clear hK K
         refine nm 49 ?_
         exact norm_ (by simp only [putAll, Act.put, List.setIfInBounds_toArray, List.set_cons_zero, List.set_cons_succ]) (hCont (.slice Ao83 y295.length co83, v299, v302) _ ⟨hHeld, (by exact up (Kd.R_mono HO297.out (fun _ hk => by first | exact ⟨hk.1.2, ⟨hk.2, hk.1.1⟩⟩ | (revert hk; simp only [and_imp]; intros; (repeat' (refine And.intro ?_ ?_)) <;> assumption)))), (by exact up (Kd.R_mono HO300.out (fun _ hk => by first | exact ⟨hk.1.2, ⟨hk.2, hk.1.1⟩⟩ | (revert hk; simp only [and_imp]; intros; (repeat' (refine And.intro ?_ ?_)) <;> assumption)))), (by exact up (Kd.R_mono HO303.out (fun _ hk => by first | exact ⟨hk.1.2, ⟨hk.2, hk.1.1.2⟩⟩ | (revert hk; simp only [and_imp]; intros; (repeat' (refine And.intro ?_ ?_)) <;> assumption)))), (by exact up (Kd.R_mono HO_292001.out (fun _ hk => by first | exact ⟨hk.1.1, ⟨hk.1.2, hk.2⟩⟩ | (revert hk; simp only [and_imp]; intros; (repeat' (refine And.intro ?_ ?_)) <;> assumption)))), (up HO_292002.out), (ub BK279.out), (ub BK280.out), (ub BK281.out), (ub BK291.out), bl⟩)
        ·skip
         refine Kd.R_lit_step (Kd.int .i64) _ 3 ?hg (N := 49) ?hd (xs := ([a1_1] : List Int)) (inner := [.int .i64 a1_1]) (ok := fun _ => True) (okp := fun _ => True) ?hr ?hp (fun _ hk => hk) trivial (Below.refl _ _) (Nat.le_refl _) (by simp) ?_; (case hd => rfl); (case hg => rfl); (case hr => first | (go_simp; done) | (go_simp; rfl)); (case hp => exact (Reps.one (show Kd.M (Kd.int .i64) _ _ _ a1_1 [.int .i64 a1_1] from rfl) (Reps.none _ _)))
         intro v302 w82 ho83 hb hg_ hnew_
         clear hg_ hnew_
         (first | rw [← Ny301.out] at ho83 | (simp only [Int.reduceToNat] at ho83; rw [← Ny301.out] at ho83))
         replace HO_292002 := mk (Kd.R_below (up HO_292002.out) hb)
         have HO303 := mk (Kd.R_lower (Kd.R_new' (Kd.R_new' (Kd.R_new' ho83 (Kd.R_lt (up HO_292000.out))) (Kd.R_lt (up HO_292001.out))) (Kd.R_lt (up HO297.out))) (below_size bl))
         replace HO_292000 := mk (Kd.R_elder' (up HO_292000.out) (Kd.R_base ho83) hb)
         replace HO_292001 := mk (Kd.R_elder' (up HO_292001.out) (Kd.R_base ho83) hb)
         replace HO297 := mk (Kd.R_elder' (up HO297.out) (Kd.R_base ho83) hb)
         replace BK279 := wb BK279 hb
         replace BK280 := wb BK280 hb
         replace BK281 := wb BK281 hb
         replace BK291 := wb BK291 hb
         replace HB := wh hb
         clear hb ho83
         obtain ⟨Ao85, co85, eo85⟩ := Kd.R_slice HO297.out
         (first | subst eo85 | (injection eo85 with f1_ f2_ f3_; have f4_ := f1_.symm; have f5_ := f3_.symm; clear f1_ f2_ f3_; subst f4_; subst f5_))
         refine hK.out _ _ ⟨(blk_cell BK291.out 0).trans rfl, (blk_cell BK291.out 1).trans rfl, (blk_cell BK291.out 2).trans rfl, (blk_cell BK280.out 0).trans rfl, (blk_cell BK280.out 1).trans rfl⟩ (fun hHeld => ?_)
         clear hK K
         refine nm 49 ?_
         refine on 5 44 (tf 11 5) (fun K hK => ?_)
         refine Kd.R_append_rows_step (Kd.int .i64) (w0 := w) w.heap.size (by rfl) (.tmp 40) (.tmp 43) 22 3 (.int .i64 0) 8 rfl Try.underlying22 info3 rfl (by decide) (by omega) (.slice Ao13 t282.length co13) t282 y295 _ _ _ (fun k_ => some k_ ≠ (.slice Ao18 t285.length co18 : Value).ownBlock ∧ some k_ ≠ (.slice Ao85 y295.length co85 : Value).ownBlock ∧ some k_ ≠ (v302 : Value).ownBlock) (fun _ => False) rfl rfl ?aO ?aR (fun _ _ h => h) (fun _ h => h.elim) ?aF ?aB ?aS ?aL ?_
         (case aR => exact uc (Kd.R_reads' HO297.out).2.2)
         (case aB => exact bl)
         (case aF => exact (fun k_ hk => ⟨Kd.fresh' (Kd.R_lt (up HO_292001.out)) k_ hk, Kd.fresh' (Kd.R_lt (up HO297.out)) k_ hk, Kd.fresh' (Kd.R_lt (up HO303.out)) k_ hk⟩))
         (case aO => exact (by exact up (Kd.R_mono HO_292000.out (fun _ hk => by first | exact ⟨hk.1.1, ⟨hk.1.2, hk.2⟩⟩ | (revert hk; simp only [and_imp]; intros; (repeat' (refine And.intro ?_ ?_)) <;> assumption)))))
         (case aS => exact (below_size bl))
         (case aL => have := LMc73.out; omega)
         intro v299 w84 ho hb hg hat
         rw [← Ny298.out] at ho
         replace HO_292001 := mk (Kd.R_after (ok := (fun k_ => some k_ ≠ (.slice Ao85 y295.length co85 : Value).ownBlock ∧ some k_ ≠ (v302 : Value).ownBlock)) (by exact up (Kd.R_mono HO_292001.out (fun _ hk => by first | exact ⟨⟨hk.1.2, hk.2⟩, hk.1.1⟩ | (revert hk; simp only [and_imp]; intros; (repeat' (refine And.intro ?_ ?_)) <;> assumption)))) hg hat)
         replace HO_292002 := mk (Kd.R_over' (up HO_292002.out) (Kd.R_typed (up HO_292000.out)) (by decide) hg)
         replace BK279 := mk (blk_grown (g := gb279) (o := .cells #[.slice A0_0 l0_0.length c0_0, .slice A0_1 l0_1.length c0_1, .slice A0_2 l0_2.length c0_2] 29 (0, 0)) (ub BK279.out) hg (Kd.R_ne HO_292000.out BK279.out (by decide)))
         replace BK280 := mk (blk_grown (g := gb280) (o := .cells #[.int .i64 a1_0, .int .i64 a1_1] 39 (0, 0)) (ub BK280.out) hg (Kd.R_ne HO_292000.out BK280.out (by decide)))
         replace BK281 := mk (blk_grown (g := gb281) (o := .cells #[.slice none 0 0, .slice none 0 0, .slice none 0 0] 29 (0, 0)) (ub BK281.out) hg (Kd.R_ne HO_292000.out BK281.out (by decide)))
         replace BK291 := mk (blk_grown (g := gb291) (o := .cells #[.slice Ao13 t282.length co13, .slice Ao18 t285.length co18, .slice Ao19 t288.length co19] 29 (0, 0)) (ub BK291.out) hg (Kd.R_ne HO_292000.out BK291.out (by decide)))
         replace HO297 := mk (Kd.R_after (ok := (fun k_ => some k_ ≠ (.slice Ao18 t285.length co18 : Value).ownBlock ∧ some k_ ≠ (v302 : Value).ownBlock)) (by exact up (Kd.R_mono HO297.out (fun _ hk => by first | exact ⟨⟨hk.1.2, hk.2⟩, hk.1.1.2⟩ | (revert hk; simp only [and_imp]; intros; (repeat' (refine And.intro ?_ ?_)) <;> assumption)))) hg hat)
         replace HO303 := mk (Kd.R_after (ok := (fun k_ => some k_ ≠ (.slice Ao18 t285.length co18 : Value).ownBlock ∧ some k_ ≠ (.slice Ao85 y295.length co85 : Value).ownBlock)) (by exact up (Kd.R_mono HO303.out (fun _ hk => by first | exact ⟨⟨hk.1.2, hk.2⟩, hk.1.1.2⟩ | (revert hk; simp only [and_imp]; intros; (repeat' (refine And.intro ?_ ?_)) <;> assumption)))) hg hat)
         replace HB := mk hb
         have HO300 := mk ho
         clear HO_292000
         clear ho hb hg hat
         refine hK.out _ _ ⟨(blk_cell BK291.out 0).trans rfl, (blk_cell BK291.out 1).trans rfl, (blk_cell BK291.out 2).trans rfl, (blk_cell BK280.out 0).trans rfl, (blk_cell BK280.out 1).trans rfl⟩ (fun hHeld => ?_)
         clear hK K
         refine nm 44 ?_
         exact norm_ (by simp only [putAll, Act.put, List.setIfInBounds_toArray, List.set_cons_zero, List.set_cons_succ]) (hCont (.slice Ao85 y295.length co85, v299, v302) _ ⟨hHeld, (by exact up (Kd.R_mono HO297.out (fun _ hk => by first | exact ⟨hk.2, ⟨hk.1.2, hk.1.1⟩⟩ | (revert hk; simp only [and_imp]; intros; (repeat' (refine And.intro ?_ ?_)) <;> assumption)))), (by exact up (Kd.R_mono HO300.out (fun _ hk => by first | exact ⟨hk.2.1, ⟨hk.2.2, hk.1⟩⟩ | (revert hk; simp only [and_imp]; intros; (repeat' (refine And.intro ?_ ?_)) <;> assumption)))), (by exact up (Kd.R_mono HO303.out (fun _ hk => by first | exact ⟨hk.1.2, ⟨hk.2, hk.1.1⟩⟩ | (revert hk; simp only [and_imp]; intros; (repeat' (refine And.intro ?_ ?_)) <;> assumption)))), (by exact up (Kd.R_mono HO_292001.out (fun _ hk => by first | exact ⟨hk.1.1, ⟨hk.2, hk.1.2⟩⟩ | (revert hk; simp only [and_imp]; intros; (repeat' (refine And.intro ?_ ?_)) <;> assumption)))), (up HO_292002.out), (ub BK279.out), (ub BK280.out), (ub BK281.out), (ub BK291.out), bl⟩)
       ·skip
        refine Kd.R_lit_step (Kd.int .i64) _ 3 ?hg (N := 49) ?hd (xs := ([a1_1] : List Int)) (inner := [.int .i64 a1_1]) (ok := fun _ => True) (okp := fun _ => True) ?hr ?hp (fun _ hk => hk) trivial (Below.refl _ _) (Nat.le_refl _) (by simp) ?_; (case hd => rfl); (case hg => rfl); (case hr => first | (go_simp; done) | (go_simp; rfl)); (case hp => exact (Reps.one (show Kd.M (Kd.int .i64) _ _ _ a1_1 [.int .i64 a1_1] from rfl) (Reps.none _ _)))
        intro v302 w80 ho81 hb hg_ hnew_
        clear hg_ hnew_
        (first | rw [← Ny301.out] at ho81 | (simp only [Int.reduceToNat] at ho81; rw [← Ny301.out] at ho81))
        replace HO_292002 := mk (Kd.R_below (up HO_292002.out) hb)
        have HO303 := mk (Kd.R_lower (Kd.R_new' (Kd.R_new' ho81 (Kd.R_lt (up HO_292000.out))) (Kd.R_lt (up HO_292001.out))) (below_size bl))
        replace HO_292000 := mk (Kd.R_elder' (up HO_292000.out) (Kd.R_base ho81) hb)
        replace HO_292001 := mk (Kd.R_elder' (up HO_292001.out) (Kd.R_base ho81) hb)
        replace BK279 := wb BK279 hb
        replace BK280 := wb BK280 hb
        replace BK281 := wb BK281 hb
        replace BK291 := wb BK291 hb
        replace HB := wh hb
        clear hb ho81
        refine hK.out _ _ ⟨(blk_cell BK291.out 0).trans rfl, (blk_cell BK291.out 1).trans rfl, (blk_cell BK291.out 2).trans rfl, (blk_cell BK280.out 0).trans rfl, (blk_cell BK280.out 1).trans rfl⟩ (fun hHeld => ?_)
        clear hK K
        refine nm 49 ?_
        refine on 4 43 #[T_,T_,T_,T_,T_,F_,T_,T_,T_,T_,T_,F_,F_,F_,F_,F_] (fun K hK => ?_)
        refine Kd.R_lit_step (Kd.int .i64) _ 3 ?hg (N := 43) ?hd (xs := ([a1_0] : List Int)) (inner := [.int .i64 a1_0]) (ok := fun _ => True) (okp := fun _ => True) ?hr ?hp (fun _ hk => hk) trivial (Below.refl _ _) (Nat.le_refl _) (by simp) ?_; (case hd => rfl); (case hg => rfl); (case hr => first | (go_simp; done) | (go_simp; rfl)); (case hp => exact (Reps.one (show Kd.M (Kd.int .i64) _ _ _ a1_0 [.int .i64 a1_0] from rfl) (Reps.none _ _)))
        intro v296 w82 ho83 hb hg_ hnew_
        clear hg_ hnew_
        (first | rw [← Ny295.out] at ho83 | (simp only [Int.reduceToNat] at ho83; rw [← Ny295.out] at ho83))
        replace HO_292002 := mk (Kd.R_below (up HO_292002.out) hb)
        have HO297 := mk (Kd.R_lower (Kd.R_new' (Kd.R_new' (Kd.R_new' ho83 (Kd.R_lt (up HO_292000.out))) (Kd.R_lt (up HO_292001.out))) (Kd.R_lt (up HO303.out))) (below_size bl))
        replace HO_292000 := mk (Kd.R_elder' (up HO_292000.out) (Kd.R_base ho83) hb)
        replace HO_292001 := mk (Kd.R_elder' (up HO_292001.out) (Kd.R_base ho83) hb)
        replace HO303 := mk (Kd.R_elder' (up HO303.out) (Kd.R_base ho83) hb)
        replace BK279 := wb BK279 hb
        replace BK280 := wb BK280 hb
        replace BK281 := wb BK281 hb
        replace BK291 := wb BK291 hb
        replace HB := wh hb
        clear hb ho83
        obtain ⟨Ao85, co85, eo85⟩ := Kd.R_slice HO297.out
        (first | subst eo85 | (injection eo85 with f1_ f2_ f3_; have f4_ := f1_.symm; have f5_ := f3_.symm; clear f1_ f2_ f3_; subst f4_; subst f5_))
        refine hK.out _ _ ⟨(blk_cell BK291.out 0).trans rfl, (blk_cell BK291.out 1).trans rfl, (blk_cell BK291.out 2).trans rfl, (blk_cell BK280.out 0).trans rfl, (blk_cell BK280.out 1).trans rfl⟩ (fun hHeld => ?_)
        clear hK K
        refine nm 43 ?_
        refine on 5 44 (tf 11 5) (fun K hK => ?_)
        refine Kd.R_append_rows_step (Kd.int .i64) (w0 := w) w.heap.size (by rfl) (.tmp 40) (.tmp 43) 22 3 (.int .i64 0) 8 rfl Try.underlying22 info3 rfl (by decide) (by omega) (.slice Ao13 t282.length co13) t282 y295 _ _ _ (fun k_ => some k_ ≠ (.slice Ao18 t285.length co18 : Value).ownBlock ∧ some k_ ≠ (v302 : Value).ownBlock ∧ some k_ ≠ (.slice Ao85 y295.length co85 : Value).ownBlock) (fun _ => False) rfl rfl ?aO ?aR (fun _ _ h => h) (fun _ h => h.elim) ?aF ?aB ?aS ?aL ?_
        (case aR => exact uc (Kd.R_reads' HO297.out).2.2)
        (case aB => exact bl)
        (case aF => exact (fun k_ hk => ⟨Kd.fresh' (Kd.R_lt (up HO_292001.out)) k_ hk, Kd.fresh' (Kd.R_lt (up HO303.out)) k_ hk, Kd.fresh' (Kd.R_lt (up HO297.out)) k_ hk⟩))
        (case aO => exact (by exact up (Kd.R_mono HO_292000.out (fun _ hk => by first | exact ⟨hk.1.1, ⟨hk.1.2, hk.2⟩⟩ | (revert hk; simp only [and_imp]; intros; (repeat' (refine And.intro ?_ ?_)) <;> assumption)))))
        (case aS => exact (below_size bl))
        (case aL => have := LMc73.out; omega)
        intro v299 w84 ho hb hg hat
        rw [← Ny298.out] at ho
        replace HO_292001 := mk (Kd.R_after (ok := (fun k_ => some k_ ≠ (v302 : Value).ownBlock ∧ some k_ ≠ (.slice Ao85 y295.length co85 : Value).ownBlock)) (by exact up (Kd.R_mono HO_292001.out (fun _ hk => by first | exact ⟨⟨hk.1.2, hk.2⟩, hk.1.1⟩ | (revert hk; simp only [and_imp]; intros; (repeat' (refine And.intro ?_ ?_)) <;> assumption)))) hg hat)
        replace HO_292002 := mk (Kd.R_over' (up HO_292002.out) (Kd.R_typed (up HO_292000.out)) (by decide) hg)
        replace BK279 := mk (blk_grown (g := gb279) (o := .cells #[.slice A0_0 l0_0.length c0_0, .slice A0_1 l0_1.length c0_1, .slice A0_2 l0_2.length c0_2] 29 (0, 0)) (ub BK279.out) hg (Kd.R_ne HO_292000.out BK279.out (by decide)))
        replace BK280 := mk (blk_grown (g := gb280) (o := .cells #[.int .i64 a1_0, .int .i64 a1_1] 39 (0, 0)) (ub BK280.out) hg (Kd.R_ne HO_292000.out BK280.out (by decide)))
        replace BK281 := mk (blk_grown (g := gb281) (o := .cells #[.slice none 0 0, .slice none 0 0, .slice none 0 0] 29 (0, 0)) (ub BK281.out) hg (Kd.R_ne HO_292000.out BK281.out (by decide)))
        replace BK291 := mk (blk_grown (g := gb291) (o := .cells #[.slice Ao13 t282.length co13, .slice Ao18 t285.length co18, .slice Ao19 t288.length co19] 29 (0, 0)) (ub BK291.out) hg (Kd.R_ne HO_292000.out BK291.out (by decide)))
        replace HO303 := mk (Kd.R_after (ok := (fun k_ => some k_ ≠ (.slice Ao18 t285.length co18 : Value).ownBlock ∧ some k_ ≠ (.slice Ao85 y295.length co85 : Value).ownBlock)) (by exact up (Kd.R_mono HO303.out (fun _ hk => by first | exact ⟨⟨hk.1.2, hk.2⟩, hk.1.1.2⟩ | (revert hk; simp only [and_imp]; intros; (repeat' (refine And.intro ?_ ?_)) <;> assumption)))) hg hat)
        replace HO297 := mk (Kd.R_after (ok := (fun k_ => some k_ ≠ (.slice Ao18 t285.length co18 : Value).ownBlock ∧ some k_ ≠ (v302 : Value).ownBlock)) (by exact up (Kd.R_mono HO297.out (fun _ hk => by first | exact ⟨⟨hk.1.2, hk.2⟩, hk.1.1.2⟩ | (revert hk; simp only [and_imp]; intros; (repeat' (refine And.intro ?_ ?_)) <;> assumption)))) hg hat)
        replace HB := mk hb
        have HO300 := mk ho
        clear HO_292000
        clear ho hb hg hat
        refine hK.out _ _ ⟨(blk_cell BK291.out 0).trans rfl, (blk_cell BK291.out 1).trans rfl, (blk_cell BK291.out 2).trans rfl, (blk_cell BK280.out 0).trans rfl, (blk_cell BK280.out 1).trans rfl⟩ (fun hHeld => ?_)
        clear hK K
        refine nm 44 ?_
        exact norm_ (by simp only [putAll, Act.put, List.setIfInBounds_toArray, List.set_cons_zero, List.set_cons_succ]) (hCont (.slice Ao85 y295.length co85, v299, v302) _ ⟨hHeld, (by exact up (Kd.R_mono HO297.out (fun _ hk => by first | exact ⟨hk.2, ⟨hk.1.2, hk.1.1⟩⟩ | (revert hk; simp only [and_imp]; intros; (repeat' (refine And.intro ?_ ?_)) <;> assumption)))), (by exact up (Kd.R_mono HO300.out (fun _ hk => by first | exact ⟨hk.2.2, ⟨hk.2.1, hk.1⟩⟩ | (revert hk; simp only [and_imp]; intros; (repeat' (refine And.intro ?_ ?_)) <;> assumption)))), (by exact up (Kd.R_mono HO303.out (fun _ hk => by first | exact ⟨hk.1.2, ⟨hk.2, hk.1.1⟩⟩ | (revert hk; simp only [and_imp]; intros; (repeat' (refine And.intro ?_ ?_)) <;> assumption)))), (by exact up (Kd.R_mono HO_292001.out (fun _ hk => by first | exact ⟨hk.1.2, ⟨hk.2, hk.1.1⟩⟩ | (revert hk; simp only [and_imp]; intros; (repeat' (refine And.intro ?_ ?_)) <;> assumption)))), (up HO_292002.out), (ub BK279.out), (ub BK280.out), (ub BK281.out), (ub BK291.out), bl⟩)
      rintro ⟨v296, v299, v302⟩ w86 ⟨hS_, h0_, h1_, h2_, h3_, h4_, h5_, h6_, h7_, h8_, h9_⟩
      have n0_ : Aside0 (Kd.R (Kd.int .i64) 3 w86 w.heap.size (fun k_ => some k_ ≠ (v299 : Value).ownBlock ∧ some k_ ≠ (v302 : Value).ownBlock ∧ some k_ ≠ (.slice Ao18 t285.length co18 : Value).ownBlock) v296 y295) := ⟨h0_⟩
      have n1_ : Aside0 (Kd.R (Kd.int .i64) 3 w86 w.heap.size (fun k_ => some k_ ≠ (v296 : Value).ownBlock ∧ some k_ ≠ (v302 : Value).ownBlock ∧ some k_ ≠ (.slice Ao18 t285.length co18 : Value).ownBlock) v299 y298) := ⟨h1_⟩
      have n2_ : Aside0 (Kd.R (Kd.int .i64) 3 w86 w.heap.size (fun k_ => some k_ ≠ (v296 : Value).ownBlock ∧ some k_ ≠ (v299 : Value).ownBlock ∧ some k_ ≠ (.slice Ao18 t285.length co18 : Value).ownBlock) v302 y301) := ⟨h2_⟩
      have n3_ : Aside0 (Kd.R (Kd.int .i64) 3 w86 w.heap.size (fun k_ => some k_ ≠ (v296 : Value).ownBlock ∧ some k_ ≠ (v299 : Value).ownBlock ∧ some k_ ≠ (v302 : Value).ownBlock) (.slice Ao18 t285.length co18) t285) := ⟨h3_⟩
      have n4_ : Aside0 (Kd.R k50 50 w86 w.heap.size (fun _ => True) (.slice Ao19 t288.length co19) t288) := ⟨h4_⟩
      have n5_ : Aside0 (w86.heap[gb279]? = some (.cells #[.slice A0_0 l0_0.length c0_0, .slice A0_1 l0_1.length c0_1, .slice A0_2 l0_2.length c0_2] 29 (0, 0))) := ⟨h5_⟩
      have n6_ : Aside0 (w86.heap[gb280]? = some (.cells #[.int .i64 a1_0, .int .i64 a1_1] 39 (0, 0))) := ⟨h6_⟩
      have n7_ : Aside0 (w86.heap[gb281]? = some (.cells #[.slice none 0 0, .slice none 0 0, .slice none 0 0] 29 (0, 0))) := ⟨h7_⟩
      have n8_ : Aside0 (w86.heap[gb291]? = some (.cells #[.slice Ao13 t282.length co13, .slice Ao18 t285.length co18, .slice Ao19 t288.length co19] 29 (0, 0))) := ⟨h8_⟩
      have n9_ : Aside0 (Below w.heap.size w w86) := ⟨h9_⟩
      clear HO_292000
      clear HO_292001
      clear HO_292002
      clear BK279
      clear BK280
      clear BK281
      clear BK291
      clear HB
      clear h0_ h1_ h2_ h3_ h4_ h5_ h6_ h7_ h8_ h9_
      have HO297 := n0_
      have HO300 := n1_
      have HO303 := n2_
      have HO_292001 := n3_
      have HO_292002 := n4_
      have BK279 := n5_
      have BK280 := n6_
      have BK281 := n7_
      have BK291 := n8_
      have HB := n9_
      clear n0_ n1_ n2_ n3_ n4_ n5_ n6_ n7_ n8_ n9_
      have hHeld : w86.cell? ⟨gb291, 0, none⟩ = some (.slice Ao13 t282.length co13) ∧ w86.cell? ⟨gb291, 1, none⟩ = some (.slice Ao18 t285.length co18) ∧ w86.cell? ⟨gb291, 2, none⟩ = some (.slice Ao19 t288.length co19) ∧ w86.cell? ⟨gb280, 0, none⟩ = some (.int .i64 a1_0) ∧ w86.cell? ⟨gb280, 1, none⟩ = some (.int .i64 a1_1) := hS_
      obtain ⟨Ao88, co88, eo88⟩ := Kd.R_slice HO303.out
      (first | subst eo88 | (injection eo88 with f1_ f2_ f3_; have f4_ := f1_.symm; have f5_ := f3_.symm; clear f1_ f2_ f3_; subst f4_; subst f5_))
      refine norm_ (a' := ?_) ?_ ?_
      rotate_left
      ·simp only [putAll, Act.put, List.setIfInBounds_toArray, List.set_cons_zero, List.set_cons_succ]
       rfl
      refine on 11 50 (tf 12 4) (fun K hK => ?_)
      refine Kd.R_append_rows_step (Kd.int .i64) (w0 := w) w.heap.size (by rfl) (.tmp 46) (.tmp 49) 22 3 (.int .i64 0) 8 rfl Try.underlying22 info3 rfl (by decide) (by omega) (.slice Ao18 t285.length co18) t285 y301 _ _ _ (fun k_ => some k_ ≠ (v296 : Value).ownBlock ∧ some k_ ≠ (v299 : Value).ownBlock ∧ some k_ ≠ (.slice Ao88 y301.length co88 : Value).ownBlock) (fun _ => False) rfl rfl ?aO ?aR (fun _ _ h => h) (fun _ h => h.elim) ?aF ?aB ?aS ?aL ?_
      (case aR => exact uc (Kd.R_reads' HO303.out).2.2)
      (case aB => exact bl)
      (case aF => exact (fun k_ hk => ⟨Kd.fresh' (Kd.R_lt (up HO297.out)) k_ hk, Kd.fresh' (Kd.R_lt (up HO300.out)) k_ hk, Kd.fresh' (Kd.R_lt (up HO303.out)) k_ hk⟩))
      (case aO => exact (up HO_292001.out))
      (case aS => exact (below_size bl))
      (case aL => have := LMc74.out; omega)
      intro v305 w87 ho hb hg hat
      rw [← Ny304.out] at ho
      replace HO_292002 := mk (Kd.R_over' (up HO_292002.out) (Kd.R_typed (up HO_292001.out)) (by decide) hg)
      replace BK279 := mk (blk_grown (g := gb279) (o := .cells #[.slice A0_0 l0_0.length c0_0, .slice A0_1 l0_1.length c0_1, .slice A0_2 l0_2.length c0_2] 29 (0, 0)) (ub BK279.out) hg (Kd.R_ne HO_292001.out BK279.out (by decide)))
      replace BK280 := mk (blk_grown (g := gb280) (o := .cells #[.int .i64 a1_0, .int .i64 a1_1] 39 (0, 0)) (ub BK280.out) hg (Kd.R_ne HO_292001.out BK280.out (by decide)))
      replace BK281 := mk (blk_grown (g := gb281) (o := .cells #[.slice none 0 0, .slice none 0 0, .slice none 0 0] 29 (0, 0)) (ub BK281.out) hg (Kd.R_ne HO_292001.out BK281.out (by decide)))
      replace BK291 := mk (blk_grown (g := gb291) (o := .cells #[.slice Ao13 t282.length co13, .slice Ao18 t285.length co18, .slice Ao19 t288.length co19] 29 (0, 0)) (ub BK291.out) hg (Kd.R_ne HO_292001.out BK291.out (by decide)))
      replace HO297 := mk (Kd.R_after (ok := (fun k_ => some k_ ≠ (v299 : Value).ownBlock ∧ some k_ ≠ (.slice Ao88 y301.length co88 : Value).ownBlock)) (by exact up (Kd.R_mono HO297.out (fun _ hk => by first | exact ⟨⟨hk.1, hk.2.1⟩, hk.2.2⟩ | (revert hk; simp only [and_imp]; intros; (repeat' (refine And.intro ?_ ?_)) <;> assumption)))) hg hat)
      replace HO300 := mk (Kd.R_after (ok := (fun k_ => some k_ ≠ (v296 : Value).ownBlock ∧ some k_ ≠ (.slice Ao88 y301.length co88 : Value).ownBlock)) (by exact up (Kd.R_mono HO300.out (fun _ hk => by first | exact ⟨⟨hk.1, hk.2.1⟩, hk.2.2⟩ | (revert hk; simp only [and_imp]; intros; (repeat' (refine And.intro ?_ ?_)) <;> assumption)))) hg hat)
      replace HO303 := mk (Kd.R_after (ok := (fun k_ => some k_ ≠ (v296 : Value).ownBlock ∧ some k_ ≠ (v299 : Value).ownBlock)) (by exact up (Kd.R_mono HO303.out (fun _ hk => by first | exact ⟨⟨hk.1, hk.2.1⟩, hk.2.2⟩ | (revert hk; simp only [and_imp]; intros; (repeat' (refine And.intro ?_ ?_)) <;> assumption)))) hg hat)
      replace HB := mk hb
      have HO306 := mk ho
      clear HO_292001
      clear ho hb hg hat
      obtain ⟨Ao89, co89, eo89⟩ := Kd.R_slice HO300.out
      (first | subst eo89 | (injection eo89 with f1_ f2_ f3_; have f4_ := f1_.symm; have f5_ := f3_.symm; clear f1_ f2_ f3_; subst f4_; subst f5_))
      obtain ⟨Ao91, co91, eo91⟩ := Kd.R_slice HO306.out
      (first | subst eo91 | (injection eo91 with f1_ f2_ f3_; have f4_ := f1_.symm; have f5_ := f3_.symm; clear f1_ f2_ f3_; subst f4_; subst f5_))
      refine hK.out _ _ ⟨(blk_cell BK291.out 0).trans rfl, (blk_cell BK291.out 1).trans rfl, (blk_cell BK291.out 2).trans rfl, (blk_cell BK280.out 0).trans rfl, (blk_cell BK280.out 1).trans rfl⟩ (fun hHeld => ?_)
      clear hK K
      refine nm 50 ?_
      refine pu 12 51 (tf 13 3) ?_
      refine last_ (i := 13) (N := none) #[T_, T_, T_, T_, T_, T_, T_, T_, T_, T_, T_, T_, T_, T_, F_, F_] rfl rfl (one_of HT_.out (by kernel_rfl)) (by decide) (fun K hK => ?_)
      have hs90 : w87.cell? ⟨gb291, 0, none⟩ = some (.slice Ao13 t282.length co13) := (blk_cell BK291.out 0).trans rfl
      have hfs90 := blk_frozen BK291.out 0
      have hns90_0 := NB279_291.out
      have hns90_1 := NB280_291.out
      have hns90_2 := NB281_291.out
      have hms90_0 := NB291_279.out
      have hms90_1 := NB291_280.out
      have hms90_2 := NB291_281.out
      refine skip_ (w1 := ?_) (by rfl) rfl ?_ ?_
      rotate_left
      ·go_simp
       rfl
      refine hK.out _ _ ?_
      clear hK K
      refine pu 14 52 (tf 15 1) ?_
      refine last_ (i := 15) (N := none) #[T_, T_, T_, T_, T_, T_, T_, T_, T_, T_, T_, T_, T_, T_, T_, T_] rfl rfl (one_of HT_.out (by kernel_rfl)) (by decide) (fun K hK => ?_)
      have hs92 : w87.cell? ⟨gb291, 1, none⟩ = some (.slice Ao18 t285.length co18) := (blk_cell BK291.out 1).trans rfl
      have hfs92 := blk_frozen BK291.out 1
      have hns92_0 := NB279_291.out
      have hns92_1 := NB280_291.out
      have hns92_2 := NB281_291.out
      have hms92_0 := NB291_279.out
      have hms92_1 := NB291_280.out
      have hms92_2 := NB291_281.out
      refine skip_ (w1 := ?_) (by rfl) rfl ?_ ?_
      rotate_left
      ·go_simp
       rfl
      refine hK.out _ _ ?_
      clear hK K
      refine done_ (done_of HT_.out (by kernel_rfl)) ?_
      have hnb93 := NB291_280.out
      have hnc93 := NB280_291.out
      have hnb94 := NB291_281.out
      have hnc94 := NB281_291.out
      obtain ⟨hcz95_0, hcz95_1, hcz95_2, hfz95_0, hfz95_1, hfz95_2⟩ := bz3 BK291
      try go_wp2
      go_loopg [8, 9, 10] kj3 (fun kq v8 v9 v10 w' => ∃ (x8_2 : Int) (x9_2 : Int) (x10_2 : Int) (x292000_2 : List Int) (x292001_2 : List Int) (x292002_2 : List (S50)) (u292000 : Value) (u292001 : Value) (u292002 : Value), v8 = .int .i64 x8_2 ∧ v9 = .int .i64 x9_2 ∧ v10 = .int .i64 x10_2 ∧ Aside0 (impl_RippleInsert.l0 kq x8_2 x9_2 x10_2 a1_0 a1_1 x292000_2 x292001_2 x292002_2 = some (r1, r2, r3, r4, r5)) ∧ Aside0 (kq ≤ kj3) ∧ Aside0 (Kd.R (Kd.int .i64) 3 w' w.heap.size (fun k_ => some k_ ≠ (u292001 : Value).ownBlock) u292000 x292000_2) ∧ Aside0 (Kd.R (Kd.int .i64) 3 w' w.heap.size (fun k_ => some k_ ≠ (u292000 : Value).ownBlock) u292001 x292001_2) ∧ Aside0 (Kd.R k50 50 w' w.heap.size (fun _ => True) u292002 x292002_2) ∧ Aside0 (w'.heap[gb279]? = some (.cells #[(.slice A0_0 l0_0.length c0_0), (.slice A0_1 l0_1.length c0_1), (.slice A0_2 l0_2.length c0_2)] 29 (0, 0))) ∧ Aside0 (w'.heap[gb280]? = some (.cells #[.int .i64 a1_0, .int .i64 a1_1] 39 (0, 0))) ∧ Aside0 (w'.heap[gb281]? = some (.cells #[(.slice none 0 0), (.slice none 0 0), (.slice none 0 0)] 29 (0, 0))) ∧ Aside0 (w'.heap[gb291]? = some (.cells #[u292000, u292001, u292002] 29 (0, 0))) ∧ Aside0 (Below w.heap.size w w'))
      case atStart => exact ⟨((l0_0.length : Int)), (0), (wrap64 ((t288.length : Int) - 1)), (y298), (y304), (t288), (.slice Ao89 y298.length co89), (.slice Ao91 y304.length co91), (.slice Ao19 t288.length co19), (by first | rfl | (simp; done) | (simp [*]; done)), (by first | rfl | (simp; done) | (simp [*]; done)), (by first | rfl | (simp; done) | (simp [*]; done)), H', ⟨Nat.le_refl _⟩, ⟨(by exact rm (rs1 HO300 BK291))⟩, ⟨(by exact rm (rs1 HO306 BK291))⟩, ⟨(by exact rm (rs1 HO_292002 BK291))⟩, ⟨bq⟩, ⟨bq⟩, ⟨bq⟩, ⟨bq⟩, ⟨bl⟩⟩
      case round =>
       clear H'
       try clear p2
       try clear p6
       try clear c7
       try clear c9
       try clear p64
       try clear c73
       try clear c74
       try clear c93
       try clear c94
       try clear hcz95_0
       try clear hcz95_1
       try clear hcz95_2
       try clear hfz95_0
       try clear hfz95_1
       try clear hfz95_2
       obtain ⟨x8_2, x9_2, x10_2, x292000_2, x292001_2, x292002_2, u292000, u292001, u292002, rfl, rfl, rfl, HA, HK2, HO_292000, HO_292001, HO_292002, BK279, BK280, BK281, BK291, HB⟩ := hrel
       cases gk with
       | zero => exact absurd HA.out (by simp [impl_RippleInsert.l0])
       | succ k2 =>
        have H := HA.out
        clear HA
        simp only [impl_RippleInsert.l0] at H
        by_cases c96 : x10_2 ≥ 0
        ·rw [if_pos c96] at H
         have c96b0 : decide (0 ≤ x10_2) = true := decide_eq_true c96
         clear c96
         by_cases c97 : 0 ≤ x10_2
         ·rw [if_pos c97] at H
          have c97b0 : decide (0 ≤ x10_2) = true := decide_eq_true c97
          clear c97
          by_cases c98 : x10_2 < (x292002_2.length : Int)
          ·rw [if_pos c98] at H
           have c98b0 : decide (x10_2 < (x292002_2.length : Int)) = true := decide_eq_true c98
           clear c98
           by_cases c99 : ((rd_T50 x292002_2 x10_2).f0) > a1_0
           ·rw [if_pos c99] at H
            have c99b0 : decide (a1_0 < ((rd_T50 x292002_2 x10_2).f0)) = true := decide_eq_true c99
            clear c99
            by_cases c100 : 0 ≤ ((rd_T50 x292002_2 x10_2).f1)
            ·rw [if_pos c100] at H
             have c100b0 : decide (0 ≤ ((rd_T50 x292002_2 x10_2).f1)) = true := decide_eq_true c100
             clear c100
             by_cases c101 : ((rd_T50 x292002_2 x10_2).f1) < (x292000_2.length : Int)
             ·rw [if_pos c101] at H
              have c101b0 : decide (((rd_T50 x292002_2 x10_2).f1) < (x292000_2.length : Int)) = true := decide_eq_true c101
              clear c101
              by_cases c102 : 0 ≤ x8_2
              ·rw [if_pos c102] at H
               have c102b0 : decide (0 ≤ x8_2) = true := decide_eq_true c102
               clear c102
               by_cases c103 : x8_2 < (x292000_2.length : Int)
               ·rw [if_pos c103] at H
                have c103b0 : decide (x8_2 < (x292000_2.length : Int)) = true := decide_eq_true c103
                clear c103
                obtain ⟨y310, hy310⟩ : ∃ y_ : List Int, y_ = (x292000_2.set (x8_2 : Int).toNat (rd x292000_2 ((rd_T50 x292002_2 x10_2).f1))) := ⟨_, rfl⟩
                replace H : (if ((rd_T50 x292002_2 x10_2).f1) < (x292001_2.length : Int) then (if x8_2 < (x292001_2.length : Int) then ((impl_Cracker_put.f x8_2 ((rd_T50 x292002_2 x10_2).f1)).bind fun t313 => (impl_RippleInsert.l0 k2 ((rd_T50 x292002_2 x10_2).f1) (wrap64 (x9_2 + t313)) (wrap64 (x10_2 - 1)) a1_0 a1_1 y310 (x292001_2.set (x8_2 : Int).toNat (rd x292001_2 ((rd_T50 x292002_2 x10_2).f1))) (x292002_2.set (x10_2 : Int).toNat (⟨(rd_T50 x292002_2 x10_2).f0, wrap64 (((rd_T50 x292002_2 x10_2).f1) + 1)⟩ : S50)))) else (none)) else (none)) = some (r1, r2, r3, r4, r5) := by first | (rw [hy310]; with_reducible exact H) | (have H2_ := (Option.bind_some _ _).symm.trans H; rw [hy310]; with_reducible exact H2_) | (have H2_ := (Option.bind_some _ _).symm.trans H; with_reducible exact H2_) | with_reducible exact H | (rw [hy310]; exact H) | exact H
                have Ny310 := Aside0.mk hy310
                clear hy310
                by_cases c105 : ((rd_T50 x292002_2 x10_2).f1) < (x292001_2.length : Int)
                ·rw [if_pos c105] at H
                 have c105b0 : decide (((rd_T50 x292002_2 x10_2).f1) < (x292001_2.length : Int)) = true := decide_eq_true c105
                 clear c105
                 by_cases c106 : x8_2 < (x292001_2.length : Int)
                 ·rw [if_pos c106] at H
                  have c106b0 : decide (x8_2 < (x292001_2.length : Int)) = true := decide_eq_true c106
                  clear c106
                  obtain ⟨y312, hy312⟩ : ∃ y_ : List Int, y_ = (x292001_2.set (x8_2 : Int).toNat (rd x292001_2 ((rd_T50 x292002_2 x10_2).f1))) := ⟨_, rfl⟩
                  replace H : ((impl_Cracker_put.f x8_2 ((rd_T50 x292002_2 x10_2).f1)).bind fun t313 => (impl_RippleInsert.l0 k2 ((rd_T50 x292002_2 x10_2).f1) (wrap64 (x9_2 + t313)) (wrap64 (x10_2 - 1)) a1_0 a1_1 y310 y312 (x292002_2.set (x10_2 : Int).toNat (⟨(rd_T50 x292002_2 x10_2).f0, wrap64 (((rd_T50 x292002_2 x10_2).f1) + 1)⟩ : S50)))) = some (r1, r2, r3, r4, r5) := by first | (rw [hy312]; with_reducible exact H) | (have H2_ := (Option.bind_some _ _).symm.trans H; rw [hy312]; with_reducible exact H2_) | (have H2_ := (Option.bind_some _ _).symm.trans H; with_reducible exact H2_) | with_reducible exact H | (rw [hy312]; exact H) | exact H
                  have Ny312 := Aside0.mk hy312
                  clear hy312
                  revert H; refine bo ?_; rintro t313 A108 H
                  obtain ⟨y315, hy315⟩ : ∃ y_ : List (S50), y_ = (x292002_2.set (x10_2 : Int).toNat (⟨(rd_T50 x292002_2 x10_2).f0, wrap64 (((rd_T50 x292002_2 x10_2).f1) + 1)⟩ : S50)) := ⟨_, rfl⟩
                  replace H : (impl_RippleInsert.l0 k2 ((rd_T50 x292002_2 x10_2).f1) (wrap64 (x9_2 + t313)) (wrap64 (x10_2 - 1)) a1_0 a1_1 y310 y312 y315) = some (r1, r2, r3, r4, r5) := by first | (rw [hy315]; with_reducible exact H) | (have H2_ := (Option.bind_some _ _).symm.trans H; rw [hy315]; with_reducible exact H2_) | (have H2_ := (Option.bind_some _ _).symm.trans H; with_reducible exact H2_) | with_reducible exact H | (rw [hy315]; exact H) | exact H
                  have Ny315 := Aside0.mk hy315
                  clear hy315
                  have H' := Aside0.mk H
                  clear H
                  try go_wp2
                  replace HO_292000 := mk (Kd.R_drew HO_292000.out)
                  replace HO_292001 := mk (Kd.R_drew HO_292001.out)
                  replace HO_292002 := mk (Kd.R_drew HO_292002.out)
                  replace BK279 := wd BK279
                  replace BK280 := wd BK280
                  replace BK281 := wd BK281
                  replace BK291 := wd BK291
                  replace HB := mk (below_drew1 HB.out)
                  obtain ⟨Ao111, co111, eo111⟩ := Kd.R_slice HO_292002.out
                  (first | subst eo111 | (injection eo111 with f1_ f2_ f3_; have f4_ := f1_.symm; have f5_ := f3_.symm; clear f1_ f2_ f3_; subst f4_; subst f5_))
                  have p307 : 0 ≤ (x10_2 : Int) := of_decide_eq_true (by first | (with_reducible assumption) | assumption)
                  have q307 : x10_2 < (x292002_2.length : Int) := of_decide_eq_true (by first | (with_reducible assumption) | assumption)
                  obtain ⟨ad307, e307, hx307_0, hx307_1⟩ := at_T50 (Kd.R_reads' HO_292002.out).2.2 x10_2 p307 q307
                  cases e307
                  replace p307 := eq_true p307
                  replace q307 := eq_true q307
                  refine start_ (n := 13) (S := fun w' => w'.cell? ⟨gb291, 0, none⟩ = some (u292000) ∧ w'.cell? ⟨gb291, 1, none⟩ = some (u292001) ∧ w'.cell? ⟨gb291, 2, none⟩ = some (.slice (some ad307) x292002_2.length co111) ∧ w'.cell? ⟨gb280, 0, none⟩ = some (.int .i64 a1_0) ∧ w'.cell? ⟨gb280, 1, none⟩ = some (.int .i64 a1_1) ∧ w'.cell? (ad307.add ((x10_2).toNat * 2)) = some (.int .i64 ((rd_T50 x292002_2 x10_2).f0)) ∧ w'.cell? ⟨(ad307.add ((x10_2).toNat * 2)).block, (ad307.add ((x10_2).toNat * 2)).off + 1, none⟩ = some (.int .i64 ((rd_T50 x292002_2 x10_2).f1))) (ds := []) #[F_, F_, F_, F_, F_, F_, F_, F_, F_, F_, F_, F_, F_] (by kernel_rfl) rfl rfl ⟨(blk_cell BK291.out 0).trans rfl, (blk_cell BK291.out 1).trans rfl, (blk_cell BK291.out 2).trans rfl, (blk_cell BK280.out 0).trans rfl, (blk_cell BK280.out 1).trans rfl, hx307_0, hx307_1⟩ (fun hHeld => ?_); refine with_tabW impl_RippleInsert.tab7 impl_RippleInsert.bits7 (fun HT_ HW_ => ?_)
                  generalize wr.drew = w110 at HO_292000 HO_292001 HO_292002 BK279 BK280 BK281 BK291 HB hx307_0 hx307_1 hHeld ⊢
                  refine pu 0 57 (tf 1 12) ?_
                  refine pu 1 58 (tf 2 11) ?_
                  refine pu 2 59 (tf 3 10) ?_
                  refine pu 3 60 (tf 4 9) ?_
                  refine pu 5 62 #[T_,T_,T_,T_,F_,T_,F_,F_,F_,F_,F_,F_,F_] ?_
                  refine pu 9 66 #[T_,T_,T_,T_,F_,T_,F_,F_,F_,T_,F_,F_,F_] ?_
                  refine tk 4 61 #[T_,T_,T_,T_,T_,T_,F_,F_,F_,T_,F_,F_,F_] hHeld ?_
                  refine pu 6 63 #[T_,T_,T_,T_,T_,T_,T_,F_,F_,T_,F_,F_,F_] ?_
                  refine pu 7 64 #[T_,T_,T_,T_,T_,T_,T_,T_,F_,T_,F_,F_,F_] ?_
                  refine tk 8 65 (tf 10 3) hHeld ?_
                  refine tk 10 67 (tf 11 2) hHeld ?_
                  refine pu 11 68 (tf 12 1) ?_
                  refine pu 12 69 (tf 13 0) ?_
                  refine done_ (done_of HT_.out (by kernel_rfl)) ?_
                  have hnb112 := NB291_279.out
                  have hnc112 := NB279_291.out
                  have hnb113 := NB291_280.out
                  have hnc113 := NB280_291.out
                  have hnb114 := NB291_281.out
                  have hnc114 := NB281_291.out
                  obtain ⟨hcz115_0, hcz115_1, hcz115_2, hfz115_0, hfz115_1, hfz115_2⟩ := bz3 BK291
                  have p308 : 0 ≤ (x10_2 : Int) := of_decide_eq_true (by first | (with_reducible assumption) | assumption)
                  have q308 : x10_2 < (x292002_2.length : Int) := of_decide_eq_true (by first | (with_reducible assumption) | assumption)
                  obtain ⟨ad308, e308, hx308_0, hx308_1⟩ := at_T50 (Kd.R_reads' HO_292002.out).2.2 x10_2 p308 q308
                  obtain rfl : ad307 = ad308 := (by injection e308)
                  replace p308 := eq_true p308
                  replace q308 := eq_true q308
                  obtain ⟨Ao116, co116, eo116⟩ := Kd.R_slice HO_292000.out
                  subst eo116
                  have p309 : 0 ≤ (((rd_T50 x292002_2 x10_2).f1) : Int) := of_decide_eq_true (by first | (with_reducible assumption) | assumption)
                  have q309 : ((rd_T50 x292002_2 x10_2).f1) < (x292000_2.length : Int) := of_decide_eq_true (by first | (with_reducible assumption) | assumption)
                  obtain ⟨ad309, e309, hx309_0⟩ := Kd.at_int (Kd.R_reads' HO_292000.out).2.2 ((rd_T50 x292002_2 x10_2).f1) p309 q309
                  cases e309
                  replace p309 := eq_true p309
                  replace q309 := eq_true q309
                  have p104 : 0 ≤ (x8_2 : Int) := of_decide_eq_true (by first | (with_reducible assumption) | assumption)
                  have q104 : (x8_2 : Int) < ((x292000_2.length : Int) : Int) := of_decide_eq_true (by first | (with_reducible assumption) | assumption)
                  obtain ⟨go104, co104, eo104, gb104, gl104, cl104, HG104⟩ := Kd.R_form HO_292000.out (by omega)
                  (first | cases eo104 | (injection eo104 with ea_ en_ ec_; (first | subst ea_ | (injection ea_ with ea_; subst ea_)); subst ec_; clear en_))
                  have GB104 := Aside0.mk gb104
                  have GG104 := Aside0.mk HG104
                  clear gb104 gl104 HG104
                  (first | simp only [add_plain] at hx309_0 | skip)
                  obtain ⟨hx104_0, hf104_0⟩ := Kd.R_celln 0 HO_292000.out (x8_2 : Int) p104 q104
                  replace p104 := eq_true p104
                  replace q104 := eq_true q104
                  obtain ⟨hy117_, hz117_⟩ := Kd.R_celln 0 HO_292000.out (x8_2 : Int) (of_decide_eq_true (by first | (with_reducible assumption) | assumption)) (of_decide_eq_true (by first | (with_reducible assumption) | assumption))
                  have HP117 := Kd.R_putg HO_292000.out (x8_2 : Int) (rd x292000_2 ((rd_T50 x292002_2 x10_2).f1))
                  try go_wp2_with (first | ((with_reducible refine gate_callee (f := 33) rfl ?_); obtain ⟨Ao120, co120, eo120⟩ := Kd.R_slice HO_292001.out; subst eo120; have p311 : 0 ≤ (((rd_T50 x292002_2 x10_2).f1) : Int) := of_decide_eq_true (by first | (with_reducible assumption) | assumption); have q311 : ((rd_T50 x292002_2 x10_2).f1) < (x292001_2.length : Int) := of_decide_eq_true (by first | (with_reducible assumption) | assumption); obtain ⟨ad311, e311, hx311_0⟩ := Kd.at_int (Kd.R_reads' HO_292001.out).2.2 ((rd_T50 x292002_2 x10_2).f1) p311 q311; cases e311; replace p311 := eq_true p311; replace q311 := eq_true q311; have p107 : 0 ≤ (x8_2 : Int) := of_decide_eq_true (by first | (with_reducible assumption) | assumption); have q107 : (x8_2 : Int) < ((x292001_2.length : Int) : Int) := of_decide_eq_true (by first | (with_reducible assumption) | assumption); obtain ⟨go107, co107, eo107, gb107, gl107, cl107, HG107⟩ := Kd.R_form HO_292001.out (by omega); (first | cases eo107 | (injection eo107 with ea_ en_ ec_; (first | subst ea_ | (injection ea_ with ea_; subst ea_)); subst ec_; clear en_)); have GB107 := Aside0.mk gb107; have GG107 := Aside0.mk HG107; clear gb107 gl107 HG107; (first | simp only [add_plain] at hx311_0 | skip); obtain ⟨hx107_0, hf107_0⟩ := Kd.R_celln 0 HO_292001.out (x8_2 : Int) p107 q107; replace p107 := eq_true p107; replace q107 := eq_true q107; refine gl (some 81) rfl Try.func33 #[.pointer (some ⟨gb291, 0, none⟩), .int .i64 x8_2, .int .i64 ((rd_T50 x292002_2 x10_2).f1)] ?_; (with_reducible refine (impl_Cracker_put.callsS w _ gb291 (.slice (some ⟨go104, 0, none⟩) x292000_2.length co116) (.slice (some ⟨go107, 0, none⟩) x292001_2.length co120) (.slice (some ad307) x292002_2.length co111) x292000_2 x292001_2 _ x8_2 ((rd_T50 x292002_2 x10_2).f1) t313 bl ⟨ub BK291.out, GE291.out, up HO_292000.out, up HO_292001.out, up HO_292002.out⟩ (show 0 ≤ (x8_2 : Int) from (of_decide_eq_true (by first | (with_reducible assumption) | assumption))) (show (x8_2 : Int) < (x292000_2.length : Int) from (of_decide_eq_true (by first | (with_reducible assumption) | assumption))) (show (x8_2 : Int) < (x292001_2.length : Int) from (of_decide_eq_true (by first | (with_reducible assumption) | assumption))) (show 0 ≤ (((rd_T50 x292002_2 x10_2).f1) : Int) from (of_decide_eq_true (by first | (with_reducible assumption) | assumption))) (show (((rd_T50 x292002_2 x10_2).f1) : Int) < (x292000_2.length : Int) from (of_decide_eq_true (by first | (with_reducible assumption) | assumption))) (show (((rd_T50 x292002_2 x10_2).f1) : Int) < (x292001_2.length : Int) from (of_decide_eq_true (by first | (with_reducible assumption) | assumption))) A108.out).mono ?_); rintro e w123 ⟨rfl, hcs, hb, hfar⟩; refine ⟨_, rfl, ?_⟩; have n0_ := Aside0.mk (show Kd.R (Kd.int .i64) 3 w123 w.heap.size (fun k_ => True ∧ some k_ ≠ (.slice (some ⟨go107, 0, none⟩) x292001_2.length co120 : Value).ownBlock) (.slice (some ⟨go104, 0, none⟩) x292000_2.length co116) y310 from by rw [Ny310.out]; exact Kd.R_mono hcs.r0 (fun _ hk => ⟨trivial, hk⟩)); have n1_ := Aside0.mk (show Kd.R (Kd.int .i64) 3 w123 w.heap.size (fun k_ => some k_ ≠ (.slice (some ⟨go104, 0, none⟩) x292000_2.length co116 : Value).ownBlock) (.slice (some ⟨go107, 0, none⟩) x292001_2.length co120) y312 from by rw [Ny312.out]; exact hcs.r1); have n2_ := Aside0.mk (hcs.r2); have n3_ := Aside0.mk (hfar.at (ub BK279.out) (by decide)); have n4_ := Aside0.mk (hfar.at (ub BK280.out) (by decide)); have n5_ := Aside0.mk (hfar.at (ub BK281.out) (by decide)); have n6_ := Aside0.mk (hcs.blk); have n7_ := Aside0.mk (hb); have lyy310_ : y310.length = x292000_2.length := (by rw [Ny310.out, List.length_set]); have lyy312_ : y312.length = x292001_2.length := (by rw [Ny312.out, List.length_set]); clear HO_292000; clear HO_292001; clear HO_292002; clear BK279; clear BK280; clear BK281; clear BK291; clear HB; have HO_292000 := n0_; have HO_292001 := n1_; have HO_292002 := n2_; have BK279 := n3_; have BK280 := n4_; have BK281 := n5_; have BK291 := n6_; have HB := n7_; clear n0_ n1_ n2_ n3_ n4_ n5_ n6_ n7_; (try clear hb); (try clear hb2); (try clear hcs); (try clear hfar); obtain ⟨hcz124_0, hcz124_1, hcz124_2, hfz124_0, hfz124_1, hfz124_2⟩ := bz3 BK291; have p314 : 0 ≤ (x10_2 : Int) := of_decide_eq_true (by first | (with_reducible assumption) | assumption); have q314 : x10_2 < (x292002_2.length : Int) := of_decide_eq_true (by first | (with_reducible assumption) | assumption); obtain ⟨ad314, e314, hx314_0, hx314_1⟩ := at_T50 (Kd.R_reads' HO_292002.out).2.2 x10_2 p314 q314; obtain rfl : ad307 = ad314 := (by injection e314); replace p314 := eq_true p314; replace q314 := eq_true q314; have p109 : 0 ≤ (x10_2 : Int) := of_decide_eq_true (by first | (with_reducible assumption) | assumption); have q109 : (x10_2 : Int) < ((x292002_2.length : Int) : Int) := of_decide_eq_true (by first | (with_reducible assumption) | assumption); obtain ⟨go109, co109, eo109, gb109, gl109, cl109, HG109⟩ := Kd.R_form HO_292002.out (by omega); (first | cases eo109 | (injection eo109 with ea_ en_ ec_; (first | subst ea_ | (injection ea_ with ea_; subst ea_)); subst ec_; clear en_)); have GB109 := Aside0.mk gb109; have GG109 := Aside0.mk HG109; clear gb109 gl109 HG109; (first | simp only [add_plain] at hx307_0 | skip); (first | simp only [add_plain] at hx307_1 | skip); (first | simp only [add_plain] at hx308_0 | skip); (first | simp only [add_plain] at hx308_1 | skip); (first | simp only [add_plain] at hx314_0 | skip); (first | simp only [add_plain] at hx314_1 | skip); obtain ⟨ce109, hcl109, hM109, hcc109, hfr109⟩ := Kd.R_elem HO_292002.out z50 (x10_2 : Int) p109 q109; obtain rfl := k50_openM hM109; have hx109_0 : w123.cell? ⟨go109, (x10_2 : Int).toNat * 2, none⟩ = some (.int .i64 ((rd_T50 x292002_2 x10_2).f0)) := hcc109 0 _ rfl; have hx109_1 : w123.cell? ⟨go109, (x10_2 : Int).toNat * 2 + 1, none⟩ = some (.int .i64 ((rd_T50 x292002_2 x10_2).f1)) := hcc109 1 _ rfl; have hf109_0 : w123.frozen? ⟨go109, (x10_2 : Int).toNat * 2, none⟩ = false := hfr109 0; have hf109_1 : w123.frozen? ⟨go109, (x10_2 : Int).toNat * 2 + 1, none⟩ = false := hfr109 1; clear hcl109 hcc109 hfr109 hM109; replace p109 := eq_true p109; replace q109 := eq_true q109; have HX125 := Aside0.mk (show Kd.R k50 50 w123 w.heap.size (fun _ => True) (.slice (some ⟨go109, 0, none⟩) x292002_2.length co111) x292002_2 from (up HO_292002.out)); obtain ⟨ce125, hcl125, hM125, hcc125, hfr125⟩ := Kd.R_elem HX125.out z50 (x10_2 : Int) (of_decide_eq_true (by first | (with_reducible assumption) | assumption)) (by have h_ : (x10_2 : Int) < ((x292002_2.length : Int) : Int) := of_decide_eq_true (by first | (with_reducible assumption) | assumption); first | exact h_ | (have e_ := (Kd.R_reads' HO_292002.out).1; omega) | simpa using h_); obtain rfl := k50_openM hM125; have HP125 := Kd.R_seg HX125.out (x10_2 : Int) (of_decide_eq_true (by first | (with_reducible assumption) | assumption)) (by have h_ : (x10_2 : Int) < ((x292002_2.length : Int) : Int) := of_decide_eq_true (by first | (with_reducible assumption) | assumption); first | exact h_ | (have e_ := (Kd.R_reads' HO_292002.out).1; omega) | simpa using h_) (seg := [.int .i64 (wrap64 (((rd_T50 x292002_2 x10_2).f1) + 1))]) (j := 1) hcl125 hcc125 (show 2 ≤ 2 from by decide) (x' := (⟨(rd_T50 x292002_2 x10_2).f0, wrap64 (((rd_T50 x292002_2 x10_2).f1) + 1)⟩ : S50)) (k50_mkM _ _ _ (⟨(rd_T50 x292002_2 x10_2).f0, wrap64 (((rd_T50 x292002_2 x10_2).f1) + 1)⟩ : S50) ) (fun _ hk => hk); have hx125_1 := hcc125 1 _ rfl; (try simp only [show (k50).sz = 2 from rfl, Nat.mul_one, Nat.add_zero] at hx125_1); have hf125_1 := hfr125 1; (try simp only [show (k50).sz = 2 from rfl, Nat.mul_one, Nat.add_zero] at hf125_1); clear hcl125 hcc125 hfr125 hM125) | ((with_reducible refine gate_store (t := 3) (p := 92) rfl ?_); refine store_event (t := 3) (p := 92) (v := ?vo_w126) (w1 := (w123.setCell ⟨go109, (x10_2 : Int).toNat * 2 + 1, none⟩ (.int .i64 (wrap64 (((rd_T50 x292002_2 x10_2).f1) + 1))))) ?hg ?ho ?hn ?hr ?_; (case ho => rfl); (case hg => rfl); (case hn => rfl); (case hr => first | (go_simp; done) | (go_simp; rfl)); intro w126 hw; have hg : w123.grownBy w126 (some go109) := (by rw [hw]; exact HP125.2); have hp_ : Kd.R k50 50 w126 w.heap.size (fun _ => True) (.slice (some ⟨go109, 0, none⟩) x292002_2.length co111) y315 := (by rw [hw, Ny315.out]; exact HP125.1); clear HP125; replace HO_292000 := mk (Kd.R_over' (v := (.slice (some ⟨go109, 0, none⟩) x292002_2.length co111)) (up HO_292000.out) (Kd.R_typed HO_292002.out) (by decide) hg); replace HO_292001 := mk (Kd.R_over' (v := (.slice (some ⟨go109, 0, none⟩) x292002_2.length co111)) (up HO_292001.out) (Kd.R_typed HO_292002.out) (by decide) hg); replace BK279 := mk (blk_grown (g := gb279) (o := .cells #[.slice A0_0 l0_0.length c0_0, .slice A0_1 l0_1.length c0_1, .slice A0_2 l0_2.length c0_2] 29 (0, 0)) (ub BK279.out) hg (Kd.R_ne HO_292002.out BK279.out (by decide))); replace BK280 := mk (blk_grown (g := gb280) (o := .cells #[.int .i64 a1_0, .int .i64 a1_1] 39 (0, 0)) (ub BK280.out) hg (Kd.R_ne HO_292002.out BK280.out (by decide))); replace BK281 := mk (blk_grown (g := gb281) (o := .cells #[.slice none 0 0, .slice none 0 0, .slice none 0 0] 29 (0, 0)) (ub BK281.out) hg (Kd.R_ne HO_292002.out BK281.out (by decide))); replace BK291 := mk (blk_grown (g := gb291) (o := .cells #[.slice (some ⟨go104, 0, none⟩) x292000_2.length co116, .slice (some ⟨go107, 0, none⟩) x292001_2.length co120, .slice (some ⟨go109, 0, none⟩) x292002_2.length co111] 29 (0, 0)) (ub BK291.out) hg (Kd.R_ne HO_292002.out BK291.out (by decide))); replace HO_292002 := mk hp_; replace HB := mk ((by rw [hw]; exact below_set (HB.out) GB109.out : Below w.heap.size w w126)); clear hg hw hp_))
                  go_roundg k2
                  case measure => have := HJ3.out; have := HK2.out; omega
                  case rel => exact ⟨((rd_T50 x292002_2 x10_2).f1), (wrap64 (x9_2 + t313)), (wrap64 (x10_2 - 1)), (y310), (y312), (y315), (.slice (some ⟨go104, 0, none⟩) x292000_2.length co116), (.slice (some ⟨go107, 0, none⟩) x292001_2.length co120), (.slice (some ⟨go109, 0, none⟩) x292002_2.length co111), (by first | rfl | (simp; done) | (simp [*]; done)), (by first | rfl | (simp; done) | (simp [*]; done)), (by first | rfl | (simp; done) | (simp [*]; done)), H', ⟨by have := HJ3.out; have := HK2.out; omega⟩, ⟨by exact up (Kd.R_mono HO_292000.out (fun _ hk => hk.2))⟩, ⟨up HO_292001.out⟩, ⟨up HO_292002.out⟩, ⟨ub BK279.out⟩, ⟨ub BK280.out⟩, ⟨ub BK281.out⟩, ⟨ub BK291.out⟩, ⟨bl⟩⟩
                 ·rw [if_neg c106] at H
                  exact absurd H (by simp)
                ·rw [if_neg c105] at H
                 exact absurd H (by simp)
               ·rw [if_neg c103] at H
                exact absurd H (by simp)
              ·rw [if_neg c102] at H
               exact absurd H (by simp)
             ·rw [if_neg c101] at H
              exact absurd H (by simp)
            ·rw [if_neg c100] at H
             exact absurd H (by simp)
           ·rw [if_neg c99] at H
            have c99b0 : decide (a1_0 < ((rd_T50 x292002_2 x10_2).f0)) = false := decide_eq_false c99
            clear c99
            by_cases c127 : 0 ≤ x8_2
            ·rw [if_pos c127] at H
             have c127b0 : decide (0 ≤ x8_2) = true := decide_eq_true c127
             clear c127
             by_cases c128 : x8_2 < (x292000_2.length : Int)
             ·rw [if_pos c128] at H
              have c128b0 : decide (x8_2 < (x292000_2.length : Int)) = true := decide_eq_true c128
              clear c128
              obtain ⟨y316, hy316⟩ : ∃ y_ : List Int, y_ = (x292000_2.set (x8_2 : Int).toNat a1_0) := ⟨_, rfl⟩
              replace H : (if x8_2 < (x292001_2.length : Int) then (some (y316, (x292001_2.set (x8_2 : Int).toNat a1_1), x292002_2, x9_2, true)) else (none)) = some (r1, r2, r3, r4, r5) := by first | (rw [hy316]; with_reducible exact H) | (have H2_ := (Option.bind_some _ _).symm.trans H; rw [hy316]; with_reducible exact H2_) | (have H2_ := (Option.bind_some _ _).symm.trans H; with_reducible exact H2_) | with_reducible exact H | (rw [hy316]; exact H) | exact H
              have Ny316 := Aside0.mk hy316
              clear hy316
              by_cases c130 : x8_2 < (x292001_2.length : Int)
              ·rw [if_pos c130] at H
               have c130b0 : decide (x8_2 < (x292001_2.length : Int)) = true := decide_eq_true c130
               clear c130
               obtain ⟨y317, hy317⟩ : ∃ y_ : List Int, y_ = (x292001_2.set (x8_2 : Int).toNat a1_1) := ⟨_, rfl⟩
               replace H : (some (y316, y317, x292002_2, x9_2, true)) = some (r1, r2, r3, r4, r5) := by first | (rw [hy317]; with_reducible exact H) | (have H2_ := (Option.bind_some _ _).symm.trans H; rw [hy317]; with_reducible exact H2_) | (have H2_ := (Option.bind_some _ _).symm.trans H; with_reducible exact H2_) | with_reducible exact H | (rw [hy317]; exact H) | exact H
               have Ny317 := Aside0.mk hy317
               clear hy317
               simp only [Option.some.injEq, Prod.mk.injEq] at H
               obtain ⟨rfl, rfl, rfl, rfl, rfl⟩ := H
               try go_wp2
               replace HO_292000 := mk (Kd.R_drew HO_292000.out)
               replace HO_292001 := mk (Kd.R_drew HO_292001.out)
               replace HO_292002 := mk (Kd.R_drew HO_292002.out)
               replace BK279 := wd BK279
               replace BK280 := wd BK280
               replace BK281 := wd BK281
               replace BK291 := wd BK291
               replace HB := mk (below_drew1 HB.out)
               obtain ⟨Ao133, co133, eo133⟩ := Kd.R_slice HO_292002.out
               (first | subst eo133 | (injection eo133 with f1_ f2_ f3_; have f4_ := f1_.symm; have f5_ := f3_.symm; clear f1_ f2_ f3_; subst f4_; subst f5_))
               have p307 : 0 ≤ (x10_2 : Int) := of_decide_eq_true (by first | (with_reducible assumption) | assumption)
               have q307 : x10_2 < (x292002_2.length : Int) := of_decide_eq_true (by first | (with_reducible assumption) | assumption)
               obtain ⟨ad307, e307, hx307_0, hx307_1⟩ := at_T50 (Kd.R_reads' HO_292002.out).2.2 x10_2 p307 q307
               cases e307
               replace p307 := eq_true p307
               replace q307 := eq_true q307
               refine start_ (n := 13) (S := fun w' => w'.cell? ⟨gb291, 0, none⟩ = some (u292000) ∧ w'.cell? ⟨gb291, 1, none⟩ = some (u292001) ∧ w'.cell? ⟨gb291, 2, none⟩ = some (.slice (some ad307) x292002_2.length co133) ∧ w'.cell? ⟨gb280, 0, none⟩ = some (.int .i64 a1_0) ∧ w'.cell? ⟨gb280, 1, none⟩ = some (.int .i64 a1_1) ∧ w'.cell? (ad307.add ((x10_2).toNat * 2)) = some (.int .i64 ((rd_T50 x292002_2 x10_2).f0)) ∧ w'.cell? ⟨(ad307.add ((x10_2).toNat * 2)).block, (ad307.add ((x10_2).toNat * 2)).off + 1, none⟩ = some (.int .i64 ((rd_T50 x292002_2 x10_2).f1))) (ds := []) #[F_, F_, F_, F_, F_, F_, F_, F_, F_, F_, F_, F_, F_] (by kernel_rfl) rfl rfl ⟨(blk_cell BK291.out 0).trans rfl, (blk_cell BK291.out 1).trans rfl, (blk_cell BK291.out 2).trans rfl, (blk_cell BK280.out 0).trans rfl, (blk_cell BK280.out 1).trans rfl, hx307_0, hx307_1⟩ (fun hHeld => ?_); refine with_tabW impl_RippleInsert.tab7 impl_RippleInsert.bits7 (fun HT_ HW_ => ?_)
               generalize wr.drew = w132 at HO_292000 HO_292001 HO_292002 BK279 BK280 BK281 BK291 HB hx307_0 hx307_1 hHeld ⊢
               refine pu 0 57 (tf 1 12) ?_
               refine pu 1 58 (tf 2 11) ?_
               refine pu 2 59 (tf 3 10) ?_
               refine pu 3 60 (tf 4 9) ?_
               refine pu 5 62 #[T_,T_,T_,T_,F_,T_,F_,F_,F_,F_,F_,F_,F_] ?_
               refine pu 9 66 #[T_,T_,T_,T_,F_,T_,F_,F_,F_,T_,F_,F_,F_] ?_
               refine tk 4 61 #[T_,T_,T_,T_,T_,T_,F_,F_,F_,T_,F_,F_,F_] hHeld ?_
               refine pu 6 63 #[T_,T_,T_,T_,T_,T_,T_,F_,F_,T_,F_,F_,F_] ?_
               refine pu 7 64 #[T_,T_,T_,T_,T_,T_,T_,T_,F_,T_,F_,F_,F_] ?_
               refine tk 8 65 (tf 10 3) hHeld ?_
               refine tk 10 67 (tf 11 2) hHeld ?_
               refine pu 11 68 (tf 12 1) ?_
               refine pu 12 69 (tf 13 0) ?_
               refine done_ (done_of HT_.out (by kernel_rfl)) ?_
               have hnb134 := NB291_279.out
               have hnc134 := NB279_291.out
               have hnb135 := NB291_280.out
               have hnc135 := NB280_291.out
               have hnb136 := NB291_281.out
               have hnc136 := NB281_291.out
               obtain ⟨hcz137_0, hcz137_1, hcz137_2, hfz137_0, hfz137_1, hfz137_2⟩ := bz3 BK291
               have hnb138 := NB280_279.out
               have hnc138 := NB279_280.out
               have hnb139 := NB280_281.out
               have hnc139 := NB281_280.out
               obtain ⟨hcz140_0, hcz140_1, hfz140_0, hfz140_1⟩ := bz2 BK280
               have p129 : 0 ≤ (x8_2 : Int) := of_decide_eq_true (by first | (with_reducible assumption) | assumption)
               have q129 : (x8_2 : Int) < ((x292000_2.length : Int) : Int) := of_decide_eq_true (by first | (with_reducible assumption) | assumption)
               obtain ⟨go129, co129, eo129, gb129, gl129, cl129, HG129⟩ := Kd.R_form HO_292000.out (by omega)
               (first | cases eo129 | (injection eo129 with ea_ en_ ec_; (first | subst ea_ | (injection ea_ with ea_; subst ea_)); subst ec_; clear en_))
               have GB129 := Aside0.mk gb129
               have GG129 := Aside0.mk HG129
               clear gb129 gl129 HG129
               obtain ⟨hx129_0, hf129_0⟩ := Kd.R_celln 0 HO_292000.out (x8_2 : Int) p129 q129
               replace p129 := eq_true p129
               replace q129 := eq_true q129
               obtain ⟨hy141_, hz141_⟩ := Kd.R_celln 0 HO_292000.out (x8_2 : Int) (of_decide_eq_true (by first | (with_reducible assumption) | assumption)) (of_decide_eq_true (by first | (with_reducible assumption) | assumption))
               have HP141 := Kd.R_putg HO_292000.out (x8_2 : Int) a1_0
               have p131 : 0 ≤ (x8_2 : Int) := of_decide_eq_true (by first | (with_reducible assumption) | assumption)
               have q131 : (x8_2 : Int) < ((x292001_2.length : Int) : Int) := of_decide_eq_true (by first | (with_reducible assumption) | assumption)
               obtain ⟨go131, co131, eo131, gb131, gl131, cl131, HG131⟩ := Kd.R_form HO_292001.out (by omega)
               (first | cases eo131 | (injection eo131 with ea_ en_ ec_; (first | subst ea_ | (injection ea_ with ea_; subst ea_)); subst ec_; clear en_))
               have GB131 := Aside0.mk gb131
               have GG131 := Aside0.mk HG131
               clear gb131 gl131 HG131
               obtain ⟨hx131_0, hf131_0⟩ := Kd.R_celln 0 HO_292001.out (x8_2 : Int) p131 q131
               replace p131 := eq_true p131
               replace q131 := eq_true q131
               have hq279_go129 : gb279 ≠ go129 := (by have h_ := Kd.R_ne HO_292000.out BK279.out (by decide); intro e_; exact h_ (by rw [e_]; rfl))
               have hr279_go129 := Ne.symm hq279_go129
               have hq279_go131 : gb279 ≠ go131 := (by have h_ := Kd.R_ne HO_292001.out BK279.out (by decide); intro e_; exact h_ (by rw [e_]; rfl))
               have hr279_go131 := Ne.symm hq279_go131
               have hq280_go129 : gb280 ≠ go129 := (by have h_ := Kd.R_ne HO_292000.out BK280.out (by decide); intro e_; exact h_ (by rw [e_]; rfl))
               have hr280_go129 := Ne.symm hq280_go129
               have hq280_go131 : gb280 ≠ go131 := (by have h_ := Kd.R_ne HO_292001.out BK280.out (by decide); intro e_; exact h_ (by rw [e_]; rfl))
               have hr280_go131 := Ne.symm hq280_go131
               have hq281_go129 : gb281 ≠ go129 := (by have h_ := Kd.R_ne HO_292000.out BK281.out (by decide); intro e_; exact h_ (by rw [e_]; rfl))
               have hr281_go129 := Ne.symm hq281_go129
               have hq281_go131 : gb281 ≠ go131 := (by have h_ := Kd.R_ne HO_292001.out BK281.out (by decide); intro e_; exact h_ (by rw [e_]; rfl))
               have hr281_go131 := Ne.symm hq281_go131
               have hq291_go129 : gb291 ≠ go129 := (by have h_ := Kd.R_ne HO_292000.out BK291.out (by decide); intro e_; exact h_ (by rw [e_]; rfl))
               have hr291_go129 := Ne.symm hq291_go129
               have hq291_go131 : gb291 ≠ go131 := (by have h_ := Kd.R_ne HO_292001.out BK291.out (by decide); intro e_; exact h_ (by rw [e_]; rfl))
               have hr291_go131 := Ne.symm hq291_go131
               have hq_go131_go129 : go131 ≠ go129 := fun e_ => HO_292001.out.1 go131 rfl (by rw [e_]; rfl)
               have hr_go131_go129 := Ne.symm hq_go131_go129
               try go_wp2
               go_region
               obtain ⟨w142, hw⟩ : ∃ w_, w_ = (w132.setCell ⟨go129, (x8_2 : Int).toNat, none⟩ (.int .i64 a1_0)) := ⟨_, rfl⟩
               rw [← hw]
               have hg : w132.grownBy w142 (some go129) := (by rw [hw]; exact HP141.2)
               have hp_ : Kd.R (Kd.int .i64) 3 w142 w.heap.size (fun k_ => some k_ ≠ (.slice (some ⟨go131, 0, none⟩) x292001_2.length co131 : Value).ownBlock) (.slice (some ⟨go129, 0, none⟩) x292000_2.length co129) y316 := (by rw [hw, Ny316.out]; exact HP141.1)
               clear HP141
               replace HO_292001 := mk (Kd.R_after (v := (.slice (some ⟨go129, 0, none⟩) x292000_2.length co129)) (v1 := (.slice (some ⟨go129, 0, none⟩) x292000_2.length co129)) (ok := (fun _ => True)) (by exact up (Kd.R_mono HO_292001.out (fun _ hk => ⟨trivial, hk⟩))) hg (.inl rfl))
               replace HO_292002 := mk (Kd.R_over' (v := (.slice (some ⟨go129, 0, none⟩) x292000_2.length co129)) (up HO_292002.out) (Kd.R_typed HO_292000.out) (by decide) hg)
               replace BK279 := mk (blk_grown (g := gb279) (o := .cells #[.slice A0_0 l0_0.length c0_0, .slice A0_1 l0_1.length c0_1, .slice A0_2 l0_2.length c0_2] 29 (0, 0)) (ub BK279.out) hg (Kd.R_ne HO_292000.out BK279.out (by decide)))
               replace BK280 := mk (blk_grown (g := gb280) (o := .cells #[.int .i64 a1_0, .int .i64 a1_1] 39 (0, 0)) (ub BK280.out) hg (Kd.R_ne HO_292000.out BK280.out (by decide)))
               replace BK281 := mk (blk_grown (g := gb281) (o := .cells #[.slice none 0 0, .slice none 0 0, .slice none 0 0] 29 (0, 0)) (ub BK281.out) hg (Kd.R_ne HO_292000.out BK281.out (by decide)))
               replace BK291 := mk (blk_grown (g := gb291) (o := .cells #[.slice (some ⟨go129, 0, none⟩) x292000_2.length co129, .slice (some ⟨go131, 0, none⟩) x292001_2.length co131, .slice (some ad307) x292002_2.length co133] 29 (0, 0)) (ub BK291.out) hg (Kd.R_ne HO_292000.out BK291.out (by decide)))
               replace HO_292000 := mk hp_
               replace HB := mk ((by rw [hw]; exact below_set (HB.out) GB129.out : Below w.heap.size w w142))
               clear hg hw hp_
               replace HO_292001 := mk (Kd.R_mono (ok' := (fun k_ => some k_ ≠ (.slice (some ⟨go129, 0, none⟩) x292000_2.length co129 : Value).ownBlock)) HO_292001.out (fun k_ hk => hk.2))
               obtain ⟨hy143_, hz143_⟩ := Kd.R_celln 0 HO_292001.out (x8_2 : Int) (of_decide_eq_true (by first | (with_reducible assumption) | assumption)) (of_decide_eq_true (by first | (with_reducible assumption) | assumption))
               have HP143 := Kd.R_putg HO_292001.out (x8_2 : Int) a1_1
               obtain ⟨w144, hw⟩ : ∃ w_, w_ = (w142.setCell ⟨go131, (x8_2 : Int).toNat, none⟩ (.int .i64 a1_1)) := ⟨_, rfl⟩
               rw [← hw]
               have hg : w142.grownBy w144 (some go131) := (by rw [hw]; exact HP143.2)
               have hp_ : Kd.R (Kd.int .i64) 3 w144 w.heap.size (fun k_ => some k_ ≠ (.slice (some ⟨go129, 0, none⟩) x292000_2.length co129 : Value).ownBlock) (.slice (some ⟨go131, 0, none⟩) x292001_2.length co131) y317 := (by rw [hw, Ny317.out]; exact HP143.1)
               clear HP143
               replace HO_292000 := mk (Kd.R_after (v := (.slice (some ⟨go131, 0, none⟩) x292001_2.length co131)) (v1 := (.slice (some ⟨go131, 0, none⟩) x292001_2.length co131)) (ok := (fun _ => True)) (by exact up (Kd.R_mono HO_292000.out (fun _ hk => ⟨trivial, hk⟩))) hg (.inl rfl))
               replace HO_292002 := mk (Kd.R_over' (v := (.slice (some ⟨go131, 0, none⟩) x292001_2.length co131)) (up HO_292002.out) (Kd.R_typed HO_292001.out) (by decide) hg)
               replace BK279 := mk (blk_grown (g := gb279) (o := .cells #[.slice A0_0 l0_0.length c0_0, .slice A0_1 l0_1.length c0_1, .slice A0_2 l0_2.length c0_2] 29 (0, 0)) (ub BK279.out) hg (Kd.R_ne HO_292001.out BK279.out (by decide)))
               replace BK280 := mk (blk_grown (g := gb280) (o := .cells #[.int .i64 a1_0, .int .i64 a1_1] 39 (0, 0)) (ub BK280.out) hg (Kd.R_ne HO_292001.out BK280.out (by decide)))
               replace BK281 := mk (blk_grown (g := gb281) (o := .cells #[.slice none 0 0, .slice none 0 0, .slice none 0 0] 29 (0, 0)) (ub BK281.out) hg (Kd.R_ne HO_292001.out BK281.out (by decide)))
               replace BK291 := mk (blk_grown (g := gb291) (o := .cells #[.slice (some ⟨go129, 0, none⟩) x292000_2.length co129, .slice (some ⟨go131, 0, none⟩) x292001_2.length co131, .slice (some ad307) x292002_2.length co133] 29 (0, 0)) (ub BK291.out) hg (Kd.R_ne HO_292001.out BK291.out (by decide)))
               replace HO_292001 := mk hp_
               replace HB := mk ((by rw [hw]; exact below_set (HB.out) GB131.out : Below w.heap.size w w144))
               clear hg hw hp_
               obtain ⟨hcz145_0, hcz145_1, hcz145_2, hfz145_0, hfz145_1, hfz145_2⟩ := bz3 BK291
               have hnb146 := NB281_279.out
               have hnc146 := NB279_281.out
               obtain ⟨hcz147_0, hcz147_1, hcz147_2, hfz147_0, hfz147_1, hfz147_2⟩ := bz3 BK281
               go_wp2
               refine bodyPost_ret (results_ctt rfl _ _ gb281 29 #[.slice (some ⟨go129, 0, none⟩) x292000_2.length co129, .slice (some ⟨go131, 0, none⟩) x292001_2.length co131, .slice (some ad307) x292002_2.length co133] (0, 0) _ rfl bq Try.underlying29 rfl (by kernel_rfl)) rfl ?_
               exact ⟨_, _, _, by first | rfl | (simp [errW_none, errW_some] <;> rfl) | (simp [*, errW_none, errW_some] <;> rfl), (by exact rm (rs1 HO_292000 BK281)), (by exact rm (rs1 HO_292001 BK281)), (by exact rm (rs1 HO_292002 BK281)), bl⟩
              ·rw [if_neg c130] at H
               exact absurd H (by simp)
             ·rw [if_neg c128] at H
              exact absurd H (by simp)
            ·rw [if_neg c127] at H
             exact absurd H (by simp)
          ·rw [if_neg c98] at H
           exact absurd H (by simp)
         ·rw [if_neg c97] at H
          exact absurd H (by simp)
        ·rw [if_neg c96] at H
         have c96b0 : decide (0 ≤ x10_2) = false := decide_eq_false c96
         clear c96
         by_cases c148 : 0 ≤ x8_2
         ·rw [if_pos c148] at H
          have c148b0 : decide (0 ≤ x8_2) = true := decide_eq_true c148
          clear c148
          by_cases c149 : x8_2 < (x292000_2.length : Int)
          ·rw [if_pos c149] at H
           have c149b0 : decide (x8_2 < (x292000_2.length : Int)) = true := decide_eq_true c149
           clear c149
           obtain ⟨y318, hy318⟩ : ∃ y_ : List Int, y_ = (x292000_2.set (x8_2 : Int).toNat a1_0) := ⟨_, rfl⟩
           replace H : (if x8_2 < (x292001_2.length : Int) then (some (y318, (x292001_2.set (x8_2 : Int).toNat a1_1), x292002_2, x9_2, true)) else (none)) = some (r1, r2, r3, r4, r5) := by first | (rw [hy318]; with_reducible exact H) | (have H2_ := (Option.bind_some _ _).symm.trans H; rw [hy318]; with_reducible exact H2_) | (have H2_ := (Option.bind_some _ _).symm.trans H; with_reducible exact H2_) | with_reducible exact H | (rw [hy318]; exact H) | exact H
           have Ny318 := Aside0.mk hy318
           clear hy318
           by_cases c151 : x8_2 < (x292001_2.length : Int)
           ·rw [if_pos c151] at H
            have c151b0 : decide (x8_2 < (x292001_2.length : Int)) = true := decide_eq_true c151
            clear c151
            obtain ⟨y319, hy319⟩ : ∃ y_ : List Int, y_ = (x292001_2.set (x8_2 : Int).toNat a1_1) := ⟨_, rfl⟩
            replace H : (some (y318, y319, x292002_2, x9_2, true)) = some (r1, r2, r3, r4, r5) := by first | (rw [hy319]; with_reducible exact H) | (have H2_ := (Option.bind_some _ _).symm.trans H; rw [hy319]; with_reducible exact H2_) | (have H2_ := (Option.bind_some _ _).symm.trans H; with_reducible exact H2_) | with_reducible exact H | (rw [hy319]; exact H) | exact H
            have Ny319 := Aside0.mk hy319
            clear hy319
            simp only [Option.some.injEq, Prod.mk.injEq] at H
            obtain ⟨rfl, rfl, rfl, rfl, rfl⟩ := H
            try go_wp2
            replace HO_292000 := mk (Kd.R_drew HO_292000.out)
            replace HO_292001 := mk (Kd.R_drew HO_292001.out)
            replace HO_292002 := mk (Kd.R_drew HO_292002.out)
            replace BK279 := wd BK279
            replace BK280 := wd BK280
            replace BK281 := wd BK281
            replace BK291 := wd BK291
            replace HB := mk (below_drew1 HB.out)
            refine start_ (n := 13) (S := fun w' => True) (ds := []) #[F_, F_, F_, F_, F_, F_, F_, F_, F_, F_, F_, F_, F_] (by kernel_rfl) rfl rfl trivial (fun hHeld => ?_); refine with_tabW impl_RippleInsert.tab7 impl_RippleInsert.bits7 (fun HT_ HW_ => ?_)
            generalize wr.drew = w153 at HO_292000 HO_292001 HO_292002 BK279 BK280 BK281 BK291 HB hHeld ⊢
            refine pu 0 57 (tf 1 12) ?_
            refine pu 1 58 (tf 2 11) ?_
            refine pu 2 59 (tf 3 10) ?_
            refine pn 3 60 (tf 4 9) ?_
            refine pn 4 61 (tf 5 8) ?_
            refine pn 5 62 (tf 6 7) ?_
            refine pn 6 63 (tf 7 6) ?_
            refine pn 7 64 (tf 8 5) ?_
            refine pn 8 65 (tf 9 4) ?_
            refine pn 9 66 (tf 10 3) ?_
            refine pn 10 67 (tf 11 2) ?_
            refine pn 11 68 (tf 12 1) ?_
            refine pu 12 69 (tf 13 0) ?_
            refine done_ (done_of HT_.out (by kernel_rfl)) ?_
            have hnb154 := NB291_279.out
            have hnc154 := NB279_291.out
            have hnb155 := NB291_280.out
            have hnc155 := NB280_291.out
            have hnb156 := NB291_281.out
            have hnc156 := NB281_291.out
            obtain ⟨hcz157_0, hcz157_1, hcz157_2, hfz157_0, hfz157_1, hfz157_2⟩ := bz3 BK291
            have hnb158 := NB280_279.out
            have hnc158 := NB279_280.out
            have hnb159 := NB280_281.out
            have hnc159 := NB281_280.out
            obtain ⟨hcz160_0, hcz160_1, hfz160_0, hfz160_1⟩ := bz2 BK280
            have p150 : 0 ≤ (x8_2 : Int) := of_decide_eq_true (by first | (with_reducible assumption) | assumption)
            have q150 : (x8_2 : Int) < ((x292000_2.length : Int) : Int) := of_decide_eq_true (by first | (with_reducible assumption) | assumption)
            obtain ⟨go150, co150, eo150, gb150, gl150, cl150, HG150⟩ := Kd.R_form HO_292000.out (by omega)
            (first | cases eo150 | (injection eo150 with ea_ en_ ec_; (first | subst ea_ | (injection ea_ with ea_; subst ea_)); subst ec_; clear en_))
            have GB150 := Aside0.mk gb150
            have GG150 := Aside0.mk HG150
            clear gb150 gl150 HG150
            obtain ⟨hx150_0, hf150_0⟩ := Kd.R_celln 0 HO_292000.out (x8_2 : Int) p150 q150
            replace p150 := eq_true p150
            replace q150 := eq_true q150
            obtain ⟨hy161_, hz161_⟩ := Kd.R_celln 0 HO_292000.out (x8_2 : Int) (of_decide_eq_true (by first | (with_reducible assumption) | assumption)) (of_decide_eq_true (by first | (with_reducible assumption) | assumption))
            have HP161 := Kd.R_putg HO_292000.out (x8_2 : Int) a1_0
            have p152 : 0 ≤ (x8_2 : Int) := of_decide_eq_true (by first | (with_reducible assumption) | assumption)
            have q152 : (x8_2 : Int) < ((x292001_2.length : Int) : Int) := of_decide_eq_true (by first | (with_reducible assumption) | assumption)
            obtain ⟨go152, co152, eo152, gb152, gl152, cl152, HG152⟩ := Kd.R_form HO_292001.out (by omega)
            (first | cases eo152 | (injection eo152 with ea_ en_ ec_; (first | subst ea_ | (injection ea_ with ea_; subst ea_)); subst ec_; clear en_))
            have GB152 := Aside0.mk gb152
            have GG152 := Aside0.mk HG152
            clear gb152 gl152 HG152
            obtain ⟨hx152_0, hf152_0⟩ := Kd.R_celln 0 HO_292001.out (x8_2 : Int) p152 q152
            replace p152 := eq_true p152
            replace q152 := eq_true q152
            have hq279_go150 : gb279 ≠ go150 := (by have h_ := Kd.R_ne HO_292000.out BK279.out (by decide); intro e_; exact h_ (by rw [e_]; rfl))
            have hr279_go150 := Ne.symm hq279_go150
            have hq279_go152 : gb279 ≠ go152 := (by have h_ := Kd.R_ne HO_292001.out BK279.out (by decide); intro e_; exact h_ (by rw [e_]; rfl))
            have hr279_go152 := Ne.symm hq279_go152
            have hq280_go150 : gb280 ≠ go150 := (by have h_ := Kd.R_ne HO_292000.out BK280.out (by decide); intro e_; exact h_ (by rw [e_]; rfl))
            have hr280_go150 := Ne.symm hq280_go150
            have hq280_go152 : gb280 ≠ go152 := (by have h_ := Kd.R_ne HO_292001.out BK280.out (by decide); intro e_; exact h_ (by rw [e_]; rfl))
            have hr280_go152 := Ne.symm hq280_go152
            have hq281_go150 : gb281 ≠ go150 := (by have h_ := Kd.R_ne HO_292000.out BK281.out (by decide); intro e_; exact h_ (by rw [e_]; rfl))
            have hr281_go150 := Ne.symm hq281_go150
            have hq281_go152 : gb281 ≠ go152 := (by have h_ := Kd.R_ne HO_292001.out BK281.out (by decide); intro e_; exact h_ (by rw [e_]; rfl))
            have hr281_go152 := Ne.symm hq281_go152
            have hq291_go150 : gb291 ≠ go150 := (by have h_ := Kd.R_ne HO_292000.out BK291.out (by decide); intro e_; exact h_ (by rw [e_]; rfl))
            have hr291_go150 := Ne.symm hq291_go150
            have hq291_go152 : gb291 ≠ go152 := (by have h_ := Kd.R_ne HO_292001.out BK291.out (by decide); intro e_; exact h_ (by rw [e_]; rfl))
            have hr291_go152 := Ne.symm hq291_go152
            have hq_go152_go150 : go152 ≠ go150 := fun e_ => HO_292001.out.1 go152 rfl (by rw [e_]; rfl)
            have hr_go152_go150 := Ne.symm hq_go152_go150
            try go_wp2
            go_region
            obtain ⟨w162, hw⟩ : ∃ w_, w_ = (w153.setCell ⟨go150, (x8_2 : Int).toNat, none⟩ (.int .i64 a1_0)) := ⟨_, rfl⟩
            rw [← hw]
            have hg : w153.grownBy w162 (some go150) := (by rw [hw]; exact HP161.2)
            have hp_ : Kd.R (Kd.int .i64) 3 w162 w.heap.size (fun k_ => some k_ ≠ (.slice (some ⟨go152, 0, none⟩) x292001_2.length co152 : Value).ownBlock) (.slice (some ⟨go150, 0, none⟩) x292000_2.length co150) y318 := (by rw [hw, Ny318.out]; exact HP161.1)
            clear HP161
            replace HO_292001 := mk (Kd.R_after (v := (.slice (some ⟨go150, 0, none⟩) x292000_2.length co150)) (v1 := (.slice (some ⟨go150, 0, none⟩) x292000_2.length co150)) (ok := (fun _ => True)) (by exact up (Kd.R_mono HO_292001.out (fun _ hk => ⟨trivial, hk⟩))) hg (.inl rfl))
            replace HO_292002 := mk (Kd.R_over' (v := (.slice (some ⟨go150, 0, none⟩) x292000_2.length co150)) (up HO_292002.out) (Kd.R_typed HO_292000.out) (by decide) hg)
            replace BK279 := mk (blk_grown (g := gb279) (o := .cells #[.slice A0_0 l0_0.length c0_0, .slice A0_1 l0_1.length c0_1, .slice A0_2 l0_2.length c0_2] 29 (0, 0)) (ub BK279.out) hg (Kd.R_ne HO_292000.out BK279.out (by decide)))
            replace BK280 := mk (blk_grown (g := gb280) (o := .cells #[.int .i64 a1_0, .int .i64 a1_1] 39 (0, 0)) (ub BK280.out) hg (Kd.R_ne HO_292000.out BK280.out (by decide)))
            replace BK281 := mk (blk_grown (g := gb281) (o := .cells #[.slice none 0 0, .slice none 0 0, .slice none 0 0] 29 (0, 0)) (ub BK281.out) hg (Kd.R_ne HO_292000.out BK281.out (by decide)))
            replace BK291 := mk (blk_grown (g := gb291) (o := .cells #[.slice (some ⟨go150, 0, none⟩) x292000_2.length co150, .slice (some ⟨go152, 0, none⟩) x292001_2.length co152, u292002] 29 (0, 0)) (ub BK291.out) hg (Kd.R_ne HO_292000.out BK291.out (by decide)))
            replace HO_292000 := mk hp_
            replace HB := mk ((by rw [hw]; exact below_set (HB.out) GB150.out : Below w.heap.size w w162))
            clear hg hw hp_
            replace HO_292001 := mk (Kd.R_mono (ok' := (fun k_ => some k_ ≠ (.slice (some ⟨go150, 0, none⟩) x292000_2.length co150 : Value).ownBlock)) HO_292001.out (fun k_ hk => hk.2))
            obtain ⟨hy163_, hz163_⟩ := Kd.R_celln 0 HO_292001.out (x8_2 : Int) (of_decide_eq_true (by first | (with_reducible assumption) | assumption)) (of_decide_eq_true (by first | (with_reducible assumption) | assumption))
            have HP163 := Kd.R_putg HO_292001.out (x8_2 : Int) a1_1
            obtain ⟨w164, hw⟩ : ∃ w_, w_ = (w162.setCell ⟨go152, (x8_2 : Int).toNat, none⟩ (.int .i64 a1_1)) := ⟨_, rfl⟩
            rw [← hw]
            have hg : w162.grownBy w164 (some go152) := (by rw [hw]; exact HP163.2)
            have hp_ : Kd.R (Kd.int .i64) 3 w164 w.heap.size (fun k_ => some k_ ≠ (.slice (some ⟨go150, 0, none⟩) x292000_2.length co150 : Value).ownBlock) (.slice (some ⟨go152, 0, none⟩) x292001_2.length co152) y319 := (by rw [hw, Ny319.out]; exact HP163.1)
            clear HP163
            replace HO_292000 := mk (Kd.R_after (v := (.slice (some ⟨go152, 0, none⟩) x292001_2.length co152)) (v1 := (.slice (some ⟨go152, 0, none⟩) x292001_2.length co152)) (ok := (fun _ => True)) (by exact up (Kd.R_mono HO_292000.out (fun _ hk => ⟨trivial, hk⟩))) hg (.inl rfl))
            replace HO_292002 := mk (Kd.R_over' (v := (.slice (some ⟨go152, 0, none⟩) x292001_2.length co152)) (up HO_292002.out) (Kd.R_typed HO_292001.out) (by decide) hg)
            replace BK279 := mk (blk_grown (g := gb279) (o := .cells #[.slice A0_0 l0_0.length c0_0, .slice A0_1 l0_1.length c0_1, .slice A0_2 l0_2.length c0_2] 29 (0, 0)) (ub BK279.out) hg (Kd.R_ne HO_292001.out BK279.out (by decide)))
            replace BK280 := mk (blk_grown (g := gb280) (o := .cells #[.int .i64 a1_0, .int .i64 a1_1] 39 (0, 0)) (ub BK280.out) hg (Kd.R_ne HO_292001.out BK280.out (by decide)))
            replace BK281 := mk (blk_grown (g := gb281) (o := .cells #[.slice none 0 0, .slice none 0 0, .slice none 0 0] 29 (0, 0)) (ub BK281.out) hg (Kd.R_ne HO_292001.out BK281.out (by decide)))
            replace BK291 := mk (blk_grown (g := gb291) (o := .cells #[.slice (some ⟨go150, 0, none⟩) x292000_2.length co150, .slice (some ⟨go152, 0, none⟩) x292001_2.length co152, u292002] 29 (0, 0)) (ub BK291.out) hg (Kd.R_ne HO_292001.out BK291.out (by decide)))
            replace HO_292001 := mk hp_
            replace HB := mk ((by rw [hw]; exact below_set (HB.out) GB152.out : Below w.heap.size w w164))
            clear hg hw hp_
            obtain ⟨hcz165_0, hcz165_1, hcz165_2, hfz165_0, hfz165_1, hfz165_2⟩ := bz3 BK291
            have hnb166 := NB281_279.out
            have hnc166 := NB279_281.out
            obtain ⟨hcz167_0, hcz167_1, hcz167_2, hfz167_0, hfz167_1, hfz167_2⟩ := bz3 BK281
            obtain ⟨Ao168, co168, eo168⟩ := Kd.R_slice HO_292002.out
            subst eo168
            go_wp2
            refine bodyPost_ret (results_ctt rfl _ _ gb281 29 #[.slice (some ⟨go150, 0, none⟩) x292000_2.length co150, .slice (some ⟨go152, 0, none⟩) x292001_2.length co152, .slice Ao168 x292002_2.length co168] (0, 0) _ rfl bq Try.underlying29 rfl (by kernel_rfl)) rfl ?_
            exact ⟨_, _, _, by first | rfl | (simp [errW_none, errW_some] <;> rfl) | (simp [*, errW_none, errW_some] <;> rfl), (by exact rm (rs1 HO_292000 BK281)), (by exact rm (rs1 HO_292001 BK281)), (by exact rm (rs1 HO_292002 BK281)), bl⟩
           ·rw [if_neg c151] at H
            exact absurd H (by simp)
          ·rw [if_neg c149] at H
           exact absurd H (by simp)
         ·rw [if_neg c148] at H
          exact absurd H (by simp)
     ·rw [if_neg c74] at H
      exact absurd H (by simp)
    ·rw [if_neg c73] at H
     exact absurd H (by simp)

end Go.Proofs.Ytlikcmonejefoab.PFnExactRippleInsert
