-- printed by a program of this session, a turned copy of the print of the kit
import Derived.Test.YtmliclopdbkbeaaSq
import Derived.Test.YtmliclopdbkbeaaPFnExactAddPivotx0
import Derived.Test.YtmliclopdbkbeaaPFnExactAddPivotx7
import Derived.Test.YtmliclopdbkbeaaPFnExactAddPivotx8
import Derived.Test.YtmliclopdbkbeaaPFnExactAddPivotx9
namespace Go.Proofs.Ytmliclopdbkbeaa.PFnExactAddPivot
open Go.RowKit Go.Proofs.YtmliclopdbkbeaaW.PrintWords Go.Proofs.YtmliclopdbkbeaaW.PrintLast Go.Proofs.YtmliclopdbkbeaaW.PrintMore Go.Proofs.Ytmliclopdbkbeaa.Sq
attribute [local go_sem] max2_int min2_int max_two min_two max_three min_three max_four min_four Giv.cell_twice   -- for this text's walks alone
set_option linter.unusedVariables false
set_option linter.unusedSimpArgs false

/-! ### impl_AddPivot: function 8 -/
def impl_AddPivot.f (k : Nat) (l0_0 : List Int) (l0_1 : List Int) (l0_2 : List (S35)) (a1_0 : Int) (a1_1 : Int) : Option (List Int × List Int × (List (S35)) × Bool) := (impl_withPivot.f l0_0 l0_1 l0_2 a1_0 a1_1).bind fun bt274 => ((impl_IsCracker.f k l0_0 l0_1 l0_2).bind fun t284 => (if t284 = true then ((impl_IsCracker.f k bt274.1 bt274.2.1 bt274.2.2).bind fun t285 => (if t285 = true then (some (bt274.1, bt274.2.1, bt274.2.2, true)) else ((impl_copyCracker.f l0_0 l0_1 l0_2).bind fun bt286 => (some (bt286.1, bt286.2.1, bt286.2.2, false))))) else ((impl_copyCracker.f l0_0 l0_1 l0_2).bind fun bt295 => (some (bt295.1, bt295.2.1, bt295.2.2, false)))))
theorem impl_AddPivot.mono : ∀ a0 a1 a2 a3 a4 k, LeO (impl_AddPivot.f k a0 a1 a2 a3 a4) (impl_AddPivot.f (k + 1) a0 a1 a2 a3 a4) := by
 intro a0 a1 a2 a3 a4 k
 unfold impl_AddPivot.f
 exact mo
instance impl_AddPivot.mi (a0 a1 a2 a3 a4 k) : LeC (impl_AddPivot.f k a0 a1 a2 a3 a4) (impl_AddPivot.f (k + 1) a0 a1 a2 a3 a4) := ⟨impl_AddPivot.mono a0 a1 a2 a3 a4 k⟩
set_option maxHeartbeats 8000000 in
set_option maxRecDepth 100000 in
theorem impl_AddPivot.calls (k : Nat) (A0_0 : Option Addr) (c0_0 : Nat) (l0_0 : List Int) (A0_1 : Option Addr) (c0_1 : Nat) (l0_1 : List Int) (A0_2 : Option Addr) (c0_2 : Nat) (l0_2 : List (S35)) (a1_0 : Int) (a1_1 : Int) (r1 : List Int) (r2 : List Int) (r3 : List (S35)) (r4 : Bool) (w : World) (hr0_0 : Kd.C (Kd.int .i64) w A0_0 l0_0.length l0_0) (hc0_0 : l0_0.length ≤ c0_0) (hr0_1 : Kd.C (Kd.int .i64) w A0_1 l0_1.length l0_1) (hc0_1 : l0_1.length ≤ c0_1) (hr0_2 : Kd.C k35 w A0_2 l0_2.length l0_2) (hc0_2 : l0_2.length ≤ c0_2) (h : impl_AddPivot.f k l0_0 l0_1 l0_2 a1_0 a1_1 = some (r1, r2, r3, r4)) :
  Calls Try.prog 8 #[.agg #[.slice A0_0 l0_0.length c0_0, .slice A0_1 l0_1.length c0_1, .slice A0_2 l0_2.length c0_2], .agg #[.int .i64 a1_0, .int .i64 a1_1]] w fun e w' => ∃ v0_ v1_ v2_ : Value, e = .returned (.tuple #[.agg #[v0_, v1_, v2_], .bool r4]) ∧ Kd.R (Kd.int .i64) 3 w' w.heap.size (fun k_ => some k_ ≠ (v1_ : Value).ownBlock) v0_ r1 ∧ Kd.R (Kd.int .i64) 3 w' w.heap.size (fun k_ => some k_ ≠ (v0_ : Value).ownBlock) v1_ r2 ∧ Kd.R k35 35 w' w.heap.size (fun _ => True) v2_ r3 ∧ Below w.heap.size w w' := by
 have hu31 := Try.underlying31
 have hu35 := Try.underlying35
 have HR0_0 := Aside0.mk hr0_0
 have HC0_0 := Aside0.mk hc0_0
 clear hr0_0 hc0_0
 have HR0_1 := Aside0.mk hr0_1
 have HC0_1 := Aside0.mk hc0_1
 clear hr0_1 hc0_1
 have HR0_2 := Aside0.mk hr0_2
 have HC0_2 := Aside0.mk hc0_2
 clear hr0_2 hc0_2
 have HB := Aside0.mk (Below.refl w.heap.size w)
 have H : ((impl_withPivot.f l0_0 l0_1 l0_2 a1_0 a1_1).bind fun bt274 => ((impl_IsCracker.f k l0_0 l0_1 l0_2).bind fun t284 => (if t284 = true then ((impl_IsCracker.f k bt274.1 bt274.2.1 bt274.2.2).bind fun t285 => (if t285 = true then (some (bt274.1, bt274.2.1, bt274.2.2, true)) else ((impl_copyCracker.f l0_0 l0_1 l0_2).bind fun bt286 => (some (bt286.1, bt286.2.1, bt286.2.2, false))))) else ((impl_copyCracker.f l0_0 l0_1 l0_2).bind fun bt295 => (some (bt295.1, bt295.2.1, bt295.2.2, false)))))) = some (r1, r2, r3, r4) := h
 clear h
 revert H; refine bo ?_; rintro ⟨t274, t277, t280⟩ A3 H
 dsimp only at H
 revert H; refine bo ?_; rintro t284 A4 H
 by_cases c5 : t284 = true
 ·subst c5
  rw [if_pos rfl] at H
  revert H; refine bo ?_; rintro t285 A6 H
  by_cases c7 : t285 = true
  ·subst c7
   rw [if_pos rfl] at H
   simp only [Option.some.injEq, Prod.mk.injEq] at H
   obtain ⟨rfl, rfl, rfl, rfl⟩ := H
   go_enter Try.func8, Try.ntmps8
   go_wp2_with (first | ((with_reducible refine gate_dst (N := 2) rfl ?_); refine bx 2 #[.slice A0_0 l0_0.length c0_0, .slice A0_1 l0_1.length c0_1, .slice A0_2 l0_2.length c0_2] 31 ?_; intro gb271 hg w8 hbox hb; have BK271 := mk hbox; have GW271 := wg hg; have GE271 := wg hg; replace HB := wh hb; clear hb hbox hg) | ((with_reducible refine gate_dst (N := 3) rfl ?_); refine bx 3 #[.int .i64 a1_0, .int .i64 a1_1] 35 ?_; intro gb272 hg w9 hbox hb; have BK272 := mk hbox; have GW272 := wg hg; have GE272 := wg hg; replace HB := wh hb; have NB271_272 := nl BK271 hg; have NB272_271 := nr BK271 hg; replace BK271 := wb BK271 hb; clear hb hbox hg) | ((with_reducible refine gate_dst (N := 4) rfl ?_); refine bx 4 #[.slice none 0 0, .slice none 0 0, .slice none 0 0] 31 ?_; intro gb273 hg w10 hbox hb; have BK273 := mk hbox; have GW273 := wg hg; have GE273 := wg hg; replace HB := wh hb; have NB271_273 := nl BK271 hg; have NB273_271 := nr BK271 hg; replace BK271 := wb BK271 hb; have NB272_273 := nl BK272 hg; have NB273_272 := nr BK272 hg; replace BK272 := wb BK272 hb; clear hb hbox hg; have hnb11 := NB271_272.out; have hnc11 := NB272_271.out; have hnb12 := NB271_273.out; have hnc12 := NB273_271.out; obtain ⟨hcz13_0, hcz13_1, hcz13_2, hfz13_0, hfz13_1, hfz13_2⟩ := bz3 BK271; have hnb14 := NB272_273.out; have hnc14 := NB273_272.out; obtain ⟨hcz15_0, hcz15_1, hfz15_0, hfz15_1⟩ := bz2 BK272) | ((with_reducible refine gate_callee (f := 18) rfl ?_); refine gl (some 9) rfl Try.func18 #[.agg #[.slice A0_0 l0_0.length c0_0, .slice A0_1 l0_1.length c0_1, .slice A0_2 l0_2.length c0_2], .agg #[.int .i64 a1_0, .int .i64 a1_1]] ?_; (with_reducible refine (impl_withPivot.calls _ _ l0_0 _ _ l0_1 _ _ l0_2 a1_0 a1_1 t274 t277 t280 _ ?side1 ?side2 ?side3 ?side4 ?side5 ?side6 A3.out).mono ?_); (case side1 => exact uc (Kd.C_below HR0_0.out HB.out)); (case side2 => exact HC0_0.out); (case side3 => exact uc (Kd.C_below HR0_1.out HB.out)); (case side4 => exact HC0_1.out); (case side5 => exact uc (Kd.C_below HR0_2.out HB.out)); (case side6 => exact HC0_2.out); rintro e w16 ⟨v275, v278, v281, rfl, ho0, ho1, ho2, hb⟩; refine ⟨_, rfl, ?_⟩; have HO276 := mk (Kd.R_lower ho0 (below_size bl)); have HO279 := mk (Kd.R_lower ho1 (below_size bl)); have HO282 := mk (Kd.R_lower (Kd.R_newB ho2 (g := gb272) (o := .cells #[.int .i64 a1_0, .int .i64 a1_1] 35 (0, 0)) (ub BK272.out)) (below_size bl)); replace BK271 := wb BK271 hb; replace BK272 := wb BK272 hb; replace BK273 := wb BK273 hb; replace HB := wh hb; (try clear hb); (try clear hb2); (try clear hk); (try clear hi); (try clear ho0); (try clear ho1); (try clear ho2)) | ((with_reducible refine gate_dst (N := 6) rfl ?_); refine bx 6 #[.slice none 0 0, .slice none 0 0, .slice none 0 0] 31 ?_; intro gb283 hg w17 hbox hb; replace HO276 := mk (Kd.R_below (up HO276.out) hb); replace HO279 := mk (Kd.R_below (up HO279.out) hb); replace HO282 := mk (Kd.R_below (up HO282.out) hb); have BK283 := mk hbox; have GW283 := wg hg; have GE283 := wg hg; replace HB := wh hb; have NB271_283 := nl BK271 hg; have NB283_271 := nr BK271 hg; replace BK271 := wb BK271 hb; have NB272_283 := nl BK272 hg; have NB283_272 := nr BK272 hg; replace BK272 := wb BK272 hb; have NB273_283 := nl BK273 hg; have NB283_273 := nr BK273 hg; replace BK273 := wb BK273 hb; clear hb hbox hg; obtain ⟨Ao18, co18, eo18⟩ := Kd.R_slice HO276.out; subst eo18; have hnb19 := NB283_271.out; have hnc19 := NB271_283.out; have hnb20 := NB283_272.out; have hnc20 := NB272_283.out; have hnb21 := NB283_273.out; have hnc21 := NB273_283.out; obtain ⟨hcz22_0, hcz22_1, hcz22_2, hfz22_0, hfz22_1, hfz22_2⟩ := bz3 BK283; obtain ⟨Ao23, co23, eo23⟩ := Kd.R_slice HO279.out; subst eo23; obtain ⟨Ao24, co24, eo24⟩ := Kd.R_slice HO282.out; subst eo24; obtain ⟨hcz25_0, hcz25_1, hcz25_2, hfz25_0, hfz25_1, hfz25_2⟩ := bz3 BK271) | ((with_reducible refine gate_callee (f := 19) rfl ?_); refine gl (some 11) rfl Try.func19 #[.agg #[.slice A0_0 l0_0.length c0_0, .slice A0_1 l0_1.length c0_1, .slice A0_2 l0_2.length c0_2]] ?_; (with_reducible refine (impl_IsCracker.calls k _ _ l0_0 _ _ l0_1 _ _ l0_2 true _ ?side1 ?side2 ?side3 ?side4 ?side5 ?side6 A4.out).mono ?_); (case side1 => exact Kd.C_below HR0_0.out bl); (case side2 => exact HC0_0.out); (case side3 => exact Kd.C_below HR0_1.out bl); (case side4 => exact HC0_1.out); (case side5 => exact Kd.C_below HR0_2.out bl); (case side6 => exact HC0_2.out); rintro e w26 ⟨rfl, hb⟩; refine ⟨_, rfl, ?_⟩; replace HO276 := mk (Kd.R_below (by exact rs1 HO276 BK283) hb); replace HO279 := mk (Kd.R_below (by exact rs1 HO279 BK283) hb); replace HO282 := mk (Kd.R_below (by exact rs1 HO282 BK283) hb); replace BK271 := wx BK271 hb; replace BK272 := wx BK272 hb; replace BK273 := wx BK273 hb; replace BK283 := mk (blk_below (g := gb283) (o := .cells #[.slice Ao18 t274.length co18, .slice Ao23 t277.length co23, .slice Ao24 t280.length co24] 31 (0, 0)) bq hb); replace HB := wh hb; (try clear hb); (try clear hb2); (try clear hk); (try clear hi); obtain ⟨hcz27_0, hcz27_1, hcz27_2, hfz27_0, hfz27_1, hfz27_2⟩ := bz3 BK283) | (go_at_call 19; (with_reducible refine (impl_IsCracker.calls k _ _ t274 _ _ t277 _ _ t280 true _ ?side1 ?side2 ?side3 ?side4 ?side5 ?side6 A6.out).mono ?_); (case side1 => exact uc (Kd.R_reads' HO276.out).2.2); (case side2 => exact (Kd.R_reads' HO276.out).2.1); (case side3 => exact uc (Kd.R_reads' HO279.out).2.2); (case side4 => exact (Kd.R_reads' HO279.out).2.1); (case side5 => exact uc (Kd.R_reads' HO282.out).2.2); (case side6 => exact (Kd.R_reads' HO282.out).2.1); rintro e w28 ⟨rfl, hb⟩; replace HO276 := mk (Kd.R_below (up HO276.out) hb); replace HO279 := mk (Kd.R_below (up HO279.out) hb); replace HO282 := mk (Kd.R_below (up HO282.out) hb); replace BK271 := wb BK271 hb; replace BK272 := wb BK272 hb; replace BK273 := wb BK273 hb; replace BK283 := wb BK283 hb; replace HB := wh hb; (try clear hb); (try clear hb2); (try clear hk); (try clear hi); obtain ⟨hcz29_0, hcz29_1, hcz29_2, hfz29_0, hfz29_1, hfz29_2⟩ := bz3 BK283; obtain ⟨hcz30_0, hcz30_1, hcz30_2, hfz30_0, hfz30_1, hfz30_2⟩ := bz3 BK273))
   refine bodyPost_ret (results_ct rfl _ _ gb273 31 #[.slice Ao18 t274.length co18, .slice Ao23 t277.length co23, .slice Ao24 t280.length co24] (0, 0) _ rfl bq Try.underlying31 rfl (by kernel_rfl)) rfl ?_
   exact ⟨_, _, _, by first | rfl | (simp [errW_none, errW_some] <;> rfl) | (simp [*, errW_none, errW_some] <;> rfl), (by exact rm (rs1 HO276 BK273)), (by exact rm (rs1 HO279 BK273)), (by exact rm (rs1 HO282 BK273)), bl⟩
  ·replace c7 := Bool.eq_false_iff.mpr c7
   subst c7
   rw [if_neg nf] at H
   revert H; refine bo ?_; rintro ⟨t286, t289, t292⟩ A31 H
   dsimp only at H
   simp only [Option.some.injEq, Prod.mk.injEq] at H
   obtain ⟨rfl, rfl, rfl, rfl⟩ := H
   go_enter Try.func8, Try.ntmps8
   go_wp2_with (first | ((with_reducible refine gate_dst (N := 2) rfl ?_); refine bx 2 #[.slice A0_0 l0_0.length c0_0, .slice A0_1 l0_1.length c0_1, .slice A0_2 l0_2.length c0_2] 31 ?_; intro gb271 hg w32 hbox hb; have BK271 := mk hbox; have GW271 := wg hg; have GE271 := wg hg; replace HB := wh hb; clear hb hbox hg) | ((with_reducible refine gate_dst (N := 3) rfl ?_); refine bx 3 #[.int .i64 a1_0, .int .i64 a1_1] 35 ?_; intro gb272 hg w33 hbox hb; have BK272 := mk hbox; have GW272 := wg hg; have GE272 := wg hg; replace HB := wh hb; have NB271_272 := nl BK271 hg; have NB272_271 := nr BK271 hg; replace BK271 := wb BK271 hb; clear hb hbox hg) | ((with_reducible refine gate_dst (N := 4) rfl ?_); refine bx 4 #[.slice none 0 0, .slice none 0 0, .slice none 0 0] 31 ?_; intro gb273 hg w34 hbox hb; have BK273 := mk hbox; have GW273 := wg hg; have GE273 := wg hg; replace HB := wh hb; have NB271_273 := nl BK271 hg; have NB273_271 := nr BK271 hg; replace BK271 := wb BK271 hb; have NB272_273 := nl BK272 hg; have NB273_272 := nr BK272 hg; replace BK272 := wb BK272 hb; clear hb hbox hg; have hnb35 := NB271_272.out; have hnc35 := NB272_271.out; have hnb36 := NB271_273.out; have hnc36 := NB273_271.out; obtain ⟨hcz37_0, hcz37_1, hcz37_2, hfz37_0, hfz37_1, hfz37_2⟩ := bz3 BK271; have hnb38 := NB272_273.out; have hnc38 := NB273_272.out; obtain ⟨hcz39_0, hcz39_1, hfz39_0, hfz39_1⟩ := bz2 BK272) | ((with_reducible refine gate_callee (f := 18) rfl ?_); refine gl (some 9) rfl Try.func18 #[.agg #[.slice A0_0 l0_0.length c0_0, .slice A0_1 l0_1.length c0_1, .slice A0_2 l0_2.length c0_2], .agg #[.int .i64 a1_0, .int .i64 a1_1]] ?_; (with_reducible refine (impl_withPivot.calls _ _ l0_0 _ _ l0_1 _ _ l0_2 a1_0 a1_1 t274 t277 t280 _ ?side1 ?side2 ?side3 ?side4 ?side5 ?side6 A3.out).mono ?_); (case side1 => exact uc (Kd.C_below HR0_0.out HB.out)); (case side2 => exact HC0_0.out); (case side3 => exact uc (Kd.C_below HR0_1.out HB.out)); (case side4 => exact HC0_1.out); (case side5 => exact uc (Kd.C_below HR0_2.out HB.out)); (case side6 => exact HC0_2.out); rintro e w40 ⟨v275, v278, v281, rfl, ho0, ho1, ho2, hb⟩; refine ⟨_, rfl, ?_⟩; have HO276 := mk (Kd.R_lower ho0 (below_size bl)); have HO279 := mk (Kd.R_lower ho1 (below_size bl)); have HO282 := mk (Kd.R_lower (Kd.R_newB ho2 (g := gb272) (o := .cells #[.int .i64 a1_0, .int .i64 a1_1] 35 (0, 0)) (ub BK272.out)) (below_size bl)); replace BK271 := wb BK271 hb; replace BK272 := wb BK272 hb; replace BK273 := wb BK273 hb; replace HB := wh hb; (try clear hb); (try clear hb2); (try clear hk); (try clear hi); (try clear ho0); (try clear ho1); (try clear ho2)) | ((with_reducible refine gate_dst (N := 6) rfl ?_); refine bx 6 #[.slice none 0 0, .slice none 0 0, .slice none 0 0] 31 ?_; intro gb283 hg w41 hbox hb; replace HO276 := mk (Kd.R_below (up HO276.out) hb); replace HO279 := mk (Kd.R_below (up HO279.out) hb); replace HO282 := mk (Kd.R_below (up HO282.out) hb); have BK283 := mk hbox; have GW283 := wg hg; have GE283 := wg hg; replace HB := wh hb; have NB271_283 := nl BK271 hg; have NB283_271 := nr BK271 hg; replace BK271 := wb BK271 hb; have NB272_283 := nl BK272 hg; have NB283_272 := nr BK272 hg; replace BK272 := wb BK272 hb; have NB273_283 := nl BK273 hg; have NB283_273 := nr BK273 hg; replace BK273 := wb BK273 hb; clear hb hbox hg; obtain ⟨Ao42, co42, eo42⟩ := Kd.R_slice HO276.out; subst eo42; have hnb43 := NB283_271.out; have hnc43 := NB271_283.out; have hnb44 := NB283_272.out; have hnc44 := NB272_283.out; have hnb45 := NB283_273.out; have hnc45 := NB273_283.out; obtain ⟨hcz46_0, hcz46_1, hcz46_2, hfz46_0, hfz46_1, hfz46_2⟩ := bz3 BK283; obtain ⟨Ao47, co47, eo47⟩ := Kd.R_slice HO279.out; subst eo47; obtain ⟨Ao48, co48, eo48⟩ := Kd.R_slice HO282.out; subst eo48; obtain ⟨hcz49_0, hcz49_1, hcz49_2, hfz49_0, hfz49_1, hfz49_2⟩ := bz3 BK271) | ((with_reducible refine gate_callee (f := 19) rfl ?_); refine gl (some 11) rfl Try.func19 #[.agg #[.slice A0_0 l0_0.length c0_0, .slice A0_1 l0_1.length c0_1, .slice A0_2 l0_2.length c0_2]] ?_; (with_reducible refine (impl_IsCracker.calls k _ _ l0_0 _ _ l0_1 _ _ l0_2 true _ ?side1 ?side2 ?side3 ?side4 ?side5 ?side6 A4.out).mono ?_); (case side1 => exact Kd.C_below HR0_0.out bl); (case side2 => exact HC0_0.out); (case side3 => exact Kd.C_below HR0_1.out bl); (case side4 => exact HC0_1.out); (case side5 => exact Kd.C_below HR0_2.out bl); (case side6 => exact HC0_2.out); rintro e w50 ⟨rfl, hb⟩; refine ⟨_, rfl, ?_⟩; replace HO276 := mk (Kd.R_below (by exact rs1 HO276 BK283) hb); replace HO279 := mk (Kd.R_below (by exact rs1 HO279 BK283) hb); replace HO282 := mk (Kd.R_below (by exact rs1 HO282 BK283) hb); replace BK271 := wx BK271 hb; replace BK272 := wx BK272 hb; replace BK273 := wx BK273 hb; replace BK283 := mk (blk_below (g := gb283) (o := .cells #[.slice Ao42 t274.length co42, .slice Ao47 t277.length co47, .slice Ao48 t280.length co48] 31 (0, 0)) bq hb); replace HB := wh hb; (try clear hb); (try clear hb2); (try clear hk); (try clear hi); obtain ⟨hcz51_0, hcz51_1, hcz51_2, hfz51_0, hfz51_1, hfz51_2⟩ := bz3 BK283) | (go_at_call 19; (with_reducible refine (impl_IsCracker.calls k _ _ t274 _ _ t277 _ _ t280 false _ ?side1 ?side2 ?side3 ?side4 ?side5 ?side6 A6.out).mono ?_); (case side1 => exact uc (Kd.R_reads' HO276.out).2.2); (case side2 => exact (Kd.R_reads' HO276.out).2.1); (case side3 => exact uc (Kd.R_reads' HO279.out).2.2); (case side4 => exact (Kd.R_reads' HO279.out).2.1); (case side5 => exact uc (Kd.R_reads' HO282.out).2.2); (case side6 => exact (Kd.R_reads' HO282.out).2.1); rintro e w52 ⟨rfl, hb⟩; replace HO276 := mk (Kd.R_below (up HO276.out) hb); replace HO279 := mk (Kd.R_below (up HO279.out) hb); replace HO282 := mk (Kd.R_below (up HO282.out) hb); replace BK271 := wb BK271 hb; replace BK272 := wb BK272 hb; replace BK273 := wb BK273 hb; replace BK283 := wb BK283 hb; replace HB := wh hb; (try clear hb); (try clear hb2); (try clear hk); (try clear hi); obtain ⟨hcz53_0, hcz53_1, hcz53_2, hfz53_0, hfz53_1, hfz53_2⟩ := bz3 BK271) | ((with_reducible refine gate_callee (f := 20) rfl ?_); refine gl (some 19) rfl Try.func20 #[.agg #[.slice A0_0 l0_0.length c0_0, .slice A0_1 l0_1.length c0_1, .slice A0_2 l0_2.length c0_2]] ?_; (with_reducible refine (impl_copyCracker.calls _ _ l0_0 _ _ l0_1 _ _ l0_2 t286 t289 t292 _ ?side1 ?side2 ?side3 ?side4 ?side5 ?side6 A31.out).mono ?_); (case side1 => exact uc (Kd.C_below HR0_0.out HB.out)); (case side2 => exact HC0_0.out); (case side3 => exact uc (Kd.C_below HR0_1.out HB.out)); (case side4 => exact HC0_1.out); (case side5 => exact uc (Kd.C_below HR0_2.out HB.out)); (case side6 => exact HC0_2.out); rintro e w54 ⟨v287, v290, v293, rfl, ho0, ho1, ho2, hb⟩; refine ⟨_, rfl, ?_⟩; have HO288 := mk (Kd.R_lower (Kd.R_new' (Kd.R_new' ho0 (Kd.R_lt (up HO276.out))) (Kd.R_lt (up HO279.out))) (below_size bl)); have HO291 := mk (Kd.R_lower (Kd.R_new' (Kd.R_new' ho1 (Kd.R_lt (up HO276.out))) (Kd.R_lt (up HO279.out))) (below_size bl)); replace HO276 := mk (Kd.R_mono (Kd.R_told (Kd.R_told (Kd.R_old (up HO276.out) hb) (Kd.R_base ho0)) (Kd.R_base ho1)) (fun _ h_ => h_.1)); replace HO279 := mk (Kd.R_mono (Kd.R_told (Kd.R_told (Kd.R_old (up HO279.out) hb) (Kd.R_base ho0)) (Kd.R_base ho1)) (fun _ h_ => h_.1)); have HO294 := mk (Kd.R_lower (Kd.R_newB (Kd.R_new' ho2 (Kd.R_lt (up HO282.out))) (g := gb272) (o := .cells #[.int .i64 a1_0, .int .i64 a1_1] 35 (0, 0)) (ub BK272.out)) (below_size bl)); replace HO282 := mk (Kd.R_elder' (up HO282.out) (Kd.R_base ho2) hb); replace BK271 := wb BK271 hb; replace BK272 := wb BK272 hb; replace BK273 := wb BK273 hb; replace BK283 := wb BK283 hb; replace HB := wh hb; (try clear hb); (try clear hb2); (try clear hk); (try clear hi); (try clear ho0); (try clear ho1); (try clear ho2); obtain ⟨Ao55, co55, eo55⟩ := Kd.R_slice HO288.out; subst eo55; obtain ⟨hcz56_0, hcz56_1, hcz56_2, hfz56_0, hfz56_1, hfz56_2⟩ := bz3 BK273; obtain ⟨Ao57, co57, eo57⟩ := Kd.R_slice HO291.out; subst eo57; obtain ⟨Ao58, co58, eo58⟩ := Kd.R_slice HO294.out; subst eo58))
   refine bodyPost_ret (results_ct rfl _ _ gb273 31 #[.slice Ao55 t286.length co55, .slice Ao57 t289.length co57, .slice Ao58 t292.length co58] (0, 0) _ rfl bq Try.underlying31 rfl (by kernel_rfl)) rfl ?_
   exact ⟨_, _, _, by first | rfl | (simp [errW_none, errW_some] <;> rfl) | (simp [*, errW_none, errW_some] <;> rfl), (by exact rm (rs1 HO288 BK273)), (by exact rm (rs1 HO291 BK273)), (by exact rm (rs1 HO294 BK273)), bl⟩
 ·replace c5 := Bool.eq_false_iff.mpr c5
  subst c5
  rw [if_neg nf] at H
  revert H; refine bo ?_; rintro ⟨t295, t298, t301⟩ A59 H
  dsimp only at H
  simp only [Option.some.injEq, Prod.mk.injEq] at H
  obtain ⟨rfl, rfl, rfl, rfl⟩ := H
  go_enter Try.func8, Try.ntmps8
  go_wp2_with (first | ((with_reducible refine gate_dst (N := 2) rfl ?_); refine bx 2 #[.slice A0_0 l0_0.length c0_0, .slice A0_1 l0_1.length c0_1, .slice A0_2 l0_2.length c0_2] 31 ?_; intro gb271 hg w60 hbox hb; have BK271 := mk hbox; have GW271 := wg hg; have GE271 := wg hg; replace HB := wh hb; clear hb hbox hg) | ((with_reducible refine gate_dst (N := 3) rfl ?_); refine bx 3 #[.int .i64 a1_0, .int .i64 a1_1] 35 ?_; intro gb272 hg w61 hbox hb; have BK272 := mk hbox; have GW272 := wg hg; have GE272 := wg hg; replace HB := wh hb; have NB271_272 := nl BK271 hg; have NB272_271 := nr BK271 hg; replace BK271 := wb BK271 hb; clear hb hbox hg) | ((with_reducible refine gate_dst (N := 4) rfl ?_); refine bx 4 #[.slice none 0 0, .slice none 0 0, .slice none 0 0] 31 ?_; intro gb273 hg w62 hbox hb; have BK273 := mk hbox; have GW273 := wg hg; have GE273 := wg hg; replace HB := wh hb; have NB271_273 := nl BK271 hg; have NB273_271 := nr BK271 hg; replace BK271 := wb BK271 hb; have NB272_273 := nl BK272 hg; have NB273_272 := nr BK272 hg; replace BK272 := wb BK272 hb; clear hb hbox hg; have hnb63 := NB271_272.out; have hnc63 := NB272_271.out; have hnb64 := NB271_273.out; have hnc64 := NB273_271.out; obtain ⟨hcz65_0, hcz65_1, hcz65_2, hfz65_0, hfz65_1, hfz65_2⟩ := bz3 BK271; have hnb66 := NB272_273.out; have hnc66 := NB273_272.out; obtain ⟨hcz67_0, hcz67_1, hfz67_0, hfz67_1⟩ := bz2 BK272) | ((with_reducible refine gate_callee (f := 18) rfl ?_); refine gl (some 9) rfl Try.func18 #[.agg #[.slice A0_0 l0_0.length c0_0, .slice A0_1 l0_1.length c0_1, .slice A0_2 l0_2.length c0_2], .agg #[.int .i64 a1_0, .int .i64 a1_1]] ?_; (with_reducible refine (impl_withPivot.calls _ _ l0_0 _ _ l0_1 _ _ l0_2 a1_0 a1_1 t274 t277 t280 _ ?side1 ?side2 ?side3 ?side4 ?side5 ?side6 A3.out).mono ?_); (case side1 => exact uc (Kd.C_below HR0_0.out HB.out)); (case side2 => exact HC0_0.out); (case side3 => exact uc (Kd.C_below HR0_1.out HB.out)); (case side4 => exact HC0_1.out); (case side5 => exact uc (Kd.C_below HR0_2.out HB.out)); (case side6 => exact HC0_2.out); rintro e w68 ⟨v275, v278, v281, rfl, ho0, ho1, ho2, hb⟩; refine ⟨_, rfl, ?_⟩; have HO276 := mk (Kd.R_lower ho0 (below_size bl)); have HO279 := mk (Kd.R_lower ho1 (below_size bl)); have HO282 := mk (Kd.R_lower (Kd.R_newB ho2 (g := gb272) (o := .cells #[.int .i64 a1_0, .int .i64 a1_1] 35 (0, 0)) (ub BK272.out)) (below_size bl)); replace BK271 := wb BK271 hb; replace BK272 := wb BK272 hb; replace BK273 := wb BK273 hb; replace HB := wh hb; (try clear hb); (try clear hb2); (try clear hk); (try clear hi); (try clear ho0); (try clear ho1); (try clear ho2)) | ((with_reducible refine gate_dst (N := 6) rfl ?_); refine bx 6 #[.slice none 0 0, .slice none 0 0, .slice none 0 0] 31 ?_; intro gb283 hg w69 hbox hb; replace HO276 := mk (Kd.R_below (up HO276.out) hb); replace HO279 := mk (Kd.R_below (up HO279.out) hb); replace HO282 := mk (Kd.R_below (up HO282.out) hb); have BK283 := mk hbox; have GW283 := wg hg; have GE283 := wg hg; replace HB := wh hb; have NB271_283 := nl BK271 hg; have NB283_271 := nr BK271 hg; replace BK271 := wb BK271 hb; have NB272_283 := nl BK272 hg; have NB283_272 := nr BK272 hg; replace BK272 := wb BK272 hb; have NB273_283 := nl BK273 hg; have NB283_273 := nr BK273 hg; replace BK273 := wb BK273 hb; clear hb hbox hg; obtain ⟨Ao70, co70, eo70⟩ := Kd.R_slice HO276.out; subst eo70; have hnb71 := NB283_271.out; have hnc71 := NB271_283.out; have hnb72 := NB283_272.out; have hnc72 := NB272_283.out; have hnb73 := NB283_273.out; have hnc73 := NB273_283.out; obtain ⟨hcz74_0, hcz74_1, hcz74_2, hfz74_0, hfz74_1, hfz74_2⟩ := bz3 BK283; obtain ⟨Ao75, co75, eo75⟩ := Kd.R_slice HO279.out; subst eo75; obtain ⟨Ao76, co76, eo76⟩ := Kd.R_slice HO282.out; subst eo76; obtain ⟨hcz77_0, hcz77_1, hcz77_2, hfz77_0, hfz77_1, hfz77_2⟩ := bz3 BK271) | ((with_reducible refine gate_callee (f := 19) rfl ?_); refine gl (some 11) rfl Try.func19 #[.agg #[.slice A0_0 l0_0.length c0_0, .slice A0_1 l0_1.length c0_1, .slice A0_2 l0_2.length c0_2]] ?_; (with_reducible refine (impl_IsCracker.calls k _ _ l0_0 _ _ l0_1 _ _ l0_2 false _ ?side1 ?side2 ?side3 ?side4 ?side5 ?side6 A4.out).mono ?_); (case side1 => exact Kd.C_below HR0_0.out bl); (case side2 => exact HC0_0.out); (case side3 => exact Kd.C_below HR0_1.out bl); (case side4 => exact HC0_1.out); (case side5 => exact Kd.C_below HR0_2.out bl); (case side6 => exact HC0_2.out); rintro e w78 ⟨rfl, hb⟩; refine ⟨_, rfl, ?_⟩; replace HO276 := mk (Kd.R_below (by exact rs1 HO276 BK283) hb); replace HO279 := mk (Kd.R_below (by exact rs1 HO279 BK283) hb); replace HO282 := mk (Kd.R_below (by exact rs1 HO282 BK283) hb); replace BK271 := wx BK271 hb; replace BK272 := wx BK272 hb; replace BK273 := wx BK273 hb; replace BK283 := mk (blk_below (g := gb283) (o := .cells #[.slice Ao70 t274.length co70, .slice Ao75 t277.length co75, .slice Ao76 t280.length co76] 31 (0, 0)) bq hb); replace HB := wh hb; (try clear hb); (try clear hb2); (try clear hk); (try clear hi); obtain ⟨hcz79_0, hcz79_1, hcz79_2, hfz79_0, hfz79_1, hfz79_2⟩ := bz3 BK271) | ((with_reducible refine gate_callee (f := 20) rfl ?_); refine gl (some 19) rfl Try.func20 #[.agg #[.slice A0_0 l0_0.length c0_0, .slice A0_1 l0_1.length c0_1, .slice A0_2 l0_2.length c0_2]] ?_; (with_reducible refine (impl_copyCracker.calls _ _ l0_0 _ _ l0_1 _ _ l0_2 t295 t298 t301 _ ?side1 ?side2 ?side3 ?side4 ?side5 ?side6 A59.out).mono ?_); (case side1 => exact uc (Kd.C_below HR0_0.out HB.out)); (case side2 => exact HC0_0.out); (case side3 => exact uc (Kd.C_below HR0_1.out HB.out)); (case side4 => exact HC0_1.out); (case side5 => exact uc (Kd.C_below HR0_2.out HB.out)); (case side6 => exact HC0_2.out); rintro e w80 ⟨v296, v299, v302, rfl, ho0, ho1, ho2, hb⟩; refine ⟨_, rfl, ?_⟩; have HO297 := mk (Kd.R_lower (Kd.R_new' (Kd.R_new' ho0 (Kd.R_lt (up HO276.out))) (Kd.R_lt (up HO279.out))) (below_size bl)); have HO300 := mk (Kd.R_lower (Kd.R_new' (Kd.R_new' ho1 (Kd.R_lt (up HO276.out))) (Kd.R_lt (up HO279.out))) (below_size bl)); replace HO276 := mk (Kd.R_mono (Kd.R_told (Kd.R_told (Kd.R_old (up HO276.out) hb) (Kd.R_base ho0)) (Kd.R_base ho1)) (fun _ h_ => h_.1)); replace HO279 := mk (Kd.R_mono (Kd.R_told (Kd.R_told (Kd.R_old (up HO279.out) hb) (Kd.R_base ho0)) (Kd.R_base ho1)) (fun _ h_ => h_.1)); have HO303 := mk (Kd.R_lower (Kd.R_newB (Kd.R_new' ho2 (Kd.R_lt (up HO282.out))) (g := gb272) (o := .cells #[.int .i64 a1_0, .int .i64 a1_1] 35 (0, 0)) (ub BK272.out)) (below_size bl)); replace HO282 := mk (Kd.R_elder' (up HO282.out) (Kd.R_base ho2) hb); replace BK271 := wb BK271 hb; replace BK272 := wb BK272 hb; replace BK273 := wb BK273 hb; replace BK283 := wb BK283 hb; replace HB := wh hb; (try clear hb); (try clear hb2); (try clear hk); (try clear hi); (try clear ho0); (try clear ho1); (try clear ho2); obtain ⟨Ao81, co81, eo81⟩ := Kd.R_slice HO297.out; subst eo81; obtain ⟨hcz82_0, hcz82_1, hcz82_2, hfz82_0, hfz82_1, hfz82_2⟩ := bz3 BK273; obtain ⟨Ao83, co83, eo83⟩ := Kd.R_slice HO300.out; subst eo83; obtain ⟨Ao84, co84, eo84⟩ := Kd.R_slice HO303.out; subst eo84))
  refine bodyPost_ret (results_ct rfl _ _ gb273 31 #[.slice Ao81 t295.length co81, .slice Ao83 t298.length co83, .slice Ao84 t301.length co84] (0, 0) _ rfl bq Try.underlying31 rfl (by kernel_rfl)) rfl ?_
  exact ⟨_, _, _, by first | rfl | (simp [errW_none, errW_some] <;> rfl) | (simp [*, errW_none, errW_some] <;> rfl), (by exact rm (rs1 HO297 BK273)), (by exact rm (rs1 HO300 BK273)), (by exact rm (rs1 HO303 BK273)), bl⟩

/-! ### laws_eqIntS: function 21 -/
def laws_eqIntS.l0 : Nat → List Int → List Int → Int → Option (Bool)
  | 0, _, _, _ => none
  | k + 1, x0, x1, x5 => if x5 < (x0.length : Int) then (if 0 ≤ x5 then (if x5 < (x1.length : Int) then (if (rd x0 x5) = (rd x1 x5) then (laws_eqIntS.l0 k x0 x1 (wrap64 (x5 + 1))) else (some false)) else (none)) else (none)) else (some true)
def laws_eqIntS.f (k : Nat) (l0 : List Int) (l1 : List Int) : Option (Bool) := if (l0.length : Int) = (l1.length : Int) then (laws_eqIntS.l0 k l0 l1 0) else (some false)
theorem laws_eqIntS.mono_l : ∀ k, (∀ y0 y1 y2, LeO (laws_eqIntS.l0 k y0 y1 y2) (laws_eqIntS.l0 (k + 1) y0 y1 y2))
  | 0 => fun _ _ _ r h => by simp [laws_eqIntS.l0] at h
  | k + 1 => by
    have ih0 := laws_eqIntS.mono_l k
    · intro y0 y1 y2
      unfold laws_eqIntS.l0
      exact mo
theorem laws_eqIntS.mono : ∀ a0 a1 k, LeO (laws_eqIntS.f k a0 a1) (laws_eqIntS.f (k + 1) a0 a1) := by
  intro a0 a1 k
  have ih0 := laws_eqIntS.mono_l k
  unfold laws_eqIntS.f
  exact mo
instance laws_eqIntS.mi (a0 a1 k) : LeC (laws_eqIntS.f k a0 a1) (laws_eqIntS.f (k + 1) a0 a1) := ⟨laws_eqIntS.mono a0 a1 k⟩
set_option maxHeartbeats 8000000 in
set_option maxRecDepth 100000 in
theorem laws_eqIntS.calls (k : Nat) (A0 : Option Addr) (c0 : Nat) (l0 : List Int) (A1 : Option Addr) (c1 : Nat) (l1 : List Int) (r : Bool) (w : World) (hr0 : Kd.C (Kd.int .i64) w A0 l0.length l0) (hc0 : l0.length ≤ c0) (hr1 : Kd.C (Kd.int .i64) w A1 l1.length l1) (hc1 : l1.length ≤ c1) (h : laws_eqIntS.f k l0 l1 = some r) :
    Calls Try.prog 21 #[.slice A0 l0.length c0, .slice A1 l1.length c1] w fun e w' => e = .returned (.bool r) ∧ Drawn0 w w' := by
  have HR0 := Aside0.mk hr0
  have HC0 := Aside0.mk hc0
  clear hr0 hc0
  have HR1 := Aside0.mk hr1
  have HC1 := Aside0.mk hc1
  clear hr1 hc1
  have H : (if (l0.length : Int) = (l1.length : Int) then (laws_eqIntS.l0 k l0 l1 0) else (some false)) = some r := h
  clear h
  by_cases c3 : (l0.length : Int) = (l1.length : Int)
  · rw [if_pos c3] at H
    have c3b0 : ((l0.length : Int) == (l1.length : Int)) = true := beq_iff_eq.mpr c3
    have c3b1 : ((l0.length : Int) != (l1.length : Int)) = false := bne_eq_false_iff_eq.mpr c3
    have c3b2 : (l0.length == l1.length) = true := by first | simpa using c3 | (simp at c3 ⊢; omega)
    clear c3
    have H' := Aside0.mk H
    clear H
    go_enter Try.func21, Try.ntmps21
    go_wp2
    repeat (go_quiet (fail); try go_wp2)
    go_loopg [5] k (fun kq v5 w' => ∃ (x5_1 : Int), v5 = .int .i64 x5_1 ∧ Aside0 (laws_eqIntS.l0 kq l0 l1 x5_1 = some r) ∧ Aside0 (kq ≤ k) ∧ Drawn0 w w')
    case atStart => exact ⟨(0), (by first | rfl | (simp; done) | (simp [*]; done)), H', ⟨Nat.le_refl _⟩, by repeat (first | exact Drawn0.refl _ | apply Drawn0.step)⟩
    case round =>
      clear H'
      try clear c1
      try clear c2
      try clear p2
      try clear c3
      try clear c3b0
      try clear c3b1
      try clear c3b2
      obtain ⟨x5_1, rfl, HA, HK1, ⟨m1, rfl⟩⟩ := hrel
      cases gk with
      | zero => exact absurd HA.out (by simp [laws_eqIntS.l0])
      | succ k1 =>
        have H := HA.out
        clear HA
        simp only [laws_eqIntS.l0] at H
        by_cases c4 : x5_1 < (l0.length : Int)
        · rw [if_pos c4] at H
          have c4b0 : decide (x5_1 < (l0.length : Int)) = true := decide_eq_true c4
          clear c4
          by_cases c5 : 0 ≤ x5_1
          · rw [if_pos c5] at H
            have c5b0 : decide (0 ≤ x5_1) = true := decide_eq_true c5
            clear c5
            by_cases c6 : x5_1 < (l1.length : Int)
            · rw [if_pos c6] at H
              have c6b0 : decide (x5_1 < (l1.length : Int)) = true := decide_eq_true c6
              clear c6
              by_cases c7 : (rd l0 x5_1) = (rd l1 x5_1)
              · rw [if_pos c7] at H
                have c7b0 : ((rd l0 x5_1) == (rd l1 x5_1)) = true := beq_iff_eq.mpr c7
                have c7b1 : ((rd l0 x5_1) != (rd l1 x5_1)) = false := bne_eq_false_iff_eq.mpr c7
                clear c7
                have H' := Aside0.mk H
                clear H
                have p304 : 0 ≤ (x5_1 : Int) := dt
                have q304 : x5_1 < (l0.length : Int) := dt
                obtain ⟨ad304, e304, hx304_0⟩ := Kd.at_int HR0.out x5_1 p304 q304
                cases e304
                replace p304 := eq_true p304
                replace q304 := eq_true q304
                have p305 : 0 ≤ (x5_1 : Int) := dt
                have q305 : x5_1 < (l1.length : Int) := dt
                obtain ⟨ad305, e305, hx305_0⟩ := Kd.at_int HR1.out x5_1 p305 q305
                cases e305
                replace p305 := eq_true p305
                replace q305 := eq_true q305
                go_wp2
                repeat (go_quiet (fail); try go_wp2)
                go_roundg k1
                case measure => have := HK1.out; omega
                case rel => exact ⟨(wrap64 (x5_1 + 1)), (by first | rfl | (simp; done) | (simp [*]; done)), H', ⟨by have := HK1.out; omega⟩, by repeat (first | exact Drawn0.refl _ | apply Drawn0.step)⟩
              · rw [if_neg c7] at H
                have c7b0 : ((rd l0 x5_1) == (rd l1 x5_1)) = false := beq_eq_false_iff_ne.mpr c7
                have c7b1 : ((rd l0 x5_1) != (rd l1 x5_1)) = true := bne_iff_ne.mpr c7
                obtain rfl := Option.some.inj H
                have p304 : 0 ≤ (x5_1 : Int) := dt
                have q304 : x5_1 < (l0.length : Int) := dt
                obtain ⟨ad304, e304, hx304_0⟩ := Kd.at_int HR0.out x5_1 p304 q304
                cases e304
                replace p304 := eq_true p304
                replace q304 := eq_true q304
                have p305 : 0 ≤ (x5_1 : Int) := dt
                have q305 : x5_1 < (l1.length : Int) := dt
                obtain ⟨ad305, e305, hx305_0⟩ := Kd.at_int HR1.out x5_1 p305 q305
                cases e305
                replace p305 := eq_true p305
                replace q305 := eq_true q305
                go_wp2
                repeat (go_quiet (fail); try go_wp2)
                go_ret
                exact ⟨by first | rfl | (simp; done) | (simp [*]; done), by repeat (first | exact Drawn0.refl _ | apply Drawn0.step)⟩
            · rw [if_neg c6] at H
              exact absurd H (by simp)
          · rw [if_neg c5] at H
            exact absurd H (by simp)
        · rw [if_neg c4] at H
          have c4b0 : decide (x5_1 < (l0.length : Int)) = false := decide_eq_false c4
          clear c4
          obtain rfl := Option.some.inj H
          go_wp2
          repeat (go_quiet (fail); try go_wp2)
          go_ret
          exact ⟨by first | rfl | (simp; done) | (simp [*]; done), by repeat (first | exact Drawn0.refl _ | apply Drawn0.step)⟩
  · rw [if_neg c3] at H
    have c3b0 : ((l0.length : Int) == (l1.length : Int)) = false := beq_eq_false_iff_ne.mpr c3
    have c3b1 : ((l0.length : Int) != (l1.length : Int)) = true := bne_iff_ne.mpr c3
    have c3b2 : (l0.length == l1.length) = false := by first | simpa using c3 | (simp at c3 ⊢; omega)
    obtain rfl := Option.some.inj H
    go_enter Try.func21, Try.ntmps21
    go_wp2
    repeat (go_quiet (fail); try go_wp2)
    go_ret
    exact ⟨by first | rfl | (simp; done) | (simp [*]; done), by repeat (first | exact Drawn0.refl _ | apply Drawn0.step)⟩

/-! ### laws_eqPivot: function 40 -/
def laws_eqPivot.f (a0_0 : Int) (a0_1 : Int) (a1_0 : Int) (a1_1 : Int) : Option (Bool) := if a0_0 = a1_0 then (if a0_1 = a1_1 then (some true) else (some false)) else (some false)
set_option maxHeartbeats 8000000 in
set_option maxRecDepth 100000 in
theorem laws_eqPivot.calls (a0_0 : Int) (a0_1 : Int) (a1_0 : Int) (a1_1 : Int) (r : Bool) (w : World) (h : laws_eqPivot.f a0_0 a0_1 a1_0 a1_1 = some r) :
    Calls Try.prog 40 #[.agg #[.int .i64 a0_0, .int .i64 a0_1], .agg #[.int .i64 a1_0, .int .i64 a1_1]] w fun e w' => e = .returned (.bool r) ∧ Below w.heap.size w w' := by
  have hu35 := Try.underlying35
  have HB := Aside0.mk (Below.refl w.heap.size w)
  have H : (if a0_0 = a1_0 then (if a0_1 = a1_1 then (some true) else (some false)) else (some false)) = some r := h
  clear h
  by_cases c3 : a0_0 = a1_0
  · rw [if_pos c3] at H
    have c3b0 : (a0_0 == a1_0) = true := beq_iff_eq.mpr c3
    have c3b1 : (a0_0 != a1_0) = false := bne_eq_false_iff_eq.mpr c3
    clear c3
    by_cases c4 : a0_1 = a1_1
    · rw [if_pos c4] at H
      have c4b0 : (a0_1 == a1_1) = true := beq_iff_eq.mpr c4
      have c4b1 : (a0_1 != a1_1) = false := bne_eq_false_iff_eq.mpr c4
      clear c4
      obtain rfl := Option.some.inj H
      go_enter Try.func40, Try.ntmps40
      go_wp2_with (first | ((with_reducible refine gate_dst (N := 2) rfl ?_); refine bx 2 #[.int .i64 a0_0, .int .i64 a0_1] 35 ?_; intro gb306 hg w5 hbox hb; have BK306 := mk hbox; have GW306 := wg hg; have GE306 := wg hg; replace HB := wh hb; clear hb hbox hg) | ((with_reducible refine gate_dst (N := 3) rfl ?_); refine bx 3 #[.int .i64 a1_0, .int .i64 a1_1] 35 ?_; intro gb307 hg w6 hbox hb; have BK307 := mk hbox; have GW307 := wg hg; have GE307 := wg hg; replace HB := wh hb; have NB306_307 := nl BK306 hg; have NB307_306 := nr BK306 hg; replace BK306 := wb BK306 hb; clear hb hbox hg; have hnb7 := NB306_307.out; have hnc7 := NB307_306.out; obtain ⟨hcz8_0, hcz8_1, hfz8_0, hfz8_1⟩ := bz2 BK306; obtain ⟨hcz9_0, hcz9_1, hfz9_0, hfz9_1⟩ := bz2 BK307))
      go_ret
      exact ⟨by first | rfl | (simp [errW_none, errW_some] <;> rfl) | (simp [*, errW_none, errW_some] <;> rfl), bl⟩
    · rw [if_neg c4] at H
      have c4b0 : (a0_1 == a1_1) = false := beq_eq_false_iff_ne.mpr c4
      have c4b1 : (a0_1 != a1_1) = true := bne_iff_ne.mpr c4
      obtain rfl := Option.some.inj H
      go_enter Try.func40, Try.ntmps40
      go_wp2_with (first | ((with_reducible refine gate_dst (N := 2) rfl ?_); refine bx 2 #[.int .i64 a0_0, .int .i64 a0_1] 35 ?_; intro gb306 hg w10 hbox hb; have BK306 := mk hbox; have GW306 := wg hg; have GE306 := wg hg; replace HB := wh hb; clear hb hbox hg) | ((with_reducible refine gate_dst (N := 3) rfl ?_); refine bx 3 #[.int .i64 a1_0, .int .i64 a1_1] 35 ?_; intro gb307 hg w11 hbox hb; have BK307 := mk hbox; have GW307 := wg hg; have GE307 := wg hg; replace HB := wh hb; have NB306_307 := nl BK306 hg; have NB307_306 := nr BK306 hg; replace BK306 := wb BK306 hb; clear hb hbox hg; have hnb12 := NB306_307.out; have hnc12 := NB307_306.out; obtain ⟨hcz13_0, hcz13_1, hfz13_0, hfz13_1⟩ := bz2 BK306; obtain ⟨hcz14_0, hcz14_1, hfz14_0, hfz14_1⟩ := bz2 BK307))
      go_ret
      exact ⟨by first | rfl | (simp [errW_none, errW_some] <;> rfl) | (simp [*, errW_none, errW_some] <;> rfl), bl⟩
  · rw [if_neg c3] at H
    have c3b0 : (a0_0 == a1_0) = false := beq_eq_false_iff_ne.mpr c3
    have c3b1 : (a0_0 != a1_0) = true := bne_iff_ne.mpr c3
    obtain rfl := Option.some.inj H
    go_enter Try.func40, Try.ntmps40
    go_wp2_with (first | ((with_reducible refine gate_dst (N := 2) rfl ?_); refine bx 2 #[.int .i64 a0_0, .int .i64 a0_1] 35 ?_; intro gb306 hg w15 hbox hb; have BK306 := mk hbox; have GW306 := wg hg; have GE306 := wg hg; replace HB := wh hb; clear hb hbox hg) | ((with_reducible refine gate_dst (N := 3) rfl ?_); refine bx 3 #[.int .i64 a1_0, .int .i64 a1_1] 35 ?_; intro gb307 hg w16 hbox hb; have BK307 := mk hbox; have GW307 := wg hg; have GE307 := wg hg; replace HB := wh hb; have NB306_307 := nl BK306 hg; have NB307_306 := nr BK306 hg; replace BK306 := wb BK306 hb; clear hb hbox hg; have hnb17 := NB306_307.out; have hnc17 := NB307_306.out; obtain ⟨hcz18_0, hcz18_1, hfz18_0, hfz18_1⟩ := bz2 BK306; obtain ⟨hcz19_0, hcz19_1, hfz19_0, hfz19_1⟩ := bz2 BK307))
    go_ret
    exact ⟨by first | rfl | (simp [errW_none, errW_some] <;> rfl) | (simp [*, errW_none, errW_some] <;> rfl), bl⟩

/-! ### laws_eqPivotS: function 22 -/
def laws_eqPivotS.l0 : Nat → List (S35) → List (S35) → Int → Option (Bool)
  | 0, _, _, _ => none
  | k + 1, x0, x1, x5 => if x5 < (x0.length : Int) then (if 0 ≤ x5 then (if x5 < (x1.length : Int) then ((laws_eqPivot.f ((rd_T35 x0 x5).f0) ((rd_T35 x0 x5).f1) ((rd_T35 x1 x5).f0) ((rd_T35 x1 x5).f1)).bind fun t310 => (if t310 = true then (laws_eqPivotS.l0 k x0 x1 (wrap64 (x5 + 1))) else (some false))) else (none)) else (none)) else (some true)
def laws_eqPivotS.f (k : Nat) (l0 : List (S35)) (l1 : List (S35)) : Option (Bool) := if (l0.length : Int) = (l1.length : Int) then (laws_eqPivotS.l0 k l0 l1 0) else (some false)
theorem laws_eqPivotS.mono_l : ∀ k, (∀ y0 y1 y2, LeO (laws_eqPivotS.l0 k y0 y1 y2) (laws_eqPivotS.l0 (k + 1) y0 y1 y2))
  | 0 => fun _ _ _ r h => by simp [laws_eqPivotS.l0] at h
  | k + 1 => by
    have ih0 := laws_eqPivotS.mono_l k
    · intro y0 y1 y2
      unfold laws_eqPivotS.l0
      exact mo
theorem laws_eqPivotS.mono : ∀ a0 a1 k, LeO (laws_eqPivotS.f k a0 a1) (laws_eqPivotS.f (k + 1) a0 a1) := by
  intro a0 a1 k
  have ih0 := laws_eqPivotS.mono_l k
  unfold laws_eqPivotS.f
  exact mo
instance laws_eqPivotS.mi (a0 a1 k) : LeC (laws_eqPivotS.f k a0 a1) (laws_eqPivotS.f (k + 1) a0 a1) := ⟨laws_eqPivotS.mono a0 a1 k⟩
def laws_eqPivotS.T6 : Bool × List (List Nat × List Nat) := (true, [([], []), ([], []), ([0, 1], [0, 1]), ([2], [2]), ([], []), ([], []), ([4, 5], [4, 5]), ([6], [6]), ([3, 7], [3, 7]), ([8], [8])])
def laws_eqPivotS.B6 : List Nat := [0, 0, 3, 7, 0, 0, 48, 112, 255, 511]
theorem laws_eqPivotS.tab6 : rtab .any (opsOf Try.f22 6) = laws_eqPivotS.T6 := by kernel_rfl
theorem laws_eqPivotS.bits6 : waitsOk laws_eqPivotS.T6.2 laws_eqPivotS.B6 = true := by kernel_rfl
set_option maxHeartbeats 8000000 in
set_option maxRecDepth 100000 in
theorem laws_eqPivotS.calls (k : Nat) (A0 : Option Addr) (c0 : Nat) (l0 : List (S35)) (A1 : Option Addr) (c1 : Nat) (l1 : List (S35)) (r : Bool) (w : World) (hr0 : Kd.C k35 w A0 l0.length l0) (hc0 : l0.length ≤ c0) (hr1 : Kd.C k35 w A1 l1.length l1) (hc1 : l1.length ≤ c1) (h : laws_eqPivotS.f k l0 l1 = some r) :
    Calls Try.prog 22 #[.slice A0 l0.length c0, .slice A1 l1.length c1] w fun e w' => e = .returned (.bool r) ∧ Below w.heap.size w w' := by
  have hu35 := Try.underlying35
  have HR0 := Aside0.mk hr0
  have HC0 := Aside0.mk hc0
  clear hr0 hc0
  have HR1 := Aside0.mk hr1
  have HC1 := Aside0.mk hc1
  clear hr1 hc1
  have HB := Aside0.mk (Below.refl w.heap.size w)
  have H : (if (l0.length : Int) = (l1.length : Int) then (laws_eqPivotS.l0 k l0 l1 0) else (some false)) = some r := h
  clear h
  by_cases c3 : (l0.length : Int) = (l1.length : Int)
  · rw [if_pos c3] at H
    have c3b0 : ((l0.length : Int) == (l1.length : Int)) = true := beq_iff_eq.mpr c3
    have c3b1 : ((l0.length : Int) != (l1.length : Int)) = false := bne_eq_false_iff_eq.mpr c3
    have c3b2 : (l0.length == l1.length) = true := by first | simpa using c3 | (simp at c3 ⊢; omega)
    clear c3
    have H' := Aside0.mk H
    clear H
    go_enter Try.func22, Try.ntmps22
    go_wp2
    go_loopg [5] k (fun kq v5 w' => ∃ (x5_1 : Int), v5 = .int .i64 x5_1 ∧ Aside0 (laws_eqPivotS.l0 kq l0 l1 x5_1 = some r) ∧ Aside0 (kq ≤ k) ∧ Aside0 (Below w.heap.size w w'))
    case atStart => exact ⟨(0), (by first | rfl | (simp; done) | (simp [*]; done)), H', ⟨Nat.le_refl _⟩, ⟨bl⟩⟩
    case round =>
      clear H'
      try clear c1
      try clear c2
      try clear p2
      try clear c3
      try clear c3b0
      try clear c3b1
      try clear c3b2
      obtain ⟨x5_1, rfl, HA, HK1, HB⟩ := hrel
      cases gk with
      | zero => exact absurd HA.out (by simp [laws_eqPivotS.l0])
      | succ k1 =>
        have H := HA.out
        clear HA
        simp only [laws_eqPivotS.l0] at H
        by_cases c4 : x5_1 < (l0.length : Int)
        · rw [if_pos c4] at H
          have c4b0 : decide (x5_1 < (l0.length : Int)) = true := decide_eq_true c4
          clear c4
          by_cases c5 : 0 ≤ x5_1
          · rw [if_pos c5] at H
            have c5b0 : decide (0 ≤ x5_1) = true := decide_eq_true c5
            clear c5
            by_cases c6 : x5_1 < (l1.length : Int)
            · rw [if_pos c6] at H
              have c6b0 : decide (x5_1 < (l1.length : Int)) = true := decide_eq_true c6
              clear c6
              revert H; refine bo ?_; rintro t310 A7 H
              by_cases c8 : t310 = true
              · subst c8
                rw [if_pos rfl] at H
                have H' := Aside0.mk H
                clear H
                try go_wp2
                replace HB := mk (below_drew1 HB.out)
                have p308 : 0 ≤ (x5_1 : Int) := dt
                have q308 : x5_1 < (l0.length : Int) := dt
                obtain ⟨ad308, e308, hx308_0, hx308_1⟩ := at_T35 HR0.out x5_1 p308 q308
                have hw308_1 := hx308_1
                have hw308_0 := hx308_0
                cases e308
                replace hx308_0 := (HB.out.cell (World.block_lt_of_cell? w _ hx308_0)).trans hx308_0
                replace hx308_1 := (HB.out.cell (World.block_lt_of_cell? w _ hx308_1)).trans hx308_1
                replace p308 := eq_true p308
                replace q308 := eq_true q308
                have p309 : 0 ≤ (x5_1 : Int) := dt
                have q309 : x5_1 < (l1.length : Int) := dt
                obtain ⟨ad309, e309, hx309_0, hx309_1⟩ := at_T35 HR1.out x5_1 p309 q309
                have hw309_1 := hx309_1
                have hw309_0 := hx309_0
                cases e309
                replace hx309_0 := (HB.out.cell (World.block_lt_of_cell? w _ hx309_0)).trans hx309_0
                replace hx309_1 := (HB.out.cell (World.block_lt_of_cell? w _ hx309_1)).trans hx309_1
                replace p309 := eq_true p309
                replace q309 := eq_true q309
                refine start_ (n := 10) (S := fun w' => w'.cell? (ad308.add ((x5_1).toNat * 2)) = some (.int .i64 ((rd_T35 l0 x5_1).f0)) ∧ w'.cell? ⟨(ad308.add ((x5_1).toNat * 2)).block, (ad308.add ((x5_1).toNat * 2)).off + 1, none⟩ = some (.int .i64 ((rd_T35 l0 x5_1).f1)) ∧ w'.cell? (ad309.add ((x5_1).toNat * 2)) = some (.int .i64 ((rd_T35 l1 x5_1).f0)) ∧ w'.cell? ⟨(ad309.add ((x5_1).toNat * 2)).block, (ad309.add ((x5_1).toNat * 2)).off + 1, none⟩ = some (.int .i64 ((rd_T35 l1 x5_1).f1))) (ds := []) #[false, false, false, false, false, false, false, false, false, false] (by kernel_rfl) rfl rfl ⟨((HB.out.cell (World.block_lt_of_cell? w _ hw308_0)).trans hw308_0), ((HB.out.cell (World.block_lt_of_cell? w _ hw308_1)).trans hw308_1), ((HB.out.cell (World.block_lt_of_cell? w _ hw309_0)).trans hw309_0), ((HB.out.cell (World.block_lt_of_cell? w _ hw309_1)).trans hw309_1)⟩ (fun hHeld => ?_); refine with_tabW laws_eqPivotS.tab6 laws_eqPivotS.bits6 (fun HT_ HW_ => ?_)
                generalize wr.drew = w9 at HB hx308_0 hx308_1 hx309_0 hx309_1 hHeld ⊢
                refine pu 0 17 (tf 1 9) ?_
                refine pu 1 18 (tf 2 8) ?_
                refine pu 2 19 (tf 3 7) ?_
                refine pu 4 21 #[T_,T_,T_,F_,T_,F_,F_,F_,F_,F_] ?_
                refine pu 5 22 #[T_,T_,T_,F_,T_,T_,F_,F_,F_,F_] ?_
                refine pu 6 23 #[T_,T_,T_,F_,T_,T_,T_,F_,F_,F_] ?_
                refine tk 3 20 (tf 7 3) hHeld ?_
                refine tk 7 24 (tf 8 2) hHeld ?_
                refine on 8 25 (tf 9 1) (fun K hK => ?_)
                refine gs Try.func40 #[.agg #[.int .i64 ((rd_T35 l0 x5_1).f0), .int .i64 ((rd_T35 l0 x5_1).f1)], .agg #[.int .i64 ((rd_T35 l1 x5_1).f0), .int .i64 ((rd_T35 l1 x5_1).f1)]] ?_
                with_reducible refine (laws_eqPivot.calls ((rd_T35 l0 x5_1).f0) ((rd_T35 l0 x5_1).f1) ((rd_T35 l1 x5_1).f0) ((rd_T35 l1 x5_1).f1) true _ A7.out).mono ?_
                rintro e w10 ⟨rfl, hb⟩
                refine ⟨_, rfl, ?_⟩
                replace HB := wh hb
                (try clear hb)
                (try clear hb2)
                (try clear hk)
                (try clear hi)
                refine hK.out _ _ ⟨((HB.out.cell (World.block_lt_of_cell? w _ hw308_0)).trans hw308_0), ((HB.out.cell (World.block_lt_of_cell? w _ hw308_1)).trans hw308_1), ((HB.out.cell (World.block_lt_of_cell? w _ hw309_0)).trans hw309_0), ((HB.out.cell (World.block_lt_of_cell? w _ hw309_1)).trans hw309_1)⟩ (fun hHeld => ?_)
                clear hK K
                refine nm 25 ?_
                refine pu 9 26 (tf 10 0) ?_
                refine done_ (done_of HT_.out (by kernel_rfl)) ?_
                try go_wp2
                go_roundg k1
                case measure => have := HK1.out; omega
                case rel => exact ⟨(wrap64 (x5_1 + 1)), (by first | rfl | (simp; done) | (simp [*]; done)), H', ⟨by have := HK1.out; omega⟩, ⟨bl⟩⟩
              · replace c8 := Bool.eq_false_iff.mpr c8
                subst c8
                rw [if_neg nf] at H
                obtain rfl := Option.some.inj H
                try go_wp2
                replace HB := mk (below_drew1 HB.out)
                have p308 : 0 ≤ (x5_1 : Int) := dt
                have q308 : x5_1 < (l0.length : Int) := dt
                obtain ⟨ad308, e308, hx308_0, hx308_1⟩ := at_T35 HR0.out x5_1 p308 q308
                have hw308_1 := hx308_1
                have hw308_0 := hx308_0
                cases e308
                replace hx308_0 := (HB.out.cell (World.block_lt_of_cell? w _ hx308_0)).trans hx308_0
                replace hx308_1 := (HB.out.cell (World.block_lt_of_cell? w _ hx308_1)).trans hx308_1
                replace p308 := eq_true p308
                replace q308 := eq_true q308
                have p309 : 0 ≤ (x5_1 : Int) := dt
                have q309 : x5_1 < (l1.length : Int) := dt
                obtain ⟨ad309, e309, hx309_0, hx309_1⟩ := at_T35 HR1.out x5_1 p309 q309
                have hw309_1 := hx309_1
                have hw309_0 := hx309_0
                cases e309
                replace hx309_0 := (HB.out.cell (World.block_lt_of_cell? w _ hx309_0)).trans hx309_0
                replace hx309_1 := (HB.out.cell (World.block_lt_of_cell? w _ hx309_1)).trans hx309_1
                replace p309 := eq_true p309
                replace q309 := eq_true q309
                refine start_ (n := 10) (S := fun w' => w'.cell? (ad308.add ((x5_1).toNat * 2)) = some (.int .i64 ((rd_T35 l0 x5_1).f0)) ∧ w'.cell? ⟨(ad308.add ((x5_1).toNat * 2)).block, (ad308.add ((x5_1).toNat * 2)).off + 1, none⟩ = some (.int .i64 ((rd_T35 l0 x5_1).f1)) ∧ w'.cell? (ad309.add ((x5_1).toNat * 2)) = some (.int .i64 ((rd_T35 l1 x5_1).f0)) ∧ w'.cell? ⟨(ad309.add ((x5_1).toNat * 2)).block, (ad309.add ((x5_1).toNat * 2)).off + 1, none⟩ = some (.int .i64 ((rd_T35 l1 x5_1).f1))) (ds := []) #[false, false, false, false, false, false, false, false, false, false] (by kernel_rfl) rfl rfl ⟨((HB.out.cell (World.block_lt_of_cell? w _ hw308_0)).trans hw308_0), ((HB.out.cell (World.block_lt_of_cell? w _ hw308_1)).trans hw308_1), ((HB.out.cell (World.block_lt_of_cell? w _ hw309_0)).trans hw309_0), ((HB.out.cell (World.block_lt_of_cell? w _ hw309_1)).trans hw309_1)⟩ (fun hHeld => ?_); refine with_tabW laws_eqPivotS.tab6 laws_eqPivotS.bits6 (fun HT_ HW_ => ?_)
                generalize wr.drew = w11 at HB hx308_0 hx308_1 hx309_0 hx309_1 hHeld ⊢
                refine pu 0 17 (tf 1 9) ?_
                refine pu 1 18 (tf 2 8) ?_
                refine pu 2 19 (tf 3 7) ?_
                refine pu 4 21 #[T_,T_,T_,F_,T_,F_,F_,F_,F_,F_] ?_
                refine pu 5 22 #[T_,T_,T_,F_,T_,T_,F_,F_,F_,F_] ?_
                refine pu 6 23 #[T_,T_,T_,F_,T_,T_,T_,F_,F_,F_] ?_
                refine tk 3 20 (tf 7 3) hHeld ?_
                refine tk 7 24 (tf 8 2) hHeld ?_
                refine on 8 25 (tf 9 1) (fun K hK => ?_)
                refine gs Try.func40 #[.agg #[.int .i64 ((rd_T35 l0 x5_1).f0), .int .i64 ((rd_T35 l0 x5_1).f1)], .agg #[.int .i64 ((rd_T35 l1 x5_1).f0), .int .i64 ((rd_T35 l1 x5_1).f1)]] ?_
                with_reducible refine (laws_eqPivot.calls ((rd_T35 l0 x5_1).f0) ((rd_T35 l0 x5_1).f1) ((rd_T35 l1 x5_1).f0) ((rd_T35 l1 x5_1).f1) false _ A7.out).mono ?_
                rintro e w12 ⟨rfl, hb⟩
                refine ⟨_, rfl, ?_⟩
                replace HB := wh hb
                (try clear hb)
                (try clear hb2)
                (try clear hk)
                (try clear hi)
                refine hK.out _ _ ⟨((HB.out.cell (World.block_lt_of_cell? w _ hw308_0)).trans hw308_0), ((HB.out.cell (World.block_lt_of_cell? w _ hw308_1)).trans hw308_1), ((HB.out.cell (World.block_lt_of_cell? w _ hw309_0)).trans hw309_0), ((HB.out.cell (World.block_lt_of_cell? w _ hw309_1)).trans hw309_1)⟩ (fun hHeld => ?_)
                clear hK K
                refine nm 25 ?_
                refine pu 9 26 (tf 10 0) ?_
                refine done_ (done_of HT_.out (by kernel_rfl)) ?_
                try go_wp2
                go_ret
                exact ⟨by first | rfl | (simp [errW_none, errW_some] <;> rfl) | (simp [*, errW_none, errW_some] <;> rfl), bl⟩
            · rw [if_neg c6] at H
              exact absurd H (by simp)
          · rw [if_neg c5] at H
            exact absurd H (by simp)
        · rw [if_neg c4] at H
          have c4b0 : decide (x5_1 < (l0.length : Int)) = false := decide_eq_false c4
          clear c4
          obtain rfl := Option.some.inj H
          go_wp2
          go_ret
          exact ⟨by first | rfl | (simp [errW_none, errW_some] <;> rfl) | (simp [*, errW_none, errW_some] <;> rfl), bl⟩
  · rw [if_neg c3] at H
    have c3b0 : ((l0.length : Int) == (l1.length : Int)) = false := beq_eq_false_iff_ne.mpr c3
    have c3b1 : ((l0.length : Int) != (l1.length : Int)) = true := bne_iff_ne.mpr c3
    have c3b2 : (l0.length == l1.length) = false := by first | simpa using c3 | (simp at c3 ⊢; omega)
    obtain rfl := Option.some.inj H
    go_enter Try.func22, Try.ntmps22
    go_wp2
    go_ret
    exact ⟨by first | rfl | (simp [errW_none, errW_some] <;> rfl) | (simp [*, errW_none, errW_some] <;> rfl), bl⟩

/-! ### laws_eqCracker: function 9 -/
def laws_eqCracker.f (k : Nat) (l0_0 : List Int) (l0_1 : List Int) (l0_2 : List (S35)) (l1_0 : List Int) (l1_1 : List Int) (l1_2 : List (S35)) : Option (Bool) := (laws_eqIntS.f k l0_0 l1_0).bind fun t313 => (if t313 = true then ((laws_eqIntS.f k l0_1 l1_1).bind fun t314 => (if t314 = true then ((laws_eqPivotS.f k l0_2 l1_2).bind fun t315 => (if t315 = true then (some true) else (some false))) else (some false))) else (some false))
theorem laws_eqCracker.mono : ∀ a0 a1 a2 a3 a4 a5 k, LeO (laws_eqCracker.f k a0 a1 a2 a3 a4 a5) (laws_eqCracker.f (k + 1) a0 a1 a2 a3 a4 a5) := by
  intro a0 a1 a2 a3 a4 a5 k
  unfold laws_eqCracker.f
  exact mo
instance laws_eqCracker.mi (a0 a1 a2 a3 a4 a5 k) : LeC (laws_eqCracker.f k a0 a1 a2 a3 a4 a5) (laws_eqCracker.f (k + 1) a0 a1 a2 a3 a4 a5) := ⟨laws_eqCracker.mono a0 a1 a2 a3 a4 a5 k⟩
set_option maxHeartbeats 8000000 in
set_option maxRecDepth 100000 in
theorem laws_eqCracker.calls (k : Nat) (A0_0 : Option Addr) (c0_0 : Nat) (l0_0 : List Int) (A0_1 : Option Addr) (c0_1 : Nat) (l0_1 : List Int) (A0_2 : Option Addr) (c0_2 : Nat) (l0_2 : List (S35)) (A1_0 : Option Addr) (c1_0 : Nat) (l1_0 : List Int) (A1_1 : Option Addr) (c1_1 : Nat) (l1_1 : List Int) (A1_2 : Option Addr) (c1_2 : Nat) (l1_2 : List (S35)) (r : Bool) (w : World) (hr0_0 : Kd.C (Kd.int .i64) w A0_0 l0_0.length l0_0) (hc0_0 : l0_0.length ≤ c0_0) (hr0_1 : Kd.C (Kd.int .i64) w A0_1 l0_1.length l0_1) (hc0_1 : l0_1.length ≤ c0_1) (hr0_2 : Kd.C k35 w A0_2 l0_2.length l0_2) (hc0_2 : l0_2.length ≤ c0_2) (hr1_0 : Kd.C (Kd.int .i64) w A1_0 l1_0.length l1_0) (hc1_0 : l1_0.length ≤ c1_0) (hr1_1 : Kd.C (Kd.int .i64) w A1_1 l1_1.length l1_1) (hc1_1 : l1_1.length ≤ c1_1) (hr1_2 : Kd.C k35 w A1_2 l1_2.length l1_2) (hc1_2 : l1_2.length ≤ c1_2) (h : laws_eqCracker.f k l0_0 l0_1 l0_2 l1_0 l1_1 l1_2 = some r) :
    Calls Try.prog 9 #[.agg #[.slice A0_0 l0_0.length c0_0, .slice A0_1 l0_1.length c0_1, .slice A0_2 l0_2.length c0_2], .agg #[.slice A1_0 l1_0.length c1_0, .slice A1_1 l1_1.length c1_1, .slice A1_2 l1_2.length c1_2]] w fun e w' => e = .returned (.bool r) ∧ Below w.heap.size w w' := by
  have hu31 := Try.underlying31
  have HR0_0 := Aside0.mk hr0_0
  have HC0_0 := Aside0.mk hc0_0
  clear hr0_0 hc0_0
  have HR0_1 := Aside0.mk hr0_1
  have HC0_1 := Aside0.mk hc0_1
  clear hr0_1 hc0_1
  have HR0_2 := Aside0.mk hr0_2
  have HC0_2 := Aside0.mk hc0_2
  clear hr0_2 hc0_2
  have HR1_0 := Aside0.mk hr1_0
  have HC1_0 := Aside0.mk hc1_0
  clear hr1_0 hc1_0
  have HR1_1 := Aside0.mk hr1_1
  have HC1_1 := Aside0.mk hc1_1
  clear hr1_1 hc1_1
  have HR1_2 := Aside0.mk hr1_2
  have HC1_2 := Aside0.mk hc1_2
  clear hr1_2 hc1_2
  have HB := Aside0.mk (Below.refl w.heap.size w)
  have H : ((laws_eqIntS.f k l0_0 l1_0).bind fun t313 => (if t313 = true then ((laws_eqIntS.f k l0_1 l1_1).bind fun t314 => (if t314 = true then ((laws_eqPivotS.f k l0_2 l1_2).bind fun t315 => (if t315 = true then (some true) else (some false))) else (some false))) else (some false))) = some r := h
  clear h
  revert H; refine bo ?_; rintro t313 A3 H
  by_cases c4 : t313 = true
  · subst c4
    rw [if_pos rfl] at H
    revert H; refine bo ?_; rintro t314 A5 H
    by_cases c6 : t314 = true
    · subst c6
      rw [if_pos rfl] at H
      revert H; refine bo ?_; rintro t315 A7 H
      by_cases c8 : t315 = true
      · subst c8
        rw [if_pos rfl] at H
        obtain rfl := Option.some.inj H
        go_enter Try.func9, Try.ntmps9
        go_wp2_with (first | ((with_reducible refine gate_dst (N := 2) rfl ?_); refine bx 2 #[.slice A0_0 l0_0.length c0_0, .slice A0_1 l0_1.length c0_1, .slice A0_2 l0_2.length c0_2] 31 ?_; intro gb311 hg w9 hbox hb; have BK311 := mk hbox; have GW311 := wg hg; have GE311 := wg hg; replace HB := wh hb; clear hb hbox hg) | ((with_reducible refine gate_dst (N := 3) rfl ?_); refine bx 3 #[.slice A1_0 l1_0.length c1_0, .slice A1_1 l1_1.length c1_1, .slice A1_2 l1_2.length c1_2] 31 ?_; intro gb312 hg w10 hbox hb; have BK312 := mk hbox; have GW312 := wg hg; have GE312 := wg hg; replace HB := wh hb; have NB311_312 := nl BK311 hg; have NB312_311 := nr BK311 hg; replace BK311 := wb BK311 hb; clear hb hbox hg; have hnb11 := NB311_312.out; have hnc11 := NB312_311.out; obtain ⟨hcz12_0, hcz12_1, hcz12_2, hfz12_0, hfz12_1, hfz12_2⟩ := bz3 BK311; obtain ⟨hcz13_0, hcz13_1, hcz13_2, hfz13_0, hfz13_1, hfz13_2⟩ := bz3 BK312) | ((with_reducible refine gate_callee (f := 21) rfl ?_); refine gl (some 9) rfl Try.func21 #[.slice A0_0 l0_0.length c0_0, .slice A1_0 l1_0.length c1_0] ?_; (with_reducible refine (laws_eqIntS.calls k _ _ l0_0 _ _ l1_0 true _ ?side1 ?side2 ?side3 ?side4 A3.out).mono ?_); (case side1 => exact uc (Kd.C_below HR0_0.out HB.out)); (case side2 => exact HC0_0.out); (case side3 => exact uc (Kd.C_below HR1_0.out HB.out)); (case side4 => exact HC1_0.out); rintro e w' ⟨rfl, ⟨nd, rfl⟩⟩; refine ⟨_, rfl, ?_⟩) | ((with_reducible refine gate_callee (f := 21) rfl ?_); refine gl (some 15) rfl Try.func21 #[.slice A0_1 l0_1.length c0_1, .slice A1_1 l1_1.length c1_1] ?_; (with_reducible refine (laws_eqIntS.calls k _ _ l0_1 _ _ l1_1 true _ ?side1 ?side2 ?side3 ?side4 A5.out).mono ?_); (case side1 => exact uc (Kd.C_below HR0_1.out bl)); (case side2 => exact HC0_1.out); (case side3 => exact uc (Kd.C_below HR1_1.out bl)); (case side4 => exact HC1_1.out); rintro e w' ⟨rfl, ⟨nd, rfl⟩⟩; refine ⟨_, rfl, ?_⟩) | ((with_reducible refine gate_callee (f := 22) rfl ?_); refine gl (some 21) rfl Try.func22 #[.slice A0_2 l0_2.length c0_2, .slice A1_2 l1_2.length c1_2] ?_; (with_reducible refine (laws_eqPivotS.calls k _ _ l0_2 _ _ l1_2 true _ ?side1 ?side2 ?side3 ?side4 A7.out).mono ?_); (case side1 => exact uc (Kd.C_below HR0_2.out bl)); (case side2 => exact HC0_2.out); (case side3 => exact uc (Kd.C_below HR1_2.out bl)); (case side4 => exact HC1_2.out); rintro e w14 ⟨rfl, hb⟩; refine ⟨_, rfl, ?_⟩; replace BK311 := wb BK311 hb; replace BK312 := wb BK312 hb; replace HB := wh hb; (try clear hb); (try clear hb2); (try clear hk); (try clear hi)))
        go_ret
        exact ⟨by first | rfl | (simp [errW_none, errW_some] <;> rfl) | (simp [*, errW_none, errW_some] <;> rfl), bl⟩
      · replace c8 := Bool.eq_false_iff.mpr c8
        subst c8
        rw [if_neg nf] at H
        obtain rfl := Option.some.inj H
        go_enter Try.func9, Try.ntmps9
        go_wp2_with (first | ((with_reducible refine gate_dst (N := 2) rfl ?_); refine bx 2 #[.slice A0_0 l0_0.length c0_0, .slice A0_1 l0_1.length c0_1, .slice A0_2 l0_2.length c0_2] 31 ?_; intro gb311 hg w15 hbox hb; have BK311 := mk hbox; have GW311 := wg hg; have GE311 := wg hg; replace HB := wh hb; clear hb hbox hg) | ((with_reducible refine gate_dst (N := 3) rfl ?_); refine bx 3 #[.slice A1_0 l1_0.length c1_0, .slice A1_1 l1_1.length c1_1, .slice A1_2 l1_2.length c1_2] 31 ?_; intro gb312 hg w16 hbox hb; have BK312 := mk hbox; have GW312 := wg hg; have GE312 := wg hg; replace HB := wh hb; have NB311_312 := nl BK311 hg; have NB312_311 := nr BK311 hg; replace BK311 := wb BK311 hb; clear hb hbox hg; have hnb17 := NB311_312.out; have hnc17 := NB312_311.out; obtain ⟨hcz18_0, hcz18_1, hcz18_2, hfz18_0, hfz18_1, hfz18_2⟩ := bz3 BK311; obtain ⟨hcz19_0, hcz19_1, hcz19_2, hfz19_0, hfz19_1, hfz19_2⟩ := bz3 BK312) | ((with_reducible refine gate_callee (f := 21) rfl ?_); refine gl (some 9) rfl Try.func21 #[.slice A0_0 l0_0.length c0_0, .slice A1_0 l1_0.length c1_0] ?_; (with_reducible refine (laws_eqIntS.calls k _ _ l0_0 _ _ l1_0 true _ ?side1 ?side2 ?side3 ?side4 A3.out).mono ?_); (case side1 => exact uc (Kd.C_below HR0_0.out HB.out)); (case side2 => exact HC0_0.out); (case side3 => exact uc (Kd.C_below HR1_0.out HB.out)); (case side4 => exact HC1_0.out); rintro e w' ⟨rfl, ⟨nd, rfl⟩⟩; refine ⟨_, rfl, ?_⟩) | ((with_reducible refine gate_callee (f := 21) rfl ?_); refine gl (some 15) rfl Try.func21 #[.slice A0_1 l0_1.length c0_1, .slice A1_1 l1_1.length c1_1] ?_; (with_reducible refine (laws_eqIntS.calls k _ _ l0_1 _ _ l1_1 true _ ?side1 ?side2 ?side3 ?side4 A5.out).mono ?_); (case side1 => exact uc (Kd.C_below HR0_1.out bl)); (case side2 => exact HC0_1.out); (case side3 => exact uc (Kd.C_below HR1_1.out bl)); (case side4 => exact HC1_1.out); rintro e w' ⟨rfl, ⟨nd, rfl⟩⟩; refine ⟨_, rfl, ?_⟩) | ((with_reducible refine gate_callee (f := 22) rfl ?_); refine gl (some 21) rfl Try.func22 #[.slice A0_2 l0_2.length c0_2, .slice A1_2 l1_2.length c1_2] ?_; (with_reducible refine (laws_eqPivotS.calls k _ _ l0_2 _ _ l1_2 false _ ?side1 ?side2 ?side3 ?side4 A7.out).mono ?_); (case side1 => exact uc (Kd.C_below HR0_2.out bl)); (case side2 => exact HC0_2.out); (case side3 => exact uc (Kd.C_below HR1_2.out bl)); (case side4 => exact HC1_2.out); rintro e w20 ⟨rfl, hb⟩; refine ⟨_, rfl, ?_⟩; replace BK311 := wb BK311 hb; replace BK312 := wb BK312 hb; replace HB := wh hb; (try clear hb); (try clear hb2); (try clear hk); (try clear hi)))
        go_ret
        exact ⟨by first | rfl | (simp [errW_none, errW_some] <;> rfl) | (simp [*, errW_none, errW_some] <;> rfl), bl⟩
    · replace c6 := Bool.eq_false_iff.mpr c6
      subst c6
      rw [if_neg nf] at H
      obtain rfl := Option.some.inj H
      go_enter Try.func9, Try.ntmps9
      go_wp2_with (first | ((with_reducible refine gate_dst (N := 2) rfl ?_); refine bx 2 #[.slice A0_0 l0_0.length c0_0, .slice A0_1 l0_1.length c0_1, .slice A0_2 l0_2.length c0_2] 31 ?_; intro gb311 hg w21 hbox hb; have BK311 := mk hbox; have GW311 := wg hg; have GE311 := wg hg; replace HB := wh hb; clear hb hbox hg) | ((with_reducible refine gate_dst (N := 3) rfl ?_); refine bx 3 #[.slice A1_0 l1_0.length c1_0, .slice A1_1 l1_1.length c1_1, .slice A1_2 l1_2.length c1_2] 31 ?_; intro gb312 hg w22 hbox hb; have BK312 := mk hbox; have GW312 := wg hg; have GE312 := wg hg; replace HB := wh hb; have NB311_312 := nl BK311 hg; have NB312_311 := nr BK311 hg; replace BK311 := wb BK311 hb; clear hb hbox hg; have hnb23 := NB311_312.out; have hnc23 := NB312_311.out; obtain ⟨hcz24_0, hcz24_1, hcz24_2, hfz24_0, hfz24_1, hfz24_2⟩ := bz3 BK311; obtain ⟨hcz25_0, hcz25_1, hcz25_2, hfz25_0, hfz25_1, hfz25_2⟩ := bz3 BK312) | ((with_reducible refine gate_callee (f := 21) rfl ?_); refine gl (some 9) rfl Try.func21 #[.slice A0_0 l0_0.length c0_0, .slice A1_0 l1_0.length c1_0] ?_; (with_reducible refine (laws_eqIntS.calls k _ _ l0_0 _ _ l1_0 true _ ?side1 ?side2 ?side3 ?side4 A3.out).mono ?_); (case side1 => exact uc (Kd.C_below HR0_0.out HB.out)); (case side2 => exact HC0_0.out); (case side3 => exact uc (Kd.C_below HR1_0.out HB.out)); (case side4 => exact HC1_0.out); rintro e w' ⟨rfl, ⟨nd, rfl⟩⟩; refine ⟨_, rfl, ?_⟩) | ((with_reducible refine gate_callee (f := 21) rfl ?_); refine gl (some 15) rfl Try.func21 #[.slice A0_1 l0_1.length c0_1, .slice A1_1 l1_1.length c1_1] ?_; (with_reducible refine (laws_eqIntS.calls k _ _ l0_1 _ _ l1_1 false _ ?side1 ?side2 ?side3 ?side4 A5.out).mono ?_); (case side1 => exact uc (Kd.C_below HR0_1.out bl)); (case side2 => exact HC0_1.out); (case side3 => exact uc (Kd.C_below HR1_1.out bl)); (case side4 => exact HC1_1.out); rintro e w' ⟨rfl, ⟨nd, rfl⟩⟩; refine ⟨_, rfl, ?_⟩))
      go_ret
      exact ⟨by first | rfl | (simp [errW_none, errW_some] <;> rfl) | (simp [*, errW_none, errW_some] <;> rfl), bl⟩
  · replace c4 := Bool.eq_false_iff.mpr c4
    subst c4
    rw [if_neg nf] at H
    obtain rfl := Option.some.inj H
    go_enter Try.func9, Try.ntmps9
    go_wp2_with (first | ((with_reducible refine gate_dst (N := 2) rfl ?_); refine bx 2 #[.slice A0_0 l0_0.length c0_0, .slice A0_1 l0_1.length c0_1, .slice A0_2 l0_2.length c0_2] 31 ?_; intro gb311 hg w26 hbox hb; have BK311 := mk hbox; have GW311 := wg hg; have GE311 := wg hg; replace HB := wh hb; clear hb hbox hg) | ((with_reducible refine gate_dst (N := 3) rfl ?_); refine bx 3 #[.slice A1_0 l1_0.length c1_0, .slice A1_1 l1_1.length c1_1, .slice A1_2 l1_2.length c1_2] 31 ?_; intro gb312 hg w27 hbox hb; have BK312 := mk hbox; have GW312 := wg hg; have GE312 := wg hg; replace HB := wh hb; have NB311_312 := nl BK311 hg; have NB312_311 := nr BK311 hg; replace BK311 := wb BK311 hb; clear hb hbox hg; have hnb28 := NB311_312.out; have hnc28 := NB312_311.out; obtain ⟨hcz29_0, hcz29_1, hcz29_2, hfz29_0, hfz29_1, hfz29_2⟩ := bz3 BK311; obtain ⟨hcz30_0, hcz30_1, hcz30_2, hfz30_0, hfz30_1, hfz30_2⟩ := bz3 BK312) | ((with_reducible refine gate_callee (f := 21) rfl ?_); refine gl (some 9) rfl Try.func21 #[.slice A0_0 l0_0.length c0_0, .slice A1_0 l1_0.length c1_0] ?_; (with_reducible refine (laws_eqIntS.calls k _ _ l0_0 _ _ l1_0 false _ ?side1 ?side2 ?side3 ?side4 A3.out).mono ?_); (case side1 => exact uc (Kd.C_below HR0_0.out HB.out)); (case side2 => exact HC0_0.out); (case side3 => exact uc (Kd.C_below HR1_0.out HB.out)); (case side4 => exact HC1_0.out); rintro e w' ⟨rfl, ⟨nd, rfl⟩⟩; refine ⟨_, rfl, ?_⟩))
    go_ret
    exact ⟨by first | rfl | (simp [errW_none, errW_some] <;> rfl) | (simp [*, errW_none, errW_some] <;> rfl), bl⟩

/-! ### laws_markIntS: function 23 -/
def laws_markIntS.l0 : Nat → List Int → Int → Int → Option (Int × List Int)
  | 0, _, _, _ => none
  | k + 1, x0, x1, x5 => if x5 < (x0.length : Int) then (if 0 ≤ x5 then (laws_markIntS.l0 k (x0.set (x5 : Int).toNat x1) (wrap64 (x1 + 1)) (wrap64 (x5 + 1))) else (none)) else (some (x1, x0))
def laws_markIntS.f (k : Nat) (l0 : List Int) (a1 : Int) : Option (Int × List Int) := laws_markIntS.l0 k l0 a1 0
theorem laws_markIntS.mono_l : ∀ k, (∀ y0 y1 y2, LeO (laws_markIntS.l0 k y0 y1 y2) (laws_markIntS.l0 (k + 1) y0 y1 y2))
  | 0 => fun _ _ _ r h => by simp [laws_markIntS.l0] at h
  | k + 1 => by
    have ih0 := laws_markIntS.mono_l k
    · intro y0 y1 y2
      unfold laws_markIntS.l0
      exact mo
theorem laws_markIntS.mono : ∀ a0 a1 k, LeO (laws_markIntS.f k a0 a1) (laws_markIntS.f (k + 1) a0 a1) := by
  intro a0 a1 k
  have ih0 := laws_markIntS.mono_l k
  unfold laws_markIntS.f
  exact mo
instance laws_markIntS.mi (a0 a1 k) : LeC (laws_markIntS.f k a0 a1) (laws_markIntS.f (k + 1) a0 a1) := ⟨laws_markIntS.mono a0 a1 k⟩
set_option maxHeartbeats 8000000 in
set_option maxRecDepth 100000 in
theorem laws_markIntS.calls (k : Nat) (P0_ : Nat → Prop) (u9000_ : Value) (l0 : List Int) (a1 : Int) (r1 : Int) (r2 : List Int) (w0 w : World) (hB : Below w0.heap.size w0 w) (ho0 : Kd.R (Kd.int .i64) 3 w w0.heap.size P0_ u9000_ l0) (h : laws_markIntS.f k l0 a1 = some (r1, r2)) :
    Calls Try.prog 23 #[u9000_, .int .i64 a1] w fun e w' => e = .returned (.int .i64 r1) ∧ Kd.R (Kd.int .i64) 3 w' w0.heap.size (fun k_ => (P0_ k_ ∨ w.heap.size ≤ k_)) u9000_ r2 ∧ Below w0.heap.size w0 w' ∧ Kept w w' (fun k_ => P0_ k_) := by
  have HO0 := Aside0.mk (show Kd.R (Kd.int .i64) 3 w w0.heap.size (fun k_ => (P0_ k_ ∨ w.heap.size ≤ k_)) u9000_ l0 from Kd.R_mono ho0 (fun k_ hk => (.inl hk)))
  have HK := Aside0.mk (Kept.refl w (fun k_ => P0_ k_))
  have HW0 := Aside0.mk hB.size
  have HB := Aside0.mk hB
  clear hB
  have H : (laws_markIntS.l0 k l0 a1 0) = some (r1, r2) := h
  clear h
  have H' := Aside0.mk H
  clear H
  go_enter Try.func23, Try.ntmps23
  go_wp2
  go_loopg [1, 5] k (fun kq v1 v5 w' => ∃ (x0_1 : List Int) (x1_1 : Int) (x5_1 : Int), v1 = .int .i64 x1_1 ∧ v5 = .int .i64 x5_1 ∧ Aside0 (laws_markIntS.l0 kq x0_1 x1_1 x5_1 = some (r1, r2)) ∧ Aside0 (kq ≤ k) ∧ Aside0 (Kd.R (Kd.int .i64) 3 w' w0.heap.size (fun k_ => (P0_ k_ ∨ w.heap.size ≤ k_)) u9000_ x0_1) ∧ Aside0 (Kept w w' (fun k_ => P0_ k_)) ∧ Aside0 (Below w0.heap.size w0 w'))
  case atStart => exact ⟨(l0), (a1), (0), (by first | rfl | (simp; done) | (simp [*]; done)), (by first | rfl | (simp; done) | (simp [*]; done)), H', ⟨Nat.le_refl _⟩, ⟨up HO0.out⟩, ⟨by repeat (first | (with_reducible first | exact HK.out | apply Kept.alloc | apply Kept.drewN | apply Kept.drew) | exact HK.out)⟩, ⟨bl⟩⟩
  case round =>
    clear H'
    try clear c2
    try clear p2
    obtain ⟨x0_1, x1_1, x5_1, rfl, rfl, HA, HK1, HO_0, HK, HB⟩ := hrel
    cases gk with
    | zero => exact absurd HA.out (by simp [laws_markIntS.l0])
    | succ k1 =>
      have H := HA.out
      clear HA
      simp only [laws_markIntS.l0] at H
      by_cases c3 : x5_1 < (x0_1.length : Int)
      · rw [if_pos c3] at H
        have c3b0 : decide (x5_1 < (x0_1.length : Int)) = true := decide_eq_true c3
        clear c3
        by_cases c4 : 0 ≤ x5_1
        · rw [if_pos c4] at H
          have c4b0 : decide (0 ≤ x5_1) = true := decide_eq_true c4
          clear c4
          obtain ⟨y316, hy316⟩ : ∃ y_ : List Int, y_ = (x0_1.set (x5_1 : Int).toNat x1_1) := ⟨_, rfl⟩
          replace H : (laws_markIntS.l0 k1 y316 (wrap64 (x1_1 + 1)) (wrap64 (x5_1 + 1))) = some (r1, r2) := by first | (rw [hy316]; with_reducible exact H) | (have H2_ := (Option.bind_some _ _).symm.trans H; rw [hy316]; with_reducible exact H2_) | (have H2_ := (Option.bind_some _ _).symm.trans H; with_reducible exact H2_) | with_reducible exact H | (rw [hy316]; exact H) | exact H
          have Ny316 := Aside0.mk hy316
          clear hy316
          have H' := Aside0.mk H
          clear H
          obtain ⟨Ao6, co6, eo6⟩ := Kd.R_slice HO_0.out
          subst eo6
          have p5 : 0 ≤ (x5_1 : Int) := dt
          have q5 : (x5_1 : Int) < ((x0_1.length : Int) : Int) := dt
          obtain ⟨go5, co5, eo5, gb5, gl5, cl5, HG5⟩ := Kd.R_form HO_0.out (by omega)
          (first | cases eo5 | (injection eo5 with ea_ en_ ec_; (first | subst ea_ | (injection ea_ with ea_; subst ea_)); subst ec_; clear en_))
          have GB5 := Aside0.mk gb5
          have GG5 := Aside0.mk HG5
          clear gb5 gl5 HG5
          have HMgo5 := Aside0.mk (show (P0_ go5 ∨ w.heap.size ≤ go5) from (HO_0.out.1 _ rfl))
          obtain ⟨hx5_0, hf5_0⟩ := Kd.R_celln 0 HO_0.out (x5_1 : Int) p5 q5
          replace p5 := eq_true p5
          replace q5 := eq_true q5
          have HP7 := Kd.R_putg HO_0.out (x5_1 : Int) x1_1
          go_wp2_with (first | ((with_reducible refine gate_store (t := 3) (p := 15) rfl ?_); refine store_event (t := 3) (p := 15) (v := ?vo_w8) (w1 := (wr.setCell ⟨go5, (x5_1 : Int).toNat, none⟩ (.int .i64 x1_1))) ?hg ?ho ?hn ?hr ?_; (case ho => rfl); (case hg => rfl); (case hn => rfl); (case hr => first | (go_simp; done) | (go_simp; rfl)); intro w8 hw; have hg : wr.grownBy w8 (some go5) := (by rw [hw]; exact HP7.2); have hp_ : Kd.R (Kd.int .i64) 3 w8 w0.heap.size (fun k_ => (P0_ k_ ∨ w.heap.size ≤ k_)) (.slice (some ⟨go5, 0, none⟩) x0_1.length co6) y316 := (by rw [hw, Ny316.out]; exact HP7.1); clear HP7; replace HB := mk ((by rw [hw]; exact below_set (HB.out) GB5.out : Below w0.heap.size w0 w8)); replace HK := mk (Kept.of_grown (S := (fun k_ => P0_ k_)) hg (by repeat (first | (with_reducible first | exact HK.out | apply Kept.alloc | apply Kept.drewN | apply Kept.drew) | exact HK.out)) (fun k_ e_ => (HO_0.out.1 k_ e_))); replace HO_0 := mk hp_; clear hg hw hp_))
          go_roundg k1
          case measure => have := HK1.out; omega
          case rel => exact ⟨(y316), (wrap64 (x1_1 + 1)), (wrap64 (x5_1 + 1)), (by first | rfl | (simp; done) | (simp [*]; done)), (by first | rfl | (simp; done) | (simp [*]; done)), H', ⟨by have := HK1.out; omega⟩, ⟨up HO_0.out⟩, ⟨by repeat (first | (with_reducible first | exact HK.out | apply Kept.alloc | apply Kept.drewN | apply Kept.drew) | exact HK.out)⟩, ⟨bl⟩⟩
        · rw [if_neg c4] at H
          exact absurd H (by simp)
      · rw [if_neg c3] at H
        have c3b0 : decide (x5_1 < (x0_1.length : Int)) = false := decide_eq_false c3
        clear c3
        simp only [Option.some.injEq, Prod.mk.injEq] at H
        obtain ⟨rfl, rfl⟩ := H
        obtain ⟨Ao9, co9, eo9⟩ := Kd.R_slice HO_0.out
        subst eo9
        go_wp2
        go_ret
        exact ⟨by first | rfl | (simp [errW_none, errW_some] <;> rfl) | (simp [*, errW_none, errW_some] <;> rfl), up HO_0.out, bl, by repeat (first | (with_reducible first | exact HK.out | apply Kept.alloc | apply Kept.drewN | apply Kept.drew) | exact HK.out)⟩

end Go.Proofs.Ytmliclopdbkbeaa.PFnExactAddPivot
