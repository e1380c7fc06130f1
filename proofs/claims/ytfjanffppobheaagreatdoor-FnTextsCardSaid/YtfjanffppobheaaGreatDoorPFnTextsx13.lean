-- printed by a program of this session, a turned copy of the print of the kit
import Derived.Test.YtfjanffppobheaaGreatDoorSq
import Derived.Test.YtfjanffppobheaaGreatDoorNF
import Derived.Test.YtfjanffppobheaaGreatDoorPFnTextsx0
import Derived.Test.YtfjanffppobheaaGreatDoorPFnTextsx1
import Derived.Test.YtfjanffppobheaaGreatDoorPFnTextsx2
import Derived.Test.YtfjanffppobheaaGreatDoorPFnTextsx3
import Derived.Test.YtfjanffppobheaaGreatDoorPFnTextsx4
import Derived.Test.YtfjanffppobheaaGreatDoorPFnTextsx6
import Derived.Test.YtfjanffppobheaaGreatDoorPFnTextsx7
import Derived.Test.YtfjanffppobheaaGreatDoorPFnTextsx8
import Derived.Test.YtfjanffppobheaaGreatDoorPFnTextsx9
import Derived.Test.YtfjanffppobheaaGreatDoorPFnTextsx10
import Derived.Test.YtfjanffppobheaaGreatDoorPFnTextsx11
import Derived.Test.YtfjanffppobheaaGreatDoorPFnTextsx12
namespace Go.Proofs.YtfjanffppobheaaGreatDoor.PFnTexts
open Go.RowKit Go.Proofs.YtfjanffppobheaaGreatDoorW.PrintWords Go.Proofs.YtfjanffppobheaaGreatDoorW.PrintLast Go.Proofs.YtfjanffppobheaaGreatDoorW.PrintMore Go.Proofs.YtfjanffppobheaaGreatDoor.Sq
attribute [local go_sem] max2_int min2_int max_two min_two max_three min_three max_four min_four Giv.cell_twice   -- for this text's walks alone
set_option linter.unusedVariables false
set_option linter.unusedSimpArgs false

attribute [local go_sem high] eqA32
/-! ### laws_FnTexts: function 3 -/
mutual
def laws_FnTexts.j0 : Nat → List Int → Bool → Option (Bool)
 | 0, _, _ => none
 | k + 1, x0, x73 => if x73 = true then (none) else ((spec_DrawMeetRanges.f k x0).bind fun bt489 => ((impl_MeetRanges.f bt489.1 bt489.2.1 bt489.2.2.1 bt489.2.2.2).bind fun bt495 => ((spec_DrawInRange.f k x0).bind fun bt498 => (laws_FnTexts.l0 k x0 bt498.2.2 (wrap64 (bt498.2.2 - 3)) bt489.1 bt489.2.1 bt489.2.2.1 bt489.2.2.2 bt495.1 bt495.2 bt498.1 bt498.2.1))))
def laws_FnTexts.l0 : Nat → List Int → Int → Int → Int → Int → Int → Int → Int → Int → Int → Int → Option (Bool)
 | 0, _, _, _, _, _, _, _, _, _, _, _ => none
 | k + 1, x0, x14, x15, x494000, x494001, x495000, x495001, x498000, x498001, x502000, x502001 => if x15 ≤ (wrap64 (x14 + 3)) then ((spec_IsRange.f x494000 x494001).bind fun t502 => (if t502 = true then ((spec_IsRange.f x495000 x495001).bind fun t503 => (if t503 = true then ((impl_InRange.f x498000 x498001 x15).bind fun t504 => ((spec_InRange.f x494000 x494001 x15).bind fun t505 => (if t505 = true then ((spec_InRange.f x495000 x495001 x15).bind fun t506 => (if (t504 != t506) = true then (none) else (laws_FnTexts.l0 k x0 x14 (wrap64 (x15 + 1)) x494000 x494001 x495000 x495001 x498000 x498001 x502000 x502001))) else (if (t504 != false) = true then (none) else (laws_FnTexts.l0 k x0 x14 (wrap64 (x15 + 1)) x494000 x494001 x495000 x495001 x498000 x498001 x502000 x502001))))) else (laws_FnTexts.l0 k x0 x14 (wrap64 (x15 + 1)) x494000 x494001 x495000 x495001 x498000 x498001 x502000 x502001))) else (laws_FnTexts.l0 k x0 x14 (wrap64 (x15 + 1)) x494000 x494001 x495000 x495001 x498000 x498001 x502000 x502001))) else ((spec_DrawColumnOf.f k x0).bind fun bt507 => ((impl_ColumnOf.f k bt507.1 bt507.2).bind fun bt512 => ((spec_ColumnOf.f k bt507.1 bt507.2).bind fun bt516 => ((spec_MeetRanges.f x494000 x494001 x495000 x495001).bind fun bt520 => (if (x498000 == bt520.1 && (x498001 == bt520.2)) = true then ((impl_InRange.f x502000 x502001 x14).bind fun t522 => ((spec_InRange.f x502000 x502001 x14).bind fun t523 => (if (t522 == t523) = true then (if (bt512.2 == bt516.2) = true then ((laws_sameInts.f k bt512.1 bt516.1).bind fun t524 => (if t524 = true then ((impl_RowCount.f k bt507.1).bind fun t525 => ((spec_RowCount.f k bt507.1).bind fun t526 => (if t525 = t526 then ((impl_FindColumn.f bt507.1 bt507.2).bind fun t527 => ((spec_FindColumn.f k bt507.1 bt507.2).bind fun t528 => (some (t527 == t528)))) else (none)))) else (none))) else (none)) else (none)))) else (none))))))
end
def laws_FnTexts.f (k : Nat) (l0 : List Int) : Option (Bool) := (laws_big.f l0).bind fun t465 => (if t465 = true then (some true) else ((spec_DrawFormatTable.f k l0).bind fun t466 => ((impl_FormatTable.f k t466).bind fun t470 => ((impl_ParseTable.f k t470).bind fun bt471 => ((spec_DrawFormatRange.f k l0).bind fun bt476 => ((impl_FormatRange.f bt476.1 bt476.2).bind fun t479 => ((impl_ParseRange.f t479).bind fun bt480 => ((spec_FormatTable.f k t466).bind fun t484 => (if t470.toList = t484.toList then ((spec_IsTable.f k t466).bind fun t485 => (if (bt471.2 != t485) = true then (none) else (if bt471.2 = true then ((impl_FormatTable.f k bt471.1).bind fun t486 => (if t486.toList = t470.toList then ((spec_IsRange.f bt476.1 bt476.2).bind fun t487 => (if (bt480.2.2 != t487) = true then (none) else (if bt480.2.2 = true then (laws_FnTexts.j0 k l0 (!(bt480.1 == bt476.1) || (!(bt480.2.1 == bt476.2)))) else (laws_FnTexts.j0 k l0 false)))) else (none))) else ((spec_IsRange.f bt476.1 bt476.2).bind fun t488 => (if (bt480.2.2 != t488) = true then (none) else (if bt480.2.2 = true then (laws_FnTexts.j0 k l0 (!(bt480.1 == bt476.1) || (!(bt480.2.1 == bt476.2)))) else (laws_FnTexts.j0 k l0 false))))))) else (none))))))))))
theorem laws_FnTexts.mono_l : ∀ k, (∀ y0 y1, LeO (laws_FnTexts.j0 k y0 y1) (laws_FnTexts.j0 (k + 1) y0 y1)) ∧ (∀ y0 y1 y2 y3 y4 y5 y6 y7 y8 y9 y10, LeO (laws_FnTexts.l0 k y0 y1 y2 y3 y4 y5 y6 y7 y8 y9 y10) (laws_FnTexts.l0 (k + 1) y0 y1 y2 y3 y4 y5 y6 y7 y8 y9 y10))
 | 0 => ⟨fun _ _ r h => by simp [laws_FnTexts.j0] at h, fun _ _ _ _ _ _ _ _ _ _ _ r h => by simp [laws_FnTexts.l0] at h⟩
 | k + 1 => by
  obtain ⟨ih0, ih1⟩ := laws_FnTexts.mono_l k
  refine ⟨?_, ?_⟩
  ·intro y0 y1
   unfold laws_FnTexts.j0
   exact mo
  ·intro y0 y1 y2 y3 y4 y5 y6 y7 y8 y9 y10
   unfold laws_FnTexts.l0
   exact mo
theorem laws_FnTexts.mono : ∀ a0 k, LeO (laws_FnTexts.f k a0) (laws_FnTexts.f (k + 1) a0) := by
 intro a0 k
 obtain ⟨ih0, ih1⟩ := laws_FnTexts.mono_l k
 unfold laws_FnTexts.f
 exact mo
instance laws_FnTexts.mi (a0 k) : LeC (laws_FnTexts.f k a0) (laws_FnTexts.f (k + 1) a0) := ⟨laws_FnTexts.mono a0 k⟩
def laws_FnTexts.T16 : Bool × List (List Nat × List Nat) := (true, [([], []), ([0], [0]), ([1, 1], [1]), ([2], [2]), ([3, 2, 2], [2, 3]), ([2, 4], [2, 4]), ([5, 4], [5]), ([6], [6]), ([6], [6]), ([7, 8, 6, 6], [6, 7, 8]), ([6], [6]), ([6], [6]), ([10, 11, 9, 6], [6, 10, 11]), ([12, 12, 6], [6, 12]), ([13], [13]), ([13], [13]), ([14, 15, 13, 13], [13, 14, 15]), ([13, 16, 6], [6, 13, 16]), ([9, 17, 6], [6, 9, 17]), ([6, 18], [6, 18])])
def laws_FnTexts.B16 : List Nat := [0, 1, 3, 7, 15, 31, 63, 127, 127, 511, 127, 127, 4095, 8191, 16383, 16383, 65535, 131071, 262143, 524287]
theorem laws_FnTexts.tab16 : rtab .any (opsOf Tryz.f3 16) = laws_FnTexts.T16 := by kernel_rfl
theorem laws_FnTexts.bits16 : waitsOk laws_FnTexts.T16.2 laws_FnTexts.B16 = true := by kernel_rfl
def laws_FnTexts.T21 : Bool × List (List Nat × List Nat) := (true, [([], []), ([], []), ([], []), ([1, 2], [1, 2]), ([0, 3], [0, 3]), ([4, 3], [4]), ([5], [5]), ([5], [5]), ([6, 7, 5, 5], [5, 6, 7]), ([5], [5]), ([5], [5]), ([9, 10, 8, 5], [5, 9, 10]), ([8, 11, 5], [5, 8, 11]), ([5, 12], [5, 12]), ([13, 11], [13]), ([14], [14]), ([14], [14]), ([15, 16, 14], [14, 15, 16]), ([14, 17], [14, 17]), ([18, 14], [18]), ([19], [19]), ([19], [19]), ([20, 21, 19, 19], [19, 20, 21]), ([19, 22], [19, 22]), ([23, 22], [23]), ([24], [24]), ([25, 24, 24], [24, 25]), ([24], [24]), ([27, 26, 24], [24, 27]), ([26, 28, 24], [24, 26, 28]), ([24, 29], [24, 29]), ([30, 28], [30]), ([31], [31]), ([31], [31]), ([32, 33, 31, 31], [31, 32, 33]), ([31], [31]), ([31], [31]), ([35, 36, 34, 31], [31, 35, 36]), ([34, 37, 31], [31, 34, 37]), ([31, 38], [31, 38]), ([39, 37, 0, 1, 2, 3, 4, 5, 6, 7, 8, 9, 10, 11, 12, 13, 14, 15, 16, 17, 18, 19, 20, 21, 22, 23, 24, 25, 26, 27, 28, 29, 30, 31, 32, 33, 34, 35, 36, 37, 38, 39], [39])])
def laws_FnTexts.B21 : List Nat := [0, 0, 0, 6, 15, 31, 63, 63, 255, 63, 63, 2047, 4095, 8191, 16383, 32767, 32767, 131071, 262143, 524287, 1048575, 1048575, 4194303, 8388607, 16777215, 33554431, 67108863, 33554431, 268435455, 536870911, 1073741823, 2147483647, 4294967295, 4294967295, 17179869183, 4294967295, 4294967295, 137438953471, 274877906943, 549755813887, 1099511627775]
theorem laws_FnTexts.tab21 : rtab .any (opsOf Tryz.f3 21) = laws_FnTexts.T21 := by kernel_rfl
theorem laws_FnTexts.bits21 : waitsOk laws_FnTexts.T21.2 laws_FnTexts.B21 = true := by kernel_rfl
set_option maxHeartbeats 8000000 in
set_option maxRecDepth 100000 in
theorem laws_FnTexts.calls (k : Nat) (A0 : Option Addr) (c0 : Nat) (l0 : List Int) (r : Bool) (w : World) (hr0 : Kd.C (Kd.int .u8) w A0 l0.length l0) (hc0 : l0.length ≤ c0) (TB0 : Aside0 (TabOk w)) (HRT : Aside0 (r = true)) (h : laws_FnTexts.f k l0 = some r) :
  Calls Tryz.prog 3 #[.slice A0 l0.length c0] w fun e w' => e = .returned (.bool r) ∧ Below w.heap.size w w' := by
 have hu26 := Tryz.underlying26
 have hu32 := Tryz.underlying32
 have HR0 := Aside0.mk hr0
 have HC0 := Aside0.mk hc0
 clear hr0 hc0
 have HB := Aside0.mk (Below.refl w.heap.size w)
 have H : ((laws_big.f l0).bind fun t465 => (if t465 = true then (some true) else ((spec_DrawFormatTable.f k l0).bind fun t466 => ((impl_FormatTable.f k t466).bind fun t470 => ((impl_ParseTable.f k t470).bind fun bt471 => ((spec_DrawFormatRange.f k l0).bind fun bt476 => ((impl_FormatRange.f bt476.1 bt476.2).bind fun t479 => ((impl_ParseRange.f t479).bind fun bt480 => ((spec_FormatTable.f k t466).bind fun t484 => (if t470.toList = t484.toList then ((spec_IsTable.f k t466).bind fun t485 => (if (bt471.2 != t485) = true then (none) else (if bt471.2 = true then ((impl_FormatTable.f k bt471.1).bind fun t486 => (if t486.toList = t470.toList then ((spec_IsRange.f bt476.1 bt476.2).bind fun t487 => (if (bt480.2.2 != t487) = true then (none) else (if bt480.2.2 = true then (laws_FnTexts.j0 k l0 (!(bt480.1 == bt476.1) || (!(bt480.2.1 == bt476.2)))) else (laws_FnTexts.j0 k l0 false)))) else (none))) else ((spec_IsRange.f bt476.1 bt476.2).bind fun t488 => (if (bt480.2.2 != t488) = true then (none) else (if bt480.2.2 = true then (laws_FnTexts.j0 k l0 (!(bt480.1 == bt476.1) || (!(bt480.2.1 == bt476.2)))) else (laws_FnTexts.j0 k l0 false))))))) else (none))))))))))) = some r := h
 clear h
 revert H; refine bo ?_; rintro t465 A2 H
 by_cases c3 : t465 = true
 ·subst c3
  rw [if_pos rfl] at H
  obtain rfl := Option.some.inj H
  go_enter Tryz.func3, Tryz.ntmps3
  go_wp2_with (first | ((with_reducible refine gate_callee (f := 4) rfl ?_); refine gl (some 23) rfl Tryz.func4 #[.slice A0 l0.length c0] ?_; (with_reducible refine (laws_big.calls _ _ l0 true _ ?side1 ?side2 A2.out).mono ?_); (case side1 => exact uc HR0.out); (case side2 => exact HC0.out); rintro e w' ⟨rfl, ⟨nd, rfl⟩⟩; refine ⟨_, rfl, ?_⟩))
  go_ret
  exact ⟨by first | rfl | (simp [errW_none, errW_some] <;> rfl) | (simp [*, errW_none, errW_some] <;> rfl), bl⟩
 ·replace c3 := Bool.eq_false_iff.mpr c3
  subst c3
  rw [if_neg nf] at H
  revert H; refine bo ?_; rintro t466 A4 H
  revert H; refine bo ?_; rintro t470 A5 H
  revert H; refine bo ?_; rintro ⟨t471, t474⟩ A6 H
  dsimp only at H
  revert H; refine bo ?_; rintro ⟨t476, t477⟩ A7 H
  dsimp only at H
  revert H; refine bo ?_; rintro t479 A8 H
  revert H; refine bo ?_; rintro ⟨t480, t481, t482⟩ A9 H
  dsimp only at H
  have HC10 := Aside0.mk H
  clear H
  go_enter Tryz.func3, Tryz.ntmps3
  go_upto_region 8 with (first | ((with_reducible refine gate_callee (f := 4) rfl ?_); refine gl (some 23) rfl Tryz.func4 #[.slice A0 l0.length c0] ?_; (with_reducible refine (laws_big.calls _ _ l0 false _ ?side1 ?side2 A2.out).mono ?_); (case side1 => exact uc HR0.out); (case side2 => exact HC0.out); rintro e w' ⟨rfl, ⟨nd, rfl⟩⟩; refine ⟨_, rfl, ?_⟩) | ((with_reducible refine gate_callee (f := 5) rfl ?_); refine gl (some 25) rfl Tryz.func5 #[.slice A0 l0.length c0] ?_; (with_reducible refine (spec_DrawFormatTable.calls k _ _ l0 t466 _ ?side1 ?side2 A4.out).mono ?_); (case side1 => exact uc HR0.out); (case side2 => exact HC0.out); rintro e w11 ⟨v467, rfl, ho0, hb⟩; refine ⟨_, rfl, ?_⟩; have HO468 := mk (Kd.NF_lower ho0 (below_size bl)); replace HB := wh hb; (try clear hb); (try clear hb2); (try clear hk); (try clear hi); (try clear ho0)) | ((with_reducible refine gate_dst (N := 3) rfl ?_); refine bx 3 #[.slice none 0 0] 26 ?_; intro gb469 hg w12 hbox hb; replace HO468 := mk (Kd.NF_below (by (with_reducible repeat (first | apply Kd.NF_alloc | apply Kd.NF_drewN | apply Kd.NF_drew)); exact HO468.out) hb); have BK469 := mk hbox; have GW469 := wg hg; have GE469 := wg hg; replace HB := wh hb; clear hb hbox hg; obtain ⟨Ao13, co13, eo13⟩ := Kd.NF_slice HO468.out; subst eo13; obtain ⟨hcz14_0, hfz14_0⟩ := bz1 BK469) | ((with_reducible refine gate_callee (f := 6) rfl ?_); refine gl (some 27) rfl Tryz.func6 #[.agg #[.slice Ao13 t466.length co13]] ?_; (with_reducible refine (impl_FormatTable.calls k _ _ t466 t470 _ ?side1 ?side2 ?side3 A5.out).mono ?_); (case side1 => refine (Kd.NF_reads' (e := 58) (base := w.heap.size) (ok := fun k_ => True) (n := t466.length) (c := co13) ?_).2.2; exact (by (with_reducible repeat (first | apply Kd.NF_alloc | apply Kd.NF_drewN | apply Kd.NF_drew)); exact (Kd.NF_mono (Kd.NF_far (p := ⟨gb469, 0, none⟩) (Kd.NF_types HO468.out BK469.out (by decide)) (fun _ hk => hk.2) (.slice Ao13 t466.length co13)) (fun _ h_ => h_.1)))); (case side2 => exact (Kd.NF_reads' HO468.out).2.1); (case side3 => exact ⟨TabOk.step TB0.out bl⟩); rintro e w15 ⟨rfl, hb⟩; refine ⟨_, rfl, ?_⟩; replace HO468 := mk (Kd.NF_below (by (with_reducible repeat (first | apply Kd.NF_alloc | apply Kd.NF_drewN | apply Kd.NF_drew)); exact (Kd.NF_mono (Kd.NF_far (p := ⟨gb469, 0, none⟩) (Kd.NF_types HO468.out BK469.out (by decide)) (fun _ hk => hk.2) (.slice Ao13 t466.length co13)) (fun _ h_ => h_.1))) hb); replace BK469 := mk (blk_below (g := gb469) (o := .cells #[.slice Ao13 t466.length co13] 26 (0, 0)) bq hb); replace HB := wh hb; (try clear hb); (try clear hb2); (try clear hk); (try clear hi)) | ((with_reducible refine gate_callee (f := 7) rfl ?_); refine gl (some 30) rfl Tryz.func7 #[.string t470] ?_; (with_reducible refine (impl_ParseTable.calls k t470 t471 t474 _ ?side1 A6.out).mono ?_); (case side1 => exact ⟨TabOk.step TB0.out bl⟩); rintro e w16 ⟨v472, rfl, ho0, hb⟩; replace ho0 := Kd.NF_of ho0; refine ⟨_, rfl, ?_⟩; have HO473 := mk (Kd.NF_lower (Kd.NF_new' ho0 (Kd.NF_lt (by (with_reducible repeat (first | apply Kd.NF_alloc | apply Kd.NF_drewN | apply Kd.NF_drew)); exact HO468.out))) (below_size bl)); replace HO468 := mk (Kd.NF_elder' (by (with_reducible repeat (first | apply Kd.NF_alloc | apply Kd.NF_drewN | apply Kd.NF_drew)); exact HO468.out) (Kd.NF_base ho0) hb); replace BK469 := wb BK469 hb; replace HB := wh hb; (try clear hb); (try clear hb2); (try clear hk); (try clear hi); (try clear ho0)) | ((with_reducible refine gate_dst (N := 5) rfl ?_); refine bx 5 #[.slice none 0 0] 26 ?_; intro gb475 hg w17 hbox hb; replace HO468 := mk (Kd.NF_below (by (with_reducible repeat (first | apply Kd.NF_alloc | apply Kd.NF_drewN | apply Kd.NF_drew)); exact HO468.out) hb); replace HO473 := mk (Kd.NF_below (by (with_reducible repeat (first | apply Kd.NF_alloc | apply Kd.NF_drewN | apply Kd.NF_drew)); exact HO473.out) hb); have BK475 := mk hbox; have GW475 := wg hg; have GE475 := wg hg; replace HB := wh hb; have NB469_475 := nl BK469 hg; have NB475_469 := nr BK469 hg; replace BK469 := wb BK469 hb; clear hb hbox hg; obtain ⟨Ao18, co18, eo18⟩ := Kd.NF_slice HO473.out; subst eo18; have hnb19 := NB475_469.out; have hnc19 := NB469_475.out; obtain ⟨hcz20_0, hfz20_0⟩ := bz1 BK475) | ((with_reducible refine gate_callee (f := 8) rfl ?_); refine gl (some 34) rfl Tryz.func8 #[.slice A0 l0.length c0] ?_; (with_reducible refine (spec_DrawFormatRange.calls k _ _ l0 t476 t477 _ ?side1 ?side2 A7.out).mono ?_); (case side1 => exact Kd.C_below HR0.out bl); (case side2 => exact HC0.out); rintro e w21 ⟨rfl, hb⟩; refine ⟨_, rfl, ?_⟩; replace HO468 := mk (Kd.NF_below (by (with_reducible repeat (first | apply Kd.NF_alloc | apply Kd.NF_drewN | apply Kd.NF_drew)); exact (Kd.NF_mono (Kd.NF_far (p := ⟨gb475, 0, none⟩) (Kd.NF_types HO468.out BK475.out (by decide)) (fun _ hk => hk.2) (.slice Ao18 t471.length co18)) (fun _ h_ => h_.1))) hb); replace HO473 := mk (Kd.NF_below (by (with_reducible repeat (first | apply Kd.NF_alloc | apply Kd.NF_drewN | apply Kd.NF_drew)); exact (Kd.NF_mono (Kd.NF_far (p := ⟨gb475, 0, none⟩) (Kd.NF_types HO473.out BK475.out (by decide)) (fun _ hk => hk.2) (.slice Ao18 t471.length co18)) (fun _ h_ => h_.1))) hb); replace BK469 := wx BK469 hb; replace BK475 := mk (blk_below (g := gb475) (o := .cells #[.slice Ao18 t471.length co18] 26 (0, 0)) bq hb); replace HB := wh hb; (try clear hb); (try clear hb2); (try clear hk); (try clear hi)) | ((with_reducible refine gate_dst (N := 7) rfl ?_); refine bx 7 #[.int .i64 0, .int .i64 0] 32 ?_; intro gb478 hg w22 hbox hb; replace HO468 := mk (Kd.NF_below (by (with_reducible repeat (first | apply Kd.NF_alloc | apply Kd.NF_drewN | apply Kd.NF_drew)); exact HO468.out) hb); replace HO473 := mk (Kd.NF_below (by (with_reducible repeat (first | apply Kd.NF_alloc | apply Kd.NF_drewN | apply Kd.NF_drew)); exact HO473.out) hb); have BK478 := mk hbox; have GW478 := wg hg; have GE478 := wg hg; replace HB := wh hb; have NB469_478 := nl BK469 hg; have NB478_469 := nr BK469 hg; replace BK469 := wb BK469 hb; have NB475_478 := nl BK475 hg; have NB478_475 := nr BK475 hg; replace BK475 := wb BK475 hb; clear hb hbox hg; have hnb23 := NB478_469.out; have hnc23 := NB469_478.out; have hnb24 := NB478_475.out; have hnc24 := NB475_478.out; obtain ⟨hcz25_0, hcz25_1, hfz25_0, hfz25_1⟩ := bz2 BK478) | ((with_reducible refine gate_callee (f := 10) rfl ?_); refine gl (some 37) rfl Tryz.func10 #[.agg #[.int .i64 t476, .int .i64 t477]] ?_; (with_reducible refine (impl_FormatRange.calls t476 t477 t479 _ ?side1 A8.out).mono ?_); (case side1 => exact ⟨TabOk.step TB0.out bl⟩); rintro e w26 ⟨rfl, hb⟩; refine ⟨_, rfl, ?_⟩; replace HO468 := mk (Kd.NF_below (by (with_reducible repeat (first | apply Kd.NF_alloc | apply Kd.NF_drewN | apply Kd.NF_drew)); exact (Kd.NF_mono (Kd.NF_far (p := ⟨gb478, 1, none⟩) (Kd.NF_far (p := ⟨gb478, 0, none⟩) (Kd.NF_types HO468.out BK478.out (by decide)) (fun _ hk => hk.2) (.int .i64 t476)) (fun _ hk => hk.2) (.int .i64 t477)) (fun _ h_ => h_.1))) hb); replace HO473 := mk (Kd.NF_below (by (with_reducible repeat (first | apply Kd.NF_alloc | apply Kd.NF_drewN | apply Kd.NF_drew)); exact (Kd.NF_mono (Kd.NF_far (p := ⟨gb478, 1, none⟩) (Kd.NF_far (p := ⟨gb478, 0, none⟩) (Kd.NF_types HO473.out BK478.out (by decide)) (fun _ hk => hk.2) (.int .i64 t476)) (fun _ hk => hk.2) (.int .i64 t477)) (fun _ h_ => h_.1))) hb); replace BK469 := wx BK469 hb; replace BK475 := wx BK475 hb; replace BK478 := mk (blk_below (g := gb478) (o := .cells #[.int .i64 t476, .int .i64 t477] 32 (0, 0)) bq hb); replace HB := wh hb; (try clear hb); (try clear hb2); (try clear hk); (try clear hi)) | ((with_reducible refine gate_callee (f := 9) rfl ?_); refine gl (some 38) rfl Tryz.func9 #[.string t479] ?_; (with_reducible refine (impl_ParseRange.calls t479 t480 t481 t482 _ ?side1 A9.out).mono ?_); (case side1 => exact ⟨TabOk.step TB0.out bl⟩); rintro e w27 ⟨rfl, hb⟩; refine ⟨_, rfl, ?_⟩; replace HO468 := mk (Kd.NF_below (by (with_reducible repeat (first | apply Kd.NF_alloc | apply Kd.NF_drewN | apply Kd.NF_drew)); exact HO468.out) hb); replace HO473 := mk (Kd.NF_below (by (with_reducible repeat (first | apply Kd.NF_alloc | apply Kd.NF_drewN | apply Kd.NF_drew)); exact HO473.out) hb); replace BK469 := wb BK469 hb; replace BK475 := wb BK475 hb; replace BK478 := wb BK478 hb; replace HB := wh hb; (try clear hb); (try clear hb2); (try clear hk); (try clear hi)) | ((with_reducible refine gate_dst (N := 8) rfl ?_); refine bx 8 #[.int .i64 0, .int .i64 0] 32 ?_; intro gb483 hg w28 hbox hb; replace HO468 := mk (Kd.NF_below (by (with_reducible repeat (first | apply Kd.NF_alloc | apply Kd.NF_drewN | apply Kd.NF_drew)); exact HO468.out) hb); replace HO473 := mk (Kd.NF_below (by (with_reducible repeat (first | apply Kd.NF_alloc | apply Kd.NF_drewN | apply Kd.NF_drew)); exact HO473.out) hb); have BK483 := mk hbox; have GW483 := wg hg; have GE483 := wg hg; replace HB := wh hb; have NB469_483 := nl BK469 hg; have NB483_469 := nr BK469 hg; replace BK469 := wb BK469 hb; have NB475_483 := nl BK475 hg; have NB483_475 := nr BK475 hg; replace BK475 := wb BK475 hb; have NB478_483 := nl BK478 hg; have NB483_478 := nr BK478 hg; replace BK478 := wb BK478 hb; clear hb hbox hg; have hnb29 := NB483_469.out; have hnc29 := NB469_483.out; have hnb30 := NB483_475.out; have hnc30 := NB475_483.out; have hnb31 := NB483_478.out; have hnc31 := NB478_483.out; obtain ⟨hcz32_0, hcz32_1, hfz32_0, hfz32_1⟩ := bz2 BK483))
  (try simp only [Act.put, List.setIfInBounds_toArray, List.set_cons_zero, List.set_cons_succ])
  go_cut [73] (fun v73 wc => ∃ (kq : Nat) (x73_9 : Bool), v73 = .bool x73_9 ∧ Aside0 (laws_FnTexts.j0 kq l0 x73_9 = some r) ∧ Aside0 (kq ≤ k) ∧ Aside0 (Kd.NF k58 58 wc w.heap.size (fun k_ => some k_ ≠ ((.slice Ao18 t471.length co18) : Value).ownBlock) (.slice Ao13 t466.length co13) t466) ∧ Aside0 (Kd.NF k58 58 wc w.heap.size (fun k_ => some k_ ≠ ((.slice Ao13 t466.length co13) : Value).ownBlock) (.slice Ao18 t471.length co18) t471) ∧ Aside0 (wc.heap[gb469]? = some (.cells #[(.slice Ao13 t466.length co13)] 26 (0, 0))) ∧ Aside0 (wc.heap[gb475]? = some (.cells #[(.slice Ao18 t471.length co18)] 26 (0, 0))) ∧ Aside0 (wc.heap[gb478]? = some (.cells #[.int .i64 t476, .int .i64 t477] 32 (0, 0))) ∧ Aside0 (wc.heap[gb483]? = some (.cells #[.int .i64 t480, .int .i64 t481] 32 (0, 0))) ∧ Aside0 (Below w.heap.size w wc))
  case first =>
   have H := HC10.out
   clear HC10
   revert H; refine bo ?_; rintro t484 A33 H
   by_cases c34 : t470.toList = t484.toList
   ·rw [if_pos c34] at H
    have c34b0 : (t470.toList == t484.toList) = true := beq_iff_eq.mpr c34
    have c34b1 : (t470.toList != t484.toList) = false := bne_eq_false_iff_eq.mpr c34
    clear c34
    (first | rw [c34b0] | (simp only [i64_w, i32_w]; rw [c34b0]) | skip)
    revert H; refine bo ?_; rintro t485 A35 H
    by_cases c36 : (t474 != t485) = true
    ·rw [if_pos c36] at H
     exact absurd H (by simp)
    ·rw [if_neg c36] at H
     have c36b0 : (t474 != t485) = false := by simpa using c36
     (try (have c36b1 : decide (t474 = t485) = true := by simpa using c36))
     (try (have c36b2 : (t474 == t485) = true := by simpa using c36))
     clear c36
     by_cases c37 : t474 = true
     ·subst c37
      rw [if_pos rfl] at H
      revert H; refine bo ?_; rintro t486 A38 H
      by_cases c39 : t486.toList = t470.toList
      ·rw [if_pos c39] at H
       have c39b0 : (t486.toList == t470.toList) = true := beq_iff_eq.mpr c39
       have c39b1 : (t486.toList != t470.toList) = false := bne_eq_false_iff_eq.mpr c39
       clear c39
       revert H; refine bo ?_; rintro t487 A40 H
       by_cases c41 : (t482 != t487) = true
       ·rw [if_pos c41] at H
        exact absurd H (by simp)
       ·rw [if_neg c41] at H
        have c41b0 : (t482 != t487) = false := by simpa using c41
        (try (have c41b1 : decide (t482 = t487) = true := by simpa using c41))
        (try (have c41b2 : (t482 == t487) = true := by simpa using c41))
        clear c41
        by_cases c42 : t482 = true
        ·subst c42
         rw [if_pos rfl] at H
         have H' := Aside0.mk H
         clear H
         have hnb43 := NB469_475.out
         have hnc43 := NB475_469.out
         have hnb44 := NB469_478.out
         have hnc44 := NB478_469.out
         have hnb45 := NB469_483.out
         have hnc45 := NB483_469.out
         obtain ⟨hcz46_0, hfz46_0⟩ := bz1 BK469
         go_wp2_with (first | ((with_reducible refine gate_callee (f := 11) rfl ?_); refine gl (some 43) rfl Tryz.func11 #[.agg #[.slice Ao13 t466.length co13]] ?_; (with_reducible refine (spec_FormatTable.calls k _ _ t466 t484 _ ?side1 ?side2 A33.out).mono ?_); (case side1 => refine (Kd.NF_reads' (e := 58) (base := w.heap.size) (ok := fun k_ => (True ∧ some k_ ≠ (.slice Ao18 t471.length co18 : Value).ownBlock)) (n := t466.length) (c := co13) ?_).2.2; exact (by (with_reducible repeat (first | apply Kd.NF_alloc | apply Kd.NF_drewN | apply Kd.NF_drew)); exact (Kd.NF_mono (Kd.NF_far (p := ⟨gb483, 1, none⟩) (Kd.NF_far (p := ⟨gb483, 0, none⟩) (Kd.NF_types HO468.out BK483.out (by decide)) (fun _ hk => hk.2) (.int .i64 t480)) (fun _ hk => hk.2) (.int .i64 t481)) (fun _ h_ => h_.1)))); (case side2 => exact (Kd.NF_reads' HO468.out).2.1); rintro e w47 ⟨rfl, hb⟩; refine ⟨_, rfl, ?_⟩; replace HO468 := mk (Kd.NF_below (by (with_reducible repeat (first | apply Kd.NF_alloc | apply Kd.NF_drewN | apply Kd.NF_drew)); exact (Kd.NF_mono (Kd.NF_far (p := ⟨gb483, 1, none⟩) (Kd.NF_far (p := ⟨gb483, 0, none⟩) (Kd.NF_types HO468.out BK483.out (by decide)) (fun _ hk => hk.2) (.int .i64 t480)) (fun _ hk => hk.2) (.int .i64 t481)) (fun _ h_ => h_.1))) hb); replace HO473 := mk (Kd.NF_below (by (with_reducible repeat (first | apply Kd.NF_alloc | apply Kd.NF_drewN | apply Kd.NF_drew)); exact (Kd.NF_mono (Kd.NF_far (p := ⟨gb483, 1, none⟩) (Kd.NF_far (p := ⟨gb483, 0, none⟩) (Kd.NF_types HO473.out BK483.out (by decide)) (fun _ hk => hk.2) (.int .i64 t480)) (fun _ hk => hk.2) (.int .i64 t481)) (fun _ h_ => h_.1))) hb); replace BK469 := wx BK469 hb; replace BK475 := wx BK475 hb; replace BK478 := wx BK478 hb; replace BK483 := mk (blk_below (g := gb483) (o := .cells #[.int .i64 t480, .int .i64 t481] 32 (0, 0)) bq hb); replace HB := wh hb; (try clear hb); (try clear hb2); (try clear hk); (try clear hi); obtain ⟨hcz48_0, hfz48_0⟩ := bz1 BK469) | (go_at_call 12; (with_reducible refine (spec_IsTable.calls k _ _ t466 t485 _ ?side1 ?side2 A35.out).mono ?_); (case side1 => exact uc (Kd.NF_reads' HO468.out).2.2); (case side2 => exact (Kd.NF_reads' HO468.out).2.1); rintro e w49 ⟨rfl, hb⟩; replace HO468 := mk (Kd.NF_below (by (with_reducible repeat (first | apply Kd.NF_alloc | apply Kd.NF_drewN | apply Kd.NF_drew)); exact HO468.out) hb); replace HO473 := mk (Kd.NF_below (by (with_reducible repeat (first | apply Kd.NF_alloc | apply Kd.NF_drewN | apply Kd.NF_drew)); exact HO473.out) hb); replace BK469 := wb BK469 hb; replace BK475 := wb BK475 hb; replace BK478 := wb BK478 hb; replace BK483 := wb BK483 hb; replace HB := wh hb; (try clear hb); (try clear hb2); (try clear hk); (try clear hi); have hnb50 := NB475_478.out; have hnc50 := NB478_475.out; have hnb51 := NB475_483.out; have hnc51 := NB483_475.out; obtain ⟨hcz52_0, hfz52_0⟩ := bz1 BK475) | (go_at_call 6; (with_reducible refine (impl_FormatTable.calls k _ _ t471 t486 _ ?side1 ?side2 ?side3 A38.out).mono ?_); (case side1 => exact uc (Kd.NF_reads' HO473.out).2.2); (case side2 => exact (Kd.NF_reads' HO473.out).2.1); (case side3 => exact ⟨TabOk.step TB0.out bl⟩); rintro e w53 ⟨rfl, hb⟩; replace HO468 := mk (Kd.NF_below (by (with_reducible repeat (first | apply Kd.NF_alloc | apply Kd.NF_drewN | apply Kd.NF_drew)); exact HO468.out) hb); replace HO473 := mk (Kd.NF_below (by (with_reducible repeat (first | apply Kd.NF_alloc | apply Kd.NF_drewN | apply Kd.NF_drew)); exact HO473.out) hb); replace BK469 := wb BK469 hb; replace BK475 := wb BK475 hb; replace BK478 := wb BK478 hb; replace BK483 := wb BK483 hb; replace HB := wh hb; (try clear hb); (try clear hb2); (try clear hk); (try clear hi); have hnb54 := NB478_483.out; have hnc54 := NB483_478.out; obtain ⟨hcz55_0, hcz55_1, hfz55_0, hfz55_1⟩ := bz2 BK478) | (go_at_call 13; (with_reducible refine (spec_IsRange.calls t476 t477 t487 _ A40.out).mono ?_); rintro e w56 ⟨rfl, hb⟩; replace HO468 := mk (Kd.NF_below (by (with_reducible repeat (first | apply Kd.NF_alloc | apply Kd.NF_drewN | apply Kd.NF_drew)); exact HO468.out) hb); replace HO473 := mk (Kd.NF_below (by (with_reducible repeat (first | apply Kd.NF_alloc | apply Kd.NF_drewN | apply Kd.NF_drew)); exact HO473.out) hb); replace BK469 := wb BK469 hb; replace BK475 := wb BK475 hb; replace BK478 := wb BK478 hb; replace BK483 := wb BK483 hb; replace HB := wh hb; (try clear hb); (try clear hb2); (try clear hk); (try clear hi); obtain ⟨hcz57_0, hcz57_1, hfz57_0, hfz57_1⟩ := bz2 BK483; obtain ⟨hcz58_0, hcz58_1, hfz58_0, hfz58_1⟩ := bz2 BK478))
         go_meet
         case rel => exact ⟨_, ((!(t480 == t476) || (!(t481 == t477)))), (by first | rfl | (simp; done) | (simp [*]; done)), H', ⟨by first | omega | exact Nat.le_refl _⟩, ⟨by (with_reducible repeat (first | apply Kd.NF_alloc | apply Kd.NF_drewN | apply Kd.NF_drew)); exact Kd.NF_mono HO468.out (fun _ hk => hk.2)⟩, ⟨by (with_reducible repeat (first | apply Kd.NF_alloc | apply Kd.NF_drewN | apply Kd.NF_drew)); exact Kd.NF_mono HO473.out (fun _ hk => hk.2)⟩, ⟨ub BK469.out⟩, ⟨ub BK475.out⟩, ⟨ub BK478.out⟩, ⟨ub BK483.out⟩, ⟨bl⟩⟩
        ·replace c42 := Bool.eq_false_iff.mpr c42
         subst c42
         rw [if_neg nf] at H
         have H' := Aside0.mk H
         clear H
         have hnb59 := NB469_475.out
         have hnc59 := NB475_469.out
         have hnb60 := NB469_478.out
         have hnc60 := NB478_469.out
         have hnb61 := NB469_483.out
         have hnc61 := NB483_469.out
         obtain ⟨hcz62_0, hfz62_0⟩ := bz1 BK469
         go_wp2_with (first | ((with_reducible refine gate_callee (f := 11) rfl ?_); refine gl (some 43) rfl Tryz.func11 #[.agg #[.slice Ao13 t466.length co13]] ?_; (with_reducible refine (spec_FormatTable.calls k _ _ t466 t484 _ ?side1 ?side2 A33.out).mono ?_); (case side1 => refine (Kd.NF_reads' (e := 58) (base := w.heap.size) (ok := fun k_ => (True ∧ some k_ ≠ (.slice Ao18 t471.length co18 : Value).ownBlock)) (n := t466.length) (c := co13) ?_).2.2; exact (by (with_reducible repeat (first | apply Kd.NF_alloc | apply Kd.NF_drewN | apply Kd.NF_drew)); exact (Kd.NF_mono (Kd.NF_far (p := ⟨gb483, 1, none⟩) (Kd.NF_far (p := ⟨gb483, 0, none⟩) (Kd.NF_types HO468.out BK483.out (by decide)) (fun _ hk => hk.2) (.int .i64 t480)) (fun _ hk => hk.2) (.int .i64 t481)) (fun _ h_ => h_.1)))); (case side2 => exact (Kd.NF_reads' HO468.out).2.1); rintro e w63 ⟨rfl, hb⟩; refine ⟨_, rfl, ?_⟩; replace HO468 := mk (Kd.NF_below (by (with_reducible repeat (first | apply Kd.NF_alloc | apply Kd.NF_drewN | apply Kd.NF_drew)); exact (Kd.NF_mono (Kd.NF_far (p := ⟨gb483, 1, none⟩) (Kd.NF_far (p := ⟨gb483, 0, none⟩) (Kd.NF_types HO468.out BK483.out (by decide)) (fun _ hk => hk.2) (.int .i64 t480)) (fun _ hk => hk.2) (.int .i64 t481)) (fun _ h_ => h_.1))) hb); replace HO473 := mk (Kd.NF_below (by (with_reducible repeat (first | apply Kd.NF_alloc | apply Kd.NF_drewN | apply Kd.NF_drew)); exact (Kd.NF_mono (Kd.NF_far (p := ⟨gb483, 1, none⟩) (Kd.NF_far (p := ⟨gb483, 0, none⟩) (Kd.NF_types HO473.out BK483.out (by decide)) (fun _ hk => hk.2) (.int .i64 t480)) (fun _ hk => hk.2) (.int .i64 t481)) (fun _ h_ => h_.1))) hb); replace BK469 := wx BK469 hb; replace BK475 := wx BK475 hb; replace BK478 := wx BK478 hb; replace BK483 := mk (blk_below (g := gb483) (o := .cells #[.int .i64 t480, .int .i64 t481] 32 (0, 0)) bq hb); replace HB := wh hb; (try clear hb); (try clear hb2); (try clear hk); (try clear hi); obtain ⟨hcz64_0, hfz64_0⟩ := bz1 BK469) | (go_at_call 12; (with_reducible refine (spec_IsTable.calls k _ _ t466 t485 _ ?side1 ?side2 A35.out).mono ?_); (case side1 => exact uc (Kd.NF_reads' HO468.out).2.2); (case side2 => exact (Kd.NF_reads' HO468.out).2.1); rintro e w65 ⟨rfl, hb⟩; replace HO468 := mk (Kd.NF_below (by (with_reducible repeat (first | apply Kd.NF_alloc | apply Kd.NF_drewN | apply Kd.NF_drew)); exact HO468.out) hb); replace HO473 := mk (Kd.NF_below (by (with_reducible repeat (first | apply Kd.NF_alloc | apply Kd.NF_drewN | apply Kd.NF_drew)); exact HO473.out) hb); replace BK469 := wb BK469 hb; replace BK475 := wb BK475 hb; replace BK478 := wb BK478 hb; replace BK483 := wb BK483 hb; replace HB := wh hb; (try clear hb); (try clear hb2); (try clear hk); (try clear hi); have hnb66 := NB475_478.out; have hnc66 := NB478_475.out; have hnb67 := NB475_483.out; have hnc67 := NB483_475.out; obtain ⟨hcz68_0, hfz68_0⟩ := bz1 BK475) | (go_at_call 6; (with_reducible refine (impl_FormatTable.calls k _ _ t471 t486 _ ?side1 ?side2 ?side3 A38.out).mono ?_); (case side1 => exact uc (Kd.NF_reads' HO473.out).2.2); (case side2 => exact (Kd.NF_reads' HO473.out).2.1); (case side3 => exact ⟨TabOk.step TB0.out bl⟩); rintro e w69 ⟨rfl, hb⟩; replace HO468 := mk (Kd.NF_below (by (with_reducible repeat (first | apply Kd.NF_alloc | apply Kd.NF_drewN | apply Kd.NF_drew)); exact HO468.out) hb); replace HO473 := mk (Kd.NF_below (by (with_reducible repeat (first | apply Kd.NF_alloc | apply Kd.NF_drewN | apply Kd.NF_drew)); exact HO473.out) hb); replace BK469 := wb BK469 hb; replace BK475 := wb BK475 hb; replace BK478 := wb BK478 hb; replace BK483 := wb BK483 hb; replace HB := wh hb; (try clear hb); (try clear hb2); (try clear hk); (try clear hi); have hnb70 := NB478_483.out; have hnc70 := NB483_478.out; obtain ⟨hcz71_0, hcz71_1, hfz71_0, hfz71_1⟩ := bz2 BK478) | (go_at_call 13; (with_reducible refine (spec_IsRange.calls t476 t477 t487 _ A40.out).mono ?_); rintro e w72 ⟨rfl, hb⟩; replace HO468 := mk (Kd.NF_below (by (with_reducible repeat (first | apply Kd.NF_alloc | apply Kd.NF_drewN | apply Kd.NF_drew)); exact HO468.out) hb); replace HO473 := mk (Kd.NF_below (by (with_reducible repeat (first | apply Kd.NF_alloc | apply Kd.NF_drewN | apply Kd.NF_drew)); exact HO473.out) hb); replace BK469 := wb BK469 hb; replace BK475 := wb BK475 hb; replace BK478 := wb BK478 hb; replace BK483 := wb BK483 hb; replace HB := wh hb; (try clear hb); (try clear hb2); (try clear hk); (try clear hi)))
         go_meet
         case rel => exact ⟨_, (false), (by first | rfl | (simp; done) | (simp [*]; done)), H', ⟨by first | omega | exact Nat.le_refl _⟩, ⟨by (with_reducible repeat (first | apply Kd.NF_alloc | apply Kd.NF_drewN | apply Kd.NF_drew)); exact Kd.NF_mono HO468.out (fun _ hk => hk.2)⟩, ⟨by (with_reducible repeat (first | apply Kd.NF_alloc | apply Kd.NF_drewN | apply Kd.NF_drew)); exact Kd.NF_mono HO473.out (fun _ hk => hk.2)⟩, ⟨ub BK469.out⟩, ⟨ub BK475.out⟩, ⟨ub BK478.out⟩, ⟨ub BK483.out⟩, ⟨bl⟩⟩
      ·rw [if_neg c39] at H
       exact absurd H (by simp)
     ·replace c37 := Bool.eq_false_iff.mpr c37
      subst c37
      rw [if_neg nf] at H
      revert H; refine bo ?_; rintro t488 A73 H
      by_cases c74 : (t482 != t488) = true
      ·rw [if_pos c74] at H
       exact absurd H (by simp)
      ·rw [if_neg c74] at H
       have c74b0 : (t482 != t488) = false := by simpa using c74
       (try (have c74b1 : decide (t482 = t488) = true := by simpa using c74))
       (try (have c74b2 : (t482 == t488) = true := by simpa using c74))
       clear c74
       by_cases c75 : t482 = true
       ·subst c75
        rw [if_pos rfl] at H
        have H' := Aside0.mk H
        clear H
        have hnb76 := NB469_475.out
        have hnc76 := NB475_469.out
        have hnb77 := NB469_478.out
        have hnc77 := NB478_469.out
        have hnb78 := NB469_483.out
        have hnc78 := NB483_469.out
        obtain ⟨hcz79_0, hfz79_0⟩ := bz1 BK469
        go_wp2_with (first | ((with_reducible refine gate_callee (f := 11) rfl ?_); refine gl (some 43) rfl Tryz.func11 #[.agg #[.slice Ao13 t466.length co13]] ?_; (with_reducible refine (spec_FormatTable.calls k _ _ t466 t484 _ ?side1 ?side2 A33.out).mono ?_); (case side1 => refine (Kd.NF_reads' (e := 58) (base := w.heap.size) (ok := fun k_ => (True ∧ some k_ ≠ (.slice Ao18 t471.length co18 : Value).ownBlock)) (n := t466.length) (c := co13) ?_).2.2; exact (by (with_reducible repeat (first | apply Kd.NF_alloc | apply Kd.NF_drewN | apply Kd.NF_drew)); exact (Kd.NF_mono (Kd.NF_far (p := ⟨gb483, 1, none⟩) (Kd.NF_far (p := ⟨gb483, 0, none⟩) (Kd.NF_types HO468.out BK483.out (by decide)) (fun _ hk => hk.2) (.int .i64 t480)) (fun _ hk => hk.2) (.int .i64 t481)) (fun _ h_ => h_.1)))); (case side2 => exact (Kd.NF_reads' HO468.out).2.1); rintro e w80 ⟨rfl, hb⟩; refine ⟨_, rfl, ?_⟩; replace HO468 := mk (Kd.NF_below (by (with_reducible repeat (first | apply Kd.NF_alloc | apply Kd.NF_drewN | apply Kd.NF_drew)); exact (Kd.NF_mono (Kd.NF_far (p := ⟨gb483, 1, none⟩) (Kd.NF_far (p := ⟨gb483, 0, none⟩) (Kd.NF_types HO468.out BK483.out (by decide)) (fun _ hk => hk.2) (.int .i64 t480)) (fun _ hk => hk.2) (.int .i64 t481)) (fun _ h_ => h_.1))) hb); replace HO473 := mk (Kd.NF_below (by (with_reducible repeat (first | apply Kd.NF_alloc | apply Kd.NF_drewN | apply Kd.NF_drew)); exact (Kd.NF_mono (Kd.NF_far (p := ⟨gb483, 1, none⟩) (Kd.NF_far (p := ⟨gb483, 0, none⟩) (Kd.NF_types HO473.out BK483.out (by decide)) (fun _ hk => hk.2) (.int .i64 t480)) (fun _ hk => hk.2) (.int .i64 t481)) (fun _ h_ => h_.1))) hb); replace BK469 := wx BK469 hb; replace BK475 := wx BK475 hb; replace BK478 := wx BK478 hb; replace BK483 := mk (blk_below (g := gb483) (o := .cells #[.int .i64 t480, .int .i64 t481] 32 (0, 0)) bq hb); replace HB := wh hb; (try clear hb); (try clear hb2); (try clear hk); (try clear hi); obtain ⟨hcz81_0, hfz81_0⟩ := bz1 BK469) | (go_at_call 12; (with_reducible refine (spec_IsTable.calls k _ _ t466 t485 _ ?side1 ?side2 A35.out).mono ?_); (case side1 => exact uc (Kd.NF_reads' HO468.out).2.2); (case side2 => exact (Kd.NF_reads' HO468.out).2.1); rintro e w82 ⟨rfl, hb⟩; replace HO468 := mk (Kd.NF_below (by (with_reducible repeat (first | apply Kd.NF_alloc | apply Kd.NF_drewN | apply Kd.NF_drew)); exact HO468.out) hb); replace HO473 := mk (Kd.NF_below (by (with_reducible repeat (first | apply Kd.NF_alloc | apply Kd.NF_drewN | apply Kd.NF_drew)); exact HO473.out) hb); replace BK469 := wb BK469 hb; replace BK475 := wb BK475 hb; replace BK478 := wb BK478 hb; replace BK483 := wb BK483 hb; replace HB := wh hb; (try clear hb); (try clear hb2); (try clear hk); (try clear hi); have hnb83 := NB478_475.out; have hnc83 := NB475_478.out; have hnb84 := NB478_483.out; have hnc84 := NB483_478.out; obtain ⟨hcz85_0, hcz85_1, hfz85_0, hfz85_1⟩ := bz2 BK478) | (go_at_call 13; (with_reducible refine (spec_IsRange.calls t476 t477 t488 _ A73.out).mono ?_); rintro e w86 ⟨rfl, hb⟩; replace HO468 := mk (Kd.NF_below (by (with_reducible repeat (first | apply Kd.NF_alloc | apply Kd.NF_drewN | apply Kd.NF_drew)); exact HO468.out) hb); replace HO473 := mk (Kd.NF_below (by (with_reducible repeat (first | apply Kd.NF_alloc | apply Kd.NF_drewN | apply Kd.NF_drew)); exact HO473.out) hb); replace BK469 := wb BK469 hb; replace BK475 := wb BK475 hb; replace BK478 := wb BK478 hb; replace BK483 := wb BK483 hb; replace HB := wh hb; (try clear hb); (try clear hb2); (try clear hk); (try clear hi); have hnb87 := NB483_475.out; have hnc87 := NB475_483.out; obtain ⟨hcz88_0, hcz88_1, hfz88_0, hfz88_1⟩ := bz2 BK483; obtain ⟨hcz89_0, hcz89_1, hfz89_0, hfz89_1⟩ := bz2 BK478))
        go_meet
        case rel => exact ⟨_, ((!(t480 == t476) || (!(t481 == t477)))), (by first | rfl | (simp; done) | (simp [*]; done)), H', ⟨by first | omega | exact Nat.le_refl _⟩, ⟨by (with_reducible repeat (first | apply Kd.NF_alloc | apply Kd.NF_drewN | apply Kd.NF_drew)); exact Kd.NF_mono HO468.out (fun _ hk => hk.2)⟩, ⟨by (with_reducible repeat (first | apply Kd.NF_alloc | apply Kd.NF_drewN | apply Kd.NF_drew)); exact Kd.NF_mono HO473.out (fun _ hk => hk.2)⟩, ⟨ub BK469.out⟩, ⟨ub BK475.out⟩, ⟨ub BK478.out⟩, ⟨ub BK483.out⟩, ⟨bl⟩⟩
       ·replace c75 := Bool.eq_false_iff.mpr c75
        subst c75
        rw [if_neg nf] at H
        have H' := Aside0.mk H
        clear H
        have hnb90 := NB469_475.out
        have hnc90 := NB475_469.out
        have hnb91 := NB469_478.out
        have hnc91 := NB478_469.out
        have hnb92 := NB469_483.out
        have hnc92 := NB483_469.out
        obtain ⟨hcz93_0, hfz93_0⟩ := bz1 BK469
        go_wp2_with (first | ((with_reducible refine gate_callee (f := 11) rfl ?_); refine gl (some 43) rfl Tryz.func11 #[.agg #[.slice Ao13 t466.length co13]] ?_; (with_reducible refine (spec_FormatTable.calls k _ _ t466 t484 _ ?side1 ?side2 A33.out).mono ?_); (case side1 => refine (Kd.NF_reads' (e := 58) (base := w.heap.size) (ok := fun k_ => (True ∧ some k_ ≠ (.slice Ao18 t471.length co18 : Value).ownBlock)) (n := t466.length) (c := co13) ?_).2.2; exact (by (with_reducible repeat (first | apply Kd.NF_alloc | apply Kd.NF_drewN | apply Kd.NF_drew)); exact (Kd.NF_mono (Kd.NF_far (p := ⟨gb483, 1, none⟩) (Kd.NF_far (p := ⟨gb483, 0, none⟩) (Kd.NF_types HO468.out BK483.out (by decide)) (fun _ hk => hk.2) (.int .i64 t480)) (fun _ hk => hk.2) (.int .i64 t481)) (fun _ h_ => h_.1)))); (case side2 => exact (Kd.NF_reads' HO468.out).2.1); rintro e w94 ⟨rfl, hb⟩; refine ⟨_, rfl, ?_⟩; replace HO468 := mk (Kd.NF_below (by (with_reducible repeat (first | apply Kd.NF_alloc | apply Kd.NF_drewN | apply Kd.NF_drew)); exact (Kd.NF_mono (Kd.NF_far (p := ⟨gb483, 1, none⟩) (Kd.NF_far (p := ⟨gb483, 0, none⟩) (Kd.NF_types HO468.out BK483.out (by decide)) (fun _ hk => hk.2) (.int .i64 t480)) (fun _ hk => hk.2) (.int .i64 t481)) (fun _ h_ => h_.1))) hb); replace HO473 := mk (Kd.NF_below (by (with_reducible repeat (first | apply Kd.NF_alloc | apply Kd.NF_drewN | apply Kd.NF_drew)); exact (Kd.NF_mono (Kd.NF_far (p := ⟨gb483, 1, none⟩) (Kd.NF_far (p := ⟨gb483, 0, none⟩) (Kd.NF_types HO473.out BK483.out (by decide)) (fun _ hk => hk.2) (.int .i64 t480)) (fun _ hk => hk.2) (.int .i64 t481)) (fun _ h_ => h_.1))) hb); replace BK469 := wx BK469 hb; replace BK475 := wx BK475 hb; replace BK478 := wx BK478 hb; replace BK483 := mk (blk_below (g := gb483) (o := .cells #[.int .i64 t480, .int .i64 t481] 32 (0, 0)) bq hb); replace HB := wh hb; (try clear hb); (try clear hb2); (try clear hk); (try clear hi); obtain ⟨hcz95_0, hfz95_0⟩ := bz1 BK469) | (go_at_call 12; (with_reducible refine (spec_IsTable.calls k _ _ t466 t485 _ ?side1 ?side2 A35.out).mono ?_); (case side1 => exact uc (Kd.NF_reads' HO468.out).2.2); (case side2 => exact (Kd.NF_reads' HO468.out).2.1); rintro e w96 ⟨rfl, hb⟩; replace HO468 := mk (Kd.NF_below (by (with_reducible repeat (first | apply Kd.NF_alloc | apply Kd.NF_drewN | apply Kd.NF_drew)); exact HO468.out) hb); replace HO473 := mk (Kd.NF_below (by (with_reducible repeat (first | apply Kd.NF_alloc | apply Kd.NF_drewN | apply Kd.NF_drew)); exact HO473.out) hb); replace BK469 := wb BK469 hb; replace BK475 := wb BK475 hb; replace BK478 := wb BK478 hb; replace BK483 := wb BK483 hb; replace HB := wh hb; (try clear hb); (try clear hb2); (try clear hk); (try clear hi); have hnb97 := NB478_475.out; have hnc97 := NB475_478.out; have hnb98 := NB478_483.out; have hnc98 := NB483_478.out; obtain ⟨hcz99_0, hcz99_1, hfz99_0, hfz99_1⟩ := bz2 BK478) | (go_at_call 13; (with_reducible refine (spec_IsRange.calls t476 t477 t488 _ A73.out).mono ?_); rintro e w100 ⟨rfl, hb⟩; replace HO468 := mk (Kd.NF_below (by (with_reducible repeat (first | apply Kd.NF_alloc | apply Kd.NF_drewN | apply Kd.NF_drew)); exact HO468.out) hb); replace HO473 := mk (Kd.NF_below (by (with_reducible repeat (first | apply Kd.NF_alloc | apply Kd.NF_drewN | apply Kd.NF_drew)); exact HO473.out) hb); replace BK469 := wb BK469 hb; replace BK475 := wb BK475 hb; replace BK478 := wb BK478 hb; replace BK483 := wb BK483 hb; replace HB := wh hb; (try clear hb); (try clear hb2); (try clear hk); (try clear hi)))
        go_meet
        case rel => exact ⟨_, (false), (by first | rfl | (simp; done) | (simp [*]; done)), H', ⟨by first | omega | exact Nat.le_refl _⟩, ⟨by (with_reducible repeat (first | apply Kd.NF_alloc | apply Kd.NF_drewN | apply Kd.NF_drew)); exact Kd.NF_mono HO468.out (fun _ hk => hk.2)⟩, ⟨by (with_reducible repeat (first | apply Kd.NF_alloc | apply Kd.NF_drewN | apply Kd.NF_drew)); exact Kd.NF_mono HO473.out (fun _ hk => hk.2)⟩, ⟨ub BK469.out⟩, ⟨ub BK475.out⟩, ⟨ub BK478.out⟩, ⟨ub BK483.out⟩, ⟨bl⟩⟩
   ·rw [if_neg c34] at H
    exact absurd H (by simp)
  case rest =>
   clear HC10
   try clear c1
   try clear c2
   try clear p2
   try clear c3
   try clear c4
   try clear c5
   try clear c6
   try clear c7
   try clear c8
   try clear c9
   try clear c10
   try clear c11
   try clear c19
   try clear c23
   try clear c24
   try clear c29
   try clear c30
   try clear c31
   try clear c34
   try clear c34b0
   try clear c34b1
   try clear c36
   try clear c36b0
   try clear c36b1
   try clear c36b2
   try clear c37
   try clear c39
   try clear c39b0
   try clear c39b1
   try clear c41
   try clear c41b0
   try clear c41b1
   try clear c41b2
   try clear c42
   try clear c43
   try clear c44
   try clear c45
   try clear c50
   try clear c51
   try clear c54
   try clear c59
   try clear c60
   try clear c61
   try clear c66
   try clear c67
   try clear c70
   try clear c74
   try clear c74b0
   try clear c74b1
   try clear c74b2
   try clear c75
   try clear c76
   try clear c77
   try clear c78
   try clear c83
   try clear c84
   try clear c87
   try clear c90
   try clear c91
   try clear c92
   try clear c97
   try clear c98
   try clear hcz14_0
   try clear hcz20_0
   try clear hcz25_0
   try clear hcz25_1
   try clear hcz32_0
   try clear hcz32_1
   try clear hcz46_0
   try clear hcz48_0
   try clear hcz52_0
   try clear hcz55_0
   try clear hcz55_1
   try clear hcz57_0
   try clear hcz57_1
   try clear hcz58_0
   try clear hcz58_1
   try clear hcz62_0
   try clear hcz64_0
   try clear hcz68_0
   try clear hcz71_0
   try clear hcz71_1
   try clear hcz79_0
   try clear hcz81_0
   try clear hcz85_0
   try clear hcz85_1
   try clear hcz88_0
   try clear hcz88_1
   try clear hcz89_0
   try clear hcz89_1
   try clear hcz93_0
   try clear hcz95_0
   try clear hcz99_0
   try clear hcz99_1
   try clear hfz14_0
   try clear hfz20_0
   try clear hfz25_0
   try clear hfz25_1
   try clear hfz32_0
   try clear hfz32_1
   try clear hfz46_0
   try clear hfz48_0
   try clear hfz52_0
   try clear hfz55_0
   try clear hfz55_1
   try clear hfz57_0
   try clear hfz57_1
   try clear hfz58_0
   try clear hfz58_1
   try clear hfz62_0
   try clear hfz64_0
   try clear hfz68_0
   try clear hfz71_0
   try clear hfz71_1
   try clear hfz79_0
   try clear hfz81_0
   try clear hfz85_0
   try clear hfz85_1
   try clear hfz88_0
   try clear hfz88_1
   try clear hfz89_0
   try clear hfz89_1
   try clear hfz93_0
   try clear hfz95_0
   try clear hfz99_0
   try clear hfz99_1
   obtain ⟨kq, x73_9, rfl, HA, HJ9, HO_470000, HO_476000, BK469, BK475, BK478, BK483, HB⟩ := hcut
   cases kq with
   | zero => exact absurd HA.out (by simp [laws_FnTexts.j0])
   | succ kj9 =>
    have H := HA.out
    clear HA
    simp only [laws_FnTexts.j0] at H
    by_cases c101 : x73_9 = true
    ·subst c101
     rw [if_pos rfl] at H
     exact absurd H (by simp)
    ·replace c101 := Bool.eq_false_iff.mpr c101
     subst c101
     rw [if_neg nf] at H
     revert H; refine bo ?_; rintro ⟨t489, t490, t491, t492⟩ A102 H
     dsimp only at H
     revert H; refine bo ?_; rintro ⟨t495, t496⟩ A103 H
     dsimp only at H
     revert H; refine bo ?_; rintro ⟨t498, t499, t500⟩ A104 H
     dsimp only at H
     have H' := Aside0.mk H
     clear H
     go_wp2_with (first | ((with_reducible refine gate_callee (f := 14) rfl ?_); refine gl (some 76) rfl Tryz.func14 #[.slice A0 l0.length c0] ?_; (with_reducible refine (spec_DrawMeetRanges.calls kj9 _ _ l0 t489 t490 t491 t492 _ ?side1 ?side2 A102.out).mono ?_); (case side1 => exact uc (Kd.C_below HR0.out HB.out)); (case side2 => exact HC0.out); rintro e w105 ⟨rfl, hb⟩; refine ⟨_, rfl, ?_⟩; replace HO_470000 := mk (Kd.NF_below (by (with_reducible repeat (first | apply Kd.NF_alloc | apply Kd.NF_drewN | apply Kd.NF_drew)); exact HO_470000.out) hb); replace HO_476000 := mk (Kd.NF_below (by (with_reducible repeat (first | apply Kd.NF_alloc | apply Kd.NF_drewN | apply Kd.NF_drew)); exact HO_476000.out) hb); replace BK469 := wb BK469 hb; replace BK475 := wb BK475 hb; replace BK478 := wb BK478 hb; replace BK483 := wb BK483 hb; replace HB := wh hb; (try clear hb); (try clear hb2); (try clear hk); (try clear hi)) | ((with_reducible refine gate_dst (N := 10) rfl ?_); refine bx 10 #[.int .i64 0, .int .i64 0] 32 ?_; intro gb493 hg w106 hbox hb; replace HO_470000 := mk (Kd.NF_below (by (with_reducible repeat (first | apply Kd.NF_alloc | apply Kd.NF_drewN | apply Kd.NF_drew)); exact HO_470000.out) hb); replace HO_476000 := mk (Kd.NF_below (by (with_reducible repeat (first | apply Kd.NF_alloc | apply Kd.NF_drewN | apply Kd.NF_drew)); exact HO_476000.out) hb); have BK493 := mk hbox; have GW493 := wg hg; have GE493 := wg hg; replace HB := wh hb; have NB469_493 := nl BK469 hg; have NB493_469 := nr BK469 hg; replace BK469 := wb BK469 hb; have NB475_493 := nl BK475 hg; have NB493_475 := nr BK475 hg; replace BK475 := wb BK475 hb; have NB478_493 := nl BK478 hg; have NB493_478 := nr BK478 hg; replace BK478 := wb BK478 hb; have NB483_493 := nl BK483 hg; have NB493_483 := nr BK483 hg; replace BK483 := wb BK483 hb; clear hb hbox hg) | ((with_reducible refine gate_dst (N := 11) rfl ?_); refine bx 11 #[.int .i64 0, .int .i64 0] 32 ?_; intro gb494 hg w107 hbox hb; replace HO_470000 := mk (Kd.NF_below (by (with_reducible repeat (first | apply Kd.NF_alloc | apply Kd.NF_drewN | apply Kd.NF_drew)); exact HO_470000.out) hb); replace HO_476000 := mk (Kd.NF_below (by (with_reducible repeat (first | apply Kd.NF_alloc | apply Kd.NF_drewN | apply Kd.NF_drew)); exact HO_476000.out) hb); have BK494 := mk hbox; have GW494 := wg hg; have GE494 := wg hg; replace HB := wh hb; have NB469_494 := nl BK469 hg; have NB494_469 := nr BK469 hg; replace BK469 := wb BK469 hb; have NB475_494 := nl BK475 hg; have NB494_475 := nr BK475 hg; replace BK475 := wb BK475 hb; have NB478_494 := nl BK478 hg; have NB494_478 := nr BK478 hg; replace BK478 := wb BK478 hb; have NB483_494 := nl BK483 hg; have NB494_483 := nr BK483 hg; replace BK483 := wb BK483 hb; have NB493_494 := nl BK493 hg; have NB494_493 := nr BK493 hg; replace BK493 := wb BK493 hb; clear hb hbox hg; have hnb108 := NB493_469.out; have hnc108 := NB469_493.out; have hnb109 := NB493_475.out; have hnc109 := NB475_493.out; have hnb110 := NB493_478.out; have hnc110 := NB478_493.out; have hnb111 := NB493_483.out; have hnc111 := NB483_493.out; have hnb112 := NB493_494.out; have hnc112 := NB494_493.out; obtain ⟨hcz113_0, hcz113_1, hfz113_0, hfz113_1⟩ := bz2 BK493; have hnb114 := NB494_469.out; have hnc114 := NB469_494.out; have hnb115 := NB494_475.out; have hnc115 := NB475_494.out; have hnb116 := NB494_478.out; have hnc116 := NB478_494.out; have hnb117 := NB494_483.out; have hnc117 := NB483_494.out; obtain ⟨hcz118_0, hcz118_1, hfz118_0, hfz118_1⟩ := bz2 BK494) | ((with_reducible refine gate_callee (f := 15) rfl ?_); refine gl (some 81) rfl Tryz.func15 #[.agg #[.int .i64 t489, .int .i64 t490], .agg #[.int .i64 t491, .int .i64 t492]] ?_; (with_reducible refine (impl_MeetRanges.calls t489 t490 t491 t492 t495 t496 _ A103.out).mono ?_); rintro e w119 ⟨rfl, hb⟩; refine ⟨_, rfl, ?_⟩; replace HO_470000 := mk (Kd.NF_below (by (with_reducible repeat (first | apply Kd.NF_alloc | apply Kd.NF_drewN | apply Kd.NF_drew)); exact (Kd.NF_mono (Kd.NF_mono (Kd.NF_far (p := ⟨gb494, 1, none⟩) (Kd.NF_far (p := ⟨gb494, 0, none⟩) (Kd.NF_far (p := ⟨gb493, 1, none⟩) (Kd.NF_far (p := ⟨gb493, 0, none⟩) (Kd.NF_types (Kd.NF_types HO_470000.out BK493.out (by decide)) BK494.out (by decide)) (fun _ hk => by first | exact hk.1.2 | (revert hk; simp only [and_imp]; intros; (repeat' (refine And.intro ?_ ?_)) <;> assumption)) (.int .i64 t489)) (fun _ hk => by first | exact hk.1.2 | (revert hk; simp only [and_imp]; intros; (repeat' (refine And.intro ?_ ?_)) <;> assumption)) (.int .i64 t490)) (fun _ hk => hk.2) (.int .i64 t491)) (fun _ hk => hk.2) (.int .i64 t492)) (fun _ h_ => h_.1)) (fun _ h_ => h_.1))) hb); replace HO_476000 := mk (Kd.NF_below (by (with_reducible repeat (first | apply Kd.NF_alloc | apply Kd.NF_drewN | apply Kd.NF_drew)); exact (Kd.NF_mono (Kd.NF_mono (Kd.NF_far (p := ⟨gb494, 1, none⟩) (Kd.NF_far (p := ⟨gb494, 0, none⟩) (Kd.NF_far (p := ⟨gb493, 1, none⟩) (Kd.NF_far (p := ⟨gb493, 0, none⟩) (Kd.NF_types (Kd.NF_types HO_476000.out BK493.out (by decide)) BK494.out (by decide)) (fun _ hk => by first | exact hk.1.2 | (revert hk; simp only [and_imp]; intros; (repeat' (refine And.intro ?_ ?_)) <;> assumption)) (.int .i64 t489)) (fun _ hk => by first | exact hk.1.2 | (revert hk; simp only [and_imp]; intros; (repeat' (refine And.intro ?_ ?_)) <;> assumption)) (.int .i64 t490)) (fun _ hk => hk.2) (.int .i64 t491)) (fun _ hk => hk.2) (.int .i64 t492)) (fun _ h_ => h_.1)) (fun _ h_ => h_.1))) hb); replace BK469 := wx BK469 hb; replace BK475 := wx BK475 hb; replace BK478 := wx BK478 hb; replace BK483 := wx BK483 hb; replace BK493 := mk (blk_below (g := gb493) (o := .cells #[.int .i64 t489, .int .i64 t490] 32 (0, 0)) bq hb); replace BK494 := mk (blk_below (g := gb494) (o := .cells #[.int .i64 t491, .int .i64 t492] 32 (0, 0)) bq hb); replace HB := wh hb; (try clear hb); (try clear hb2); (try clear hk); (try clear hi)) | ((with_reducible refine gate_dst (N := 12) rfl ?_); refine bx 12 #[.int .i64 0, .int .i64 0] 32 ?_; intro gb497 hg w120 hbox hb; replace HO_470000 := mk (Kd.NF_below (by (with_reducible repeat (first | apply Kd.NF_alloc | apply Kd.NF_drewN | apply Kd.NF_drew)); exact HO_470000.out) hb); replace HO_476000 := mk (Kd.NF_below (by (with_reducible repeat (first | apply Kd.NF_alloc | apply Kd.NF_drewN | apply Kd.NF_drew)); exact HO_476000.out) hb); have BK497 := mk hbox; have GW497 := wg hg; have GE497 := wg hg; replace HB := wh hb; have NB469_497 := nl BK469 hg; have NB497_469 := nr BK469 hg; replace BK469 := wb BK469 hb; have NB475_497 := nl BK475 hg; have NB497_475 := nr BK475 hg; replace BK475 := wb BK475 hb; have NB478_497 := nl BK478 hg; have NB497_478 := nr BK478 hg; replace BK478 := wb BK478 hb; have NB483_497 := nl BK483 hg; have NB497_483 := nr BK483 hg; replace BK483 := wb BK483 hb; have NB493_497 := nl BK493 hg; have NB497_493 := nr BK493 hg; replace BK493 := wb BK493 hb; have NB494_497 := nl BK494 hg; have NB497_494 := nr BK494 hg; replace BK494 := wb BK494 hb; clear hb hbox hg; have hnb121 := NB497_469.out; have hnc121 := NB469_497.out; have hnb122 := NB497_475.out; have hnc122 := NB475_497.out; have hnb123 := NB497_478.out; have hnc123 := NB478_497.out; have hnb124 := NB497_483.out; have hnc124 := NB483_497.out; have hnb125 := NB497_493.out; have hnc125 := NB493_497.out; have hnb126 := NB497_494.out; have hnc126 := NB494_497.out; obtain ⟨hcz127_0, hcz127_1, hfz127_0, hfz127_1⟩ := bz2 BK497) | ((with_reducible refine gate_callee (f := 16) rfl ?_); refine gl (some 84) rfl Tryz.func16 #[.slice A0 l0.length c0] ?_; (with_reducible refine (spec_DrawInRange.calls kj9 _ _ l0 t498 t499 t500 _ ?side1 ?side2 A104.out).mono ?_); (case side1 => exact Kd.C_below HR0.out bl); (case side2 => exact HC0.out); rintro e w128 ⟨rfl, hb⟩; refine ⟨_, rfl, ?_⟩; replace HO_470000 := mk (Kd.NF_below (by (with_reducible repeat (first | apply Kd.NF_alloc | apply Kd.NF_drewN | apply Kd.NF_drew)); exact (Kd.NF_mono (Kd.NF_far (p := ⟨gb497, 1, none⟩) (Kd.NF_far (p := ⟨gb497, 0, none⟩) (Kd.NF_types HO_470000.out BK497.out (by decide)) (fun _ hk => hk.2) (.int .i64 t495)) (fun _ hk => hk.2) (.int .i64 t496)) (fun _ h_ => h_.1))) hb); replace HO_476000 := mk (Kd.NF_below (by (with_reducible repeat (first | apply Kd.NF_alloc | apply Kd.NF_drewN | apply Kd.NF_drew)); exact (Kd.NF_mono (Kd.NF_far (p := ⟨gb497, 1, none⟩) (Kd.NF_far (p := ⟨gb497, 0, none⟩) (Kd.NF_types HO_476000.out BK497.out (by decide)) (fun _ hk => hk.2) (.int .i64 t495)) (fun _ hk => hk.2) (.int .i64 t496)) (fun _ h_ => h_.1))) hb); replace BK469 := wx BK469 hb; replace BK475 := wx BK475 hb; replace BK478 := wx BK478 hb; replace BK483 := wx BK483 hb; replace BK493 := wx BK493 hb; replace BK494 := wx BK494 hb; replace BK497 := mk (blk_below (g := gb497) (o := .cells #[.int .i64 t495, .int .i64 t496] 32 (0, 0)) bq hb); replace HB := wh hb; (try clear hb); (try clear hb2); (try clear hk); (try clear hi)) | ((with_reducible refine gate_dst (N := 13) rfl ?_); refine bx 13 #[.int .i64 0, .int .i64 0] 32 ?_; intro gb501 hg w129 hbox hb; replace HO_470000 := mk (Kd.NF_below (by (with_reducible repeat (first | apply Kd.NF_alloc | apply Kd.NF_drewN | apply Kd.NF_drew)); exact HO_470000.out) hb); replace HO_476000 := mk (Kd.NF_below (by (with_reducible repeat (first | apply Kd.NF_alloc | apply Kd.NF_drewN | apply Kd.NF_drew)); exact HO_476000.out) hb); have BK501 := mk hbox; have GW501 := wg hg; have GE501 := wg hg; replace HB := wh hb; have NB469_501 := nl BK469 hg; have NB501_469 := nr BK469 hg; replace BK469 := wb BK469 hb; have NB475_501 := nl BK475 hg; have NB501_475 := nr BK475 hg; replace BK475 := wb BK475 hb; have NB478_501 := nl BK478 hg; have NB501_478 := nr BK478 hg; replace BK478 := wb BK478 hb; have NB483_501 := nl BK483 hg; have NB501_483 := nr BK483 hg; replace BK483 := wb BK483 hb; have NB493_501 := nl BK493 hg; have NB501_493 := nr BK493 hg; replace BK493 := wb BK493 hb; have NB494_501 := nl BK494 hg; have NB501_494 := nr BK494 hg; replace BK494 := wb BK494 hb; have NB497_501 := nl BK497 hg; have NB501_497 := nr BK497 hg; replace BK497 := wb BK497 hb; clear hb hbox hg; have hnb130 := NB501_469.out; have hnc130 := NB469_501.out; have hnb131 := NB501_475.out; have hnc131 := NB475_501.out; have hnb132 := NB501_478.out; have hnc132 := NB478_501.out; have hnb133 := NB501_483.out; have hnc133 := NB483_501.out; have hnb134 := NB501_493.out; have hnc134 := NB493_501.out; have hnb135 := NB501_494.out; have hnc135 := NB494_501.out; have hnb136 := NB501_497.out; have hnc136 := NB497_501.out; obtain ⟨hcz137_0, hcz137_1, hfz137_0, hfz137_1⟩ := bz2 BK501))
     go_loopg [15] kj9 (fun kq v15 w' => ∃ (x15_2 : Int), v15 = .int .i64 x15_2 ∧ Aside0 (laws_FnTexts.l0 kq l0 t500 x15_2 t489 t490 t491 t492 t495 t496 t498 t499 = some r) ∧ Aside0 (kq ≤ kj9) ∧ Aside0 (Kd.NF k58 58 w' w.heap.size (fun k_ => some k_ ≠ ((.slice Ao18 t471.length co18) : Value).ownBlock) (.slice Ao13 t466.length co13) t466) ∧ Aside0 (Kd.NF k58 58 w' w.heap.size (fun k_ => some k_ ≠ ((.slice Ao13 t466.length co13) : Value).ownBlock) (.slice Ao18 t471.length co18) t471) ∧ Aside0 (w'.heap[gb469]? = some (.cells #[(.slice Ao13 t466.length co13)] 26 (0, 0))) ∧ Aside0 (w'.heap[gb475]? = some (.cells #[(.slice Ao18 t471.length co18)] 26 (0, 0))) ∧ Aside0 (w'.heap[gb478]? = some (.cells #[.int .i64 t476, .int .i64 t477] 32 (0, 0))) ∧ Aside0 (w'.heap[gb483]? = some (.cells #[.int .i64 t480, .int .i64 t481] 32 (0, 0))) ∧ Aside0 (w'.heap[gb493]? = some (.cells #[.int .i64 t489, .int .i64 t490] 32 (0, 0))) ∧ Aside0 (w'.heap[gb494]? = some (.cells #[.int .i64 t491, .int .i64 t492] 32 (0, 0))) ∧ Aside0 (w'.heap[gb497]? = some (.cells #[.int .i64 t495, .int .i64 t496] 32 (0, 0))) ∧ Aside0 (w'.heap[gb501]? = some (.cells #[.int .i64 t498, .int .i64 t499] 32 (0, 0))) ∧ Aside0 (Below w.heap.size w w'))
     case atStart => exact ⟨(wrap64 (t500 - 3)), (by first | rfl | (simp; done) | (simp [*]; done)), H', ⟨Nat.le_refl _⟩, ⟨by (with_reducible repeat (first | apply Kd.NF_alloc | apply Kd.NF_drewN | apply Kd.NF_drew)); exact Kd.NF_mono (Kd.NF_far (p := ⟨gb501, 1, none⟩) (Kd.NF_far (p := ⟨gb501, 0, none⟩) (Kd.NF_types HO_470000.out BK501.out (by decide)) (fun _ hk => hk.2) (.int .i64 t498)) (fun _ hk => hk.2) (.int .i64 t499)) (fun _ hk => hk.1)⟩, ⟨by (with_reducible repeat (first | apply Kd.NF_alloc | apply Kd.NF_drewN | apply Kd.NF_drew)); exact Kd.NF_mono (Kd.NF_far (p := ⟨gb501, 1, none⟩) (Kd.NF_far (p := ⟨gb501, 0, none⟩) (Kd.NF_types HO_476000.out BK501.out (by decide)) (fun _ hk => hk.2) (.int .i64 t498)) (fun _ hk => hk.2) (.int .i64 t499)) (fun _ hk => hk.1)⟩, ⟨bq⟩, ⟨bq⟩, ⟨bq⟩, ⟨bq⟩, ⟨bq⟩, ⟨bq⟩, ⟨bq⟩, ⟨bq⟩, ⟨bl⟩⟩
     case round =>
      clear H'
      try clear c1
      try clear c2
      try clear p2
      try clear c3
      try clear c4
      try clear c5
      try clear c6
      try clear p6
      try clear c7
      try clear c8
      try clear c9
      try clear c10
      try clear c11
      try clear c12
      try clear c13
      try clear c14
      try clear c15
      try clear c16
      try clear c19
      try clear c23
      try clear c24
      try clear c29
      try clear c30
      try clear c31
      try clear c34
      try clear c34b0
      try clear c34b1
      try clear c36
      try clear c36b0
      try clear c36b1
      try clear c36b2
      try clear c37
      try clear c39
      try clear c39b0
      try clear c39b1
      try clear c41
      try clear c41b0
      try clear c41b1
      try clear c41b2
      try clear c42
      try clear c43
      try clear c44
      try clear c45
      try clear c50
      try clear c51
      try clear c54
      try clear c59
      try clear c60
      try clear c61
      try clear p64
      try clear c66
      try clear c67
      try clear c70
      try clear c74
      try clear c74b0
      try clear c74b1
      try clear c74b2
      try clear c75
      try clear c76
      try clear c77
      try clear c78
      try clear c83
      try clear c84
      try clear c87
      try clear c90
      try clear c91
      try clear c92
      try clear c97
      try clear c98
      try clear c101
      try clear c108
      try clear c109
      try clear c110
      try clear c111
      try clear c112
      try clear c114
      try clear c115
      try clear c116
      try clear c117
      try clear c121
      try clear c122
      try clear c123
      try clear c124
      try clear c125
      try clear c126
      try clear c130
      try clear c131
      try clear c132
      try clear c133
      try clear c134
      try clear c135
      try clear c136
      try clear hcz113_0
      try clear hcz113_1
      try clear hcz118_0
      try clear hcz118_1
      try clear hcz127_0
      try clear hcz127_1
      try clear hcz137_0
      try clear hcz137_1
      try clear hcz14_0
      try clear hcz20_0
      try clear hcz25_0
      try clear hcz25_1
      try clear hcz32_0
      try clear hcz32_1
      try clear hcz46_0
      try clear hcz48_0
      try clear hcz52_0
      try clear hcz55_0
      try clear hcz55_1
      try clear hcz57_0
      try clear hcz57_1
      try clear hcz58_0
      try clear hcz58_1
      try clear hcz62_0
      try clear hcz64_0
      try clear hcz68_0
      try clear hcz71_0
      try clear hcz71_1
      try clear hcz79_0
      try clear hcz81_0
      try clear hcz85_0
      try clear hcz85_1
      try clear hcz88_0
      try clear hcz88_1
      try clear hcz89_0
      try clear hcz89_1
      try clear hcz93_0
      try clear hcz95_0
      try clear hcz99_0
      try clear hcz99_1
      try clear hfz113_0
      try clear hfz113_1
      try clear hfz118_0
      try clear hfz118_1
      try clear hfz127_0
      try clear hfz127_1
      try clear hfz137_0
      try clear hfz137_1
      try clear hfz14_0
      try clear hfz20_0
      try clear hfz25_0
      try clear hfz25_1
      try clear hfz32_0
      try clear hfz32_1
      try clear hfz46_0
      try clear hfz48_0
      try clear hfz52_0
      try clear hfz55_0
      try clear hfz55_1
      try clear hfz57_0
      try clear hfz57_1
      try clear hfz58_0
      try clear hfz58_1
      try clear hfz62_0
      try clear hfz64_0
      try clear hfz68_0
      try clear hfz71_0
      try clear hfz71_1
      try clear hfz79_0
      try clear hfz81_0
      try clear hfz85_0
      try clear hfz85_1
      try clear hfz88_0
      try clear hfz88_1
      try clear hfz89_0
      try clear hfz89_1
      try clear hfz93_0
      try clear hfz95_0
      try clear hfz99_0
      try clear hfz99_1
      try clear p2
      obtain ⟨x15_2, rfl, HA, HK2, HO_470000, HO_476000, BK469, BK475, BK478, BK483, BK493, BK494, BK497, BK501, HB⟩ := hrel
      cases gk with
      | zero => exact absurd HA.out (by simp [laws_FnTexts.l0])
      | succ k2 =>
       have H := HA.out
       clear HA
       simp only [laws_FnTexts.l0] at H
       by_cases c138 : x15_2 ≤ (wrap64 (t500 + 3))
       ·rw [if_pos c138] at H
        have c138b0 : decide (x15_2 ≤ (wrap64 (t500 + 3))) = true := decide_eq_true c138
        clear c138
        revert H; refine bo ?_; rintro t502 A139 H
        by_cases c140 : t502 = true
        ·subst c140
         rw [if_pos rfl] at H
         revert H; refine bo ?_; rintro t503 A141 H
         by_cases c142 : t503 = true
         ·subst c142
          rw [if_pos rfl] at H
          revert H; refine bo ?_; rintro t504 A143 H
          revert H; refine bo ?_; rintro t505 A144 H
          by_cases c145 : t505 = true
          ·subst c145
           rw [if_pos rfl] at H
           revert H; refine bo ?_; rintro t506 A146 H
           by_cases c147 : (t504 != t506) = true
           ·rw [if_pos c147] at H
            exact absurd H (by simp)
           ·rw [if_neg c147] at H
            have c147b0 : (t504 != t506) = false := by simpa using c147
            (try (have c147b1 : decide (t504 = t506) = true := by simpa using c147))
            (try (have c147b2 : (t504 == t506) = true := by simpa using c147))
            clear c147
            have H' := Aside0.mk H
            clear H
            try go_wp2
            replace HO_470000 := mk (Kd.NF_drew HO_470000.out)
            replace HO_476000 := mk (Kd.NF_drew HO_476000.out)
            replace BK469 := wd BK469
            replace BK475 := wd BK475
            replace BK478 := wd BK478
            replace BK483 := wd BK483
            replace BK493 := wd BK493
            replace BK494 := wd BK494
            replace BK497 := wd BK497
            replace BK501 := wd BK501
            replace HB := mk (below_drew1 HB.out)
            refine start_ (n := 20) (S := fun w' => w'.cell? ⟨gb493, 0, none⟩ = some (.int .i64 t489) ∧ w'.cell? ⟨gb493, 1, none⟩ = some (.int .i64 t490) ∧ w'.cell? ⟨gb494, 0, none⟩ = some (.int .i64 t491) ∧ w'.cell? ⟨gb494, 1, none⟩ = some (.int .i64 t492) ∧ w'.cell? ⟨gb497, 0, none⟩ = some (.int .i64 t495) ∧ w'.cell? ⟨gb497, 1, none⟩ = some (.int .i64 t496)) (ds := []) #[F_, F_, F_, F_, F_, F_, F_, F_, F_, F_, F_, F_, F_, F_, F_, F_, F_, F_, F_, F_] (by kernel_rfl) rfl rfl ⟨bc BK493 0, bc BK493 1, bc BK494 0, bc BK494 1, bc BK497 0, bc BK497 1⟩ (fun hHeld => ?_); refine with_tabW laws_FnTexts.tab16 laws_FnTexts.bits16 (fun HT_ HW_ => ?_)
            generalize wr.drew = w148 at HO_470000 HO_476000 BK469 BK475 BK478 BK483 BK493 BK494 BK497 BK501 HB hHeld ⊢
            refine tk 0 95 (tf 1 19) hHeld ?_
            refine on 1 96 (tf 2 18) (fun K hK => ?_)
            refine gs Tryz.func13 #[.agg #[.int .i64 t489, .int .i64 t490]] ?_
            with_reducible refine (spec_IsRange.calls t489 t490 true _ A139.out).mono ?_
            rintro e w149 ⟨rfl, hb⟩
            refine ⟨_, rfl, ?_⟩
            replace HO_470000 := mk (Kd.NF_below (by (with_reducible repeat (first | apply Kd.NF_alloc | apply Kd.NF_drewN | apply Kd.NF_drew)); exact HO_470000.out) hb)
            replace HO_476000 := mk (Kd.NF_below (by (with_reducible repeat (first | apply Kd.NF_alloc | apply Kd.NF_drewN | apply Kd.NF_drew)); exact HO_476000.out) hb)
            replace BK469 := wb BK469 hb
            replace BK475 := wb BK475 hb
            replace BK478 := wb BK478 hb
            replace BK483 := wb BK483 hb
            replace BK493 := wb BK493 hb
            replace BK494 := wb BK494 hb
            replace BK497 := wb BK497 hb
            replace BK501 := wb BK501 hb
            replace HB := wh hb
            (try clear hb)
            (try clear hb2)
            (try clear hk)
            (try clear hi)
            refine hK.out _ _ ⟨bc BK493 0, bc BK493 1, bc BK494 0, bc BK494 1, bc BK497 0, bc BK497 1⟩ (fun hHeld => ?_)
            clear hK K
            refine nm 96 ?_
            refine pu 2 97 (tf 3 17) ?_
            refine tk 3 98 (tf 4 16) hHeld ?_
            refine on 4 99 (tf 5 15) (fun K hK => ?_)
            refine gs Tryz.func13 #[.agg #[.int .i64 t491, .int .i64 t492]] ?_
            with_reducible refine (spec_IsRange.calls t491 t492 true _ A141.out).mono ?_
            rintro e w150 ⟨rfl, hb⟩
            refine ⟨_, rfl, ?_⟩
            replace HO_470000 := mk (Kd.NF_below (by (with_reducible repeat (first | apply Kd.NF_alloc | apply Kd.NF_drewN | apply Kd.NF_drew)); exact HO_470000.out) hb)
            replace HO_476000 := mk (Kd.NF_below (by (with_reducible repeat (first | apply Kd.NF_alloc | apply Kd.NF_drewN | apply Kd.NF_drew)); exact HO_476000.out) hb)
            replace BK469 := wb BK469 hb
            replace BK475 := wb BK475 hb
            replace BK478 := wb BK478 hb
            replace BK483 := wb BK483 hb
            replace BK493 := wb BK493 hb
            replace BK494 := wb BK494 hb
            replace BK497 := wb BK497 hb
            replace BK501 := wb BK501 hb
            replace HB := wh hb
            (try clear hb)
            (try clear hb2)
            (try clear hk)
            (try clear hi)
            refine hK.out _ _ ⟨bc BK493 0, bc BK493 1, bc BK494 0, bc BK494 1, bc BK497 0, bc BK497 1⟩ (fun hHeld => ?_)
            clear hK K
            refine nm 99 ?_
            refine pu 5 100 (tf 6 14) ?_
            refine pu 6 101 (tf 7 13) ?_
            refine pu 8 103 #[T_,T_,T_,T_,T_,T_,T_,F_,T_,F_,F_,F_,F_,F_,F_,F_,F_,F_,F_,F_] ?_
            refine pu 11 106 #[T_,T_,T_,T_,T_,T_,T_,F_,T_,F_,F_,T_,F_,F_,F_,F_,F_,F_,F_,F_] ?_
            refine tk 7 102 #[T_,T_,T_,T_,T_,T_,T_,T_,T_,F_,F_,T_,F_,F_,F_,F_,F_,F_,F_,F_] hHeld ?_
            refine tk 10 105 #[T_,T_,T_,T_,T_,T_,T_,T_,T_,F_,T_,T_,F_,F_,F_,F_,F_,F_,F_,F_] hHeld ?_
            refine on 9 104 (tf 12 8) (fun K hK => ?_)
            refine gs Tryz.func17 #[.agg #[.int .i64 t495, .int .i64 t496], .int .i64 x15_2] ?_
            with_reducible refine (impl_InRange.calls t495 t496 x15_2 t504 _ A143.out).mono ?_
            rintro e w151 ⟨rfl, hb⟩
            refine ⟨_, rfl, ?_⟩
            replace HO_470000 := mk (Kd.NF_below (by (with_reducible repeat (first | apply Kd.NF_alloc | apply Kd.NF_drewN | apply Kd.NF_drew)); exact HO_470000.out) hb)
            replace HO_476000 := mk (Kd.NF_below (by (with_reducible repeat (first | apply Kd.NF_alloc | apply Kd.NF_drewN | apply Kd.NF_drew)); exact HO_476000.out) hb)
            replace BK469 := wb BK469 hb
            replace BK475 := wb BK475 hb
            replace BK478 := wb BK478 hb
            replace BK483 := wb BK483 hb
            replace BK493 := wb BK493 hb
            replace BK494 := wb BK494 hb
            replace BK497 := wb BK497 hb
            replace BK501 := wb BK501 hb
            replace HB := wh hb
            (try clear hb)
            (try clear hb2)
            (try clear hk)
            (try clear hi)
            refine hK.out _ _ ⟨bc BK493 0, bc BK493 1, bc BK494 0, bc BK494 1, bc BK497 0, bc BK497 1⟩ (fun hHeld => ?_)
            clear hK K
            refine nm 104 ?_
            refine on 12 107 (tf 13 7) (fun K hK => ?_)
            refine gs Tryz.func18 #[.agg #[.int .i64 t489, .int .i64 t490], .int .i64 x15_2] ?_
            with_reducible refine (spec_InRange.calls t489 t490 x15_2 true _ A144.out).mono ?_
            rintro e w152 ⟨rfl, hb⟩
            refine ⟨_, rfl, ?_⟩
            replace HO_470000 := mk (Kd.NF_below (by (with_reducible repeat (first | apply Kd.NF_alloc | apply Kd.NF_drewN | apply Kd.NF_drew)); exact HO_470000.out) hb)
            replace HO_476000 := mk (Kd.NF_below (by (with_reducible repeat (first | apply Kd.NF_alloc | apply Kd.NF_drewN | apply Kd.NF_drew)); exact HO_476000.out) hb)
            replace BK469 := wb BK469 hb
            replace BK475 := wb BK475 hb
            replace BK478 := wb BK478 hb
            replace BK483 := wb BK483 hb
            replace BK493 := wb BK493 hb
            replace BK494 := wb BK494 hb
            replace BK497 := wb BK497 hb
            replace BK501 := wb BK501 hb
            replace HB := wh hb
            (try clear hb)
            (try clear hb2)
            (try clear hk)
            (try clear hi)
            refine hK.out _ _ ⟨bc BK493 0, bc BK493 1, bc BK494 0, bc BK494 1, bc BK497 0, bc BK497 1⟩ (fun hHeld => ?_)
            clear hK K
            refine nm 107 ?_
            refine pu 13 108 (tf 14 6) ?_
            refine pu 15 110 #[T_,T_,T_,T_,T_,T_,T_,T_,T_,T_,T_,T_,T_,T_,F_,T_,F_,F_,F_,F_] ?_
            refine tk 14 109 (tf 16 4) hHeld ?_
            refine on 16 111 (tf 17 3) (fun K hK => ?_)
            refine gs Tryz.func18 #[.agg #[.int .i64 t491, .int .i64 t492], .int .i64 x15_2] ?_
            with_reducible refine (spec_InRange.calls t491 t492 x15_2 t506 _ A146.out).mono ?_
            rintro e w153 ⟨rfl, hb⟩
            refine ⟨_, rfl, ?_⟩
            replace HO_470000 := mk (Kd.NF_below (by (with_reducible repeat (first | apply Kd.NF_alloc | apply Kd.NF_drewN | apply Kd.NF_drew)); exact HO_470000.out) hb)
            replace HO_476000 := mk (Kd.NF_below (by (with_reducible repeat (first | apply Kd.NF_alloc | apply Kd.NF_drewN | apply Kd.NF_drew)); exact HO_476000.out) hb)
            replace BK469 := wb BK469 hb
            replace BK475 := wb BK475 hb
            replace BK478 := wb BK478 hb
            replace BK483 := wb BK483 hb
            replace BK493 := wb BK493 hb
            replace BK494 := wb BK494 hb
            replace BK497 := wb BK497 hb
            replace BK501 := wb BK501 hb
            replace HB := wh hb
            (try clear hb)
            (try clear hb2)
            (try clear hk)
            (try clear hi)
            refine hK.out _ _ ⟨bc BK493 0, bc BK493 1, bc BK494 0, bc BK494 1, bc BK497 0, bc BK497 1⟩ (fun hHeld => ?_)
            clear hK K
            refine nm 111 ?_
            refine pu 17 112 (tf 18 2) ?_
            refine pu 18 113 (tf 19 1) ?_
            refine pu 19 114 (tf 20 0) ?_
            refine done_ (done_of HT_.out (by kernel_rfl)) ?_
            try go_wp2
            go_roundg k2
            case measure => have := HJ9.out; have := HK2.out; omega
            case rel => exact ⟨(wrap64 (x15_2 + 1)), (by first | rfl | (simp; done) | (simp [*]; done)), H', ⟨by have := HJ9.out; have := HK2.out; omega⟩, ⟨by (with_reducible repeat (first | apply Kd.NF_alloc | apply Kd.NF_drewN | apply Kd.NF_drew)); exact HO_470000.out⟩, ⟨by (with_reducible repeat (first | apply Kd.NF_alloc | apply Kd.NF_drewN | apply Kd.NF_drew)); exact HO_476000.out⟩, ⟨ub BK469.out⟩, ⟨ub BK475.out⟩, ⟨ub BK478.out⟩, ⟨ub BK483.out⟩, ⟨ub BK493.out⟩, ⟨ub BK494.out⟩, ⟨ub BK497.out⟩, ⟨ub BK501.out⟩, ⟨bl⟩⟩
          ·replace c145 := Bool.eq_false_iff.mpr c145
           subst c145
           rw [if_neg nf] at H
           by_cases c154 : (t504 != false) = true
           ·rw [if_pos c154] at H
            exact absurd H (by simp)
           ·rw [if_neg c154] at H
            have c154b0 : (t504 != false) = false := by simpa using c154
            (try (have c154b1 : decide (t504 = false) = true := by simpa using c154))
            (try (have c154b2 : (t504 == false) = true := by simpa using c154))
            clear c154
            have H' := Aside0.mk H
            clear H
            try go_wp2
            replace HO_470000 := mk (Kd.NF_drew HO_470000.out)
            replace HO_476000 := mk (Kd.NF_drew HO_476000.out)
            replace BK469 := wd BK469
            replace BK475 := wd BK475
            replace BK478 := wd BK478
            replace BK483 := wd BK483
            replace BK493 := wd BK493
            replace BK494 := wd BK494
            replace BK497 := wd BK497
            replace BK501 := wd BK501
            replace HB := mk (below_drew1 HB.out)
            refine start_ (n := 20) (S := fun w' => w'.cell? ⟨gb493, 0, none⟩ = some (.int .i64 t489) ∧ w'.cell? ⟨gb493, 1, none⟩ = some (.int .i64 t490) ∧ w'.cell? ⟨gb494, 0, none⟩ = some (.int .i64 t491) ∧ w'.cell? ⟨gb494, 1, none⟩ = some (.int .i64 t492) ∧ w'.cell? ⟨gb497, 0, none⟩ = some (.int .i64 t495) ∧ w'.cell? ⟨gb497, 1, none⟩ = some (.int .i64 t496)) (ds := []) #[F_, F_, F_, F_, F_, F_, F_, F_, F_, F_, F_, F_, F_, F_, F_, F_, F_, F_, F_, F_] (by kernel_rfl) rfl rfl ⟨bc BK493 0, bc BK493 1, bc BK494 0, bc BK494 1, bc BK497 0, bc BK497 1⟩ (fun hHeld => ?_); refine with_tabW laws_FnTexts.tab16 laws_FnTexts.bits16 (fun HT_ HW_ => ?_)
            generalize wr.drew = w155 at HO_470000 HO_476000 BK469 BK475 BK478 BK483 BK493 BK494 BK497 BK501 HB hHeld ⊢
            refine tk 0 95 (tf 1 19) hHeld ?_
            refine on 1 96 (tf 2 18) (fun K hK => ?_)
            refine gs Tryz.func13 #[.agg #[.int .i64 t489, .int .i64 t490]] ?_
            with_reducible refine (spec_IsRange.calls t489 t490 true _ A139.out).mono ?_
            rintro e w156 ⟨rfl, hb⟩
            refine ⟨_, rfl, ?_⟩
            replace HO_470000 := mk (Kd.NF_below (by (with_reducible repeat (first | apply Kd.NF_alloc | apply Kd.NF_drewN | apply Kd.NF_drew)); exact HO_470000.out) hb)
            replace HO_476000 := mk (Kd.NF_below (by (with_reducible repeat (first | apply Kd.NF_alloc | apply Kd.NF_drewN | apply Kd.NF_drew)); exact HO_476000.out) hb)
            replace BK469 := wb BK469 hb
            replace BK475 := wb BK475 hb
            replace BK478 := wb BK478 hb
            replace BK483 := wb BK483 hb
            replace BK493 := wb BK493 hb
            replace BK494 := wb BK494 hb
            replace BK497 := wb BK497 hb
            replace BK501 := wb BK501 hb
            replace HB := wh hb
            (try clear hb)
            (try clear hb2)
            (try clear hk)
            (try clear hi)
            refine hK.out _ _ ⟨bc BK493 0, bc BK493 1, bc BK494 0, bc BK494 1, bc BK497 0, bc BK497 1⟩ (fun hHeld => ?_)
            clear hK K
            refine nm 96 ?_
            refine pu 2 97 (tf 3 17) ?_
            refine tk 3 98 (tf 4 16) hHeld ?_
            refine on 4 99 (tf 5 15) (fun K hK => ?_)
            refine gs Tryz.func13 #[.agg #[.int .i64 t491, .int .i64 t492]] ?_
            with_reducible refine (spec_IsRange.calls t491 t492 true _ A141.out).mono ?_
            rintro e w157 ⟨rfl, hb⟩
            refine ⟨_, rfl, ?_⟩
            replace HO_470000 := mk (Kd.NF_below (by (with_reducible repeat (first | apply Kd.NF_alloc | apply Kd.NF_drewN | apply Kd.NF_drew)); exact HO_470000.out) hb)
            replace HO_476000 := mk (Kd.NF_below (by (with_reducible repeat (first | apply Kd.NF_alloc | apply Kd.NF_drewN | apply Kd.NF_drew)); exact HO_476000.out) hb)
            replace BK469 := wb BK469 hb
            replace BK475 := wb BK475 hb
            replace BK478 := wb BK478 hb
            replace BK483 := wb BK483 hb
            replace BK493 := wb BK493 hb
            replace BK494 := wb BK494 hb
            replace BK497 := wb BK497 hb
            replace BK501 := wb BK501 hb
            replace HB := wh hb
            (try clear hb)
            (try clear hb2)
            (try clear hk)
            (try clear hi)
            refine hK.out _ _ ⟨bc BK493 0, bc BK493 1, bc BK494 0, bc BK494 1, bc BK497 0, bc BK497 1⟩ (fun hHeld => ?_)
            clear hK K
            refine nm 99 ?_
            refine pu 5 100 (tf 6 14) ?_
            refine pu 6 101 (tf 7 13) ?_
            refine pu 8 103 #[T_,T_,T_,T_,T_,T_,T_,F_,T_,F_,F_,F_,F_,F_,F_,F_,F_,F_,F_,F_] ?_
            refine pu 11 106 #[T_,T_,T_,T_,T_,T_,T_,F_,T_,F_,F_,T_,F_,F_,F_,F_,F_,F_,F_,F_] ?_
            refine tk 7 102 #[T_,T_,T_,T_,T_,T_,T_,T_,T_,F_,F_,T_,F_,F_,F_,F_,F_,F_,F_,F_] hHeld ?_
            refine tk 10 105 #[T_,T_,T_,T_,T_,T_,T_,T_,T_,F_,T_,T_,F_,F_,F_,F_,F_,F_,F_,F_] hHeld ?_
            refine on 9 104 (tf 12 8) (fun K hK => ?_)
            refine gs Tryz.func17 #[.agg #[.int .i64 t495, .int .i64 t496], .int .i64 x15_2] ?_
            with_reducible refine (impl_InRange.calls t495 t496 x15_2 t504 _ A143.out).mono ?_
            rintro e w158 ⟨rfl, hb⟩
            refine ⟨_, rfl, ?_⟩
            replace HO_470000 := mk (Kd.NF_below (by (with_reducible repeat (first | apply Kd.NF_alloc | apply Kd.NF_drewN | apply Kd.NF_drew)); exact HO_470000.out) hb)
            replace HO_476000 := mk (Kd.NF_below (by (with_reducible repeat (first | apply Kd.NF_alloc | apply Kd.NF_drewN | apply Kd.NF_drew)); exact HO_476000.out) hb)
            replace BK469 := wb BK469 hb
            replace BK475 := wb BK475 hb
            replace BK478 := wb BK478 hb
            replace BK483 := wb BK483 hb
            replace BK493 := wb BK493 hb
            replace BK494 := wb BK494 hb
            replace BK497 := wb BK497 hb
            replace BK501 := wb BK501 hb
            replace HB := wh hb
            (try clear hb)
            (try clear hb2)
            (try clear hk)
            (try clear hi)
            refine hK.out _ _ ⟨bc BK493 0, bc BK493 1, bc BK494 0, bc BK494 1, bc BK497 0, bc BK497 1⟩ (fun hHeld => ?_)
            clear hK K
            refine nm 104 ?_
            refine on 12 107 (tf 13 7) (fun K hK => ?_)
            refine gs Tryz.func18 #[.agg #[.int .i64 t489, .int .i64 t490], .int .i64 x15_2] ?_
            with_reducible refine (spec_InRange.calls t489 t490 x15_2 false _ A144.out).mono ?_
            rintro e w159 ⟨rfl, hb⟩
            refine ⟨_, rfl, ?_⟩
            replace HO_470000 := mk (Kd.NF_below (by (with_reducible repeat (first | apply Kd.NF_alloc | apply Kd.NF_drewN | apply Kd.NF_drew)); exact HO_470000.out) hb)
            replace HO_476000 := mk (Kd.NF_below (by (with_reducible repeat (first | apply Kd.NF_alloc | apply Kd.NF_drewN | apply Kd.NF_drew)); exact HO_476000.out) hb)
            replace BK469 := wb BK469 hb
            replace BK475 := wb BK475 hb
            replace BK478 := wb BK478 hb
            replace BK483 := wb BK483 hb
            replace BK493 := wb BK493 hb
            replace BK494 := wb BK494 hb
            replace BK497 := wb BK497 hb
            replace BK501 := wb BK501 hb
            replace HB := wh hb
            (try clear hb)
            (try clear hb2)
            (try clear hk)
            (try clear hi)
            refine hK.out _ _ ⟨bc BK493 0, bc BK493 1, bc BK494 0, bc BK494 1, bc BK497 0, bc BK497 1⟩ (fun hHeld => ?_)
            clear hK K
            refine nm 107 ?_
            refine pu 13 108 (tf 14 6) ?_
            refine pn 14 109 (tf 15 5) ?_
            refine pn 15 110 (tf 16 4) ?_
            refine pn 16 111 (tf 17 3) ?_
            refine pu 17 112 (tf 18 2) ?_
            refine pu 18 113 (tf 19 1) ?_
            refine pu 19 114 (tf 20 0) ?_
            refine done_ (done_of HT_.out (by kernel_rfl)) ?_
            try go_wp2
            go_roundg k2
            case measure => have := HJ9.out; have := HK2.out; omega
            case rel => exact ⟨(wrap64 (x15_2 + 1)), (by first | rfl | (simp; done) | (simp [*]; done)), H', ⟨by have := HJ9.out; have := HK2.out; omega⟩, ⟨by (with_reducible repeat (first | apply Kd.NF_alloc | apply Kd.NF_drewN | apply Kd.NF_drew)); exact HO_470000.out⟩, ⟨by (with_reducible repeat (first | apply Kd.NF_alloc | apply Kd.NF_drewN | apply Kd.NF_drew)); exact HO_476000.out⟩, ⟨ub BK469.out⟩, ⟨ub BK475.out⟩, ⟨ub BK478.out⟩, ⟨ub BK483.out⟩, ⟨ub BK493.out⟩, ⟨ub BK494.out⟩, ⟨ub BK497.out⟩, ⟨ub BK501.out⟩, ⟨bl⟩⟩
         ·replace c142 := Bool.eq_false_iff.mpr c142
          subst c142
          rw [if_neg nf] at H
          have H' := Aside0.mk H
          clear H
          try go_wp2
          replace HO_470000 := mk (Kd.NF_drew HO_470000.out)
          replace HO_476000 := mk (Kd.NF_drew HO_476000.out)
          replace BK469 := wd BK469
          replace BK475 := wd BK475
          replace BK478 := wd BK478
          replace BK483 := wd BK483
          replace BK493 := wd BK493
          replace BK494 := wd BK494
          replace BK497 := wd BK497
          replace BK501 := wd BK501
          replace HB := mk (below_drew1 HB.out)
          refine start_ (n := 20) (S := fun w' => w'.cell? ⟨gb493, 0, none⟩ = some (.int .i64 t489) ∧ w'.cell? ⟨gb493, 1, none⟩ = some (.int .i64 t490) ∧ w'.cell? ⟨gb494, 0, none⟩ = some (.int .i64 t491) ∧ w'.cell? ⟨gb494, 1, none⟩ = some (.int .i64 t492)) (ds := []) #[F_, F_, F_, F_, F_, F_, F_, F_, F_, F_, F_, F_, F_, F_, F_, F_, F_, F_, F_, F_] (by kernel_rfl) rfl rfl ⟨bc BK493 0, bc BK493 1, bc BK494 0, bc BK494 1⟩ (fun hHeld => ?_); refine with_tabW laws_FnTexts.tab16 laws_FnTexts.bits16 (fun HT_ HW_ => ?_)
          generalize wr.drew = w160 at HO_470000 HO_476000 BK469 BK475 BK478 BK483 BK493 BK494 BK497 BK501 HB hHeld ⊢
          refine tk 0 95 (tf 1 19) hHeld ?_
          refine on 1 96 (tf 2 18) (fun K hK => ?_)
          refine gs Tryz.func13 #[.agg #[.int .i64 t489, .int .i64 t490]] ?_
          with_reducible refine (spec_IsRange.calls t489 t490 true _ A139.out).mono ?_
          rintro e w161 ⟨rfl, hb⟩
          refine ⟨_, rfl, ?_⟩
          replace HO_470000 := mk (Kd.NF_below (by (with_reducible repeat (first | apply Kd.NF_alloc | apply Kd.NF_drewN | apply Kd.NF_drew)); exact HO_470000.out) hb)
          replace HO_476000 := mk (Kd.NF_below (by (with_reducible repeat (first | apply Kd.NF_alloc | apply Kd.NF_drewN | apply Kd.NF_drew)); exact HO_476000.out) hb)
          replace BK469 := wb BK469 hb
          replace BK475 := wb BK475 hb
          replace BK478 := wb BK478 hb
          replace BK483 := wb BK483 hb
          replace BK493 := wb BK493 hb
          replace BK494 := wb BK494 hb
          replace BK497 := wb BK497 hb
          replace BK501 := wb BK501 hb
          replace HB := wh hb
          (try clear hb)
          (try clear hb2)
          (try clear hk)
          (try clear hi)
          refine hK.out _ _ ⟨bc BK493 0, bc BK493 1, bc BK494 0, bc BK494 1⟩ (fun hHeld => ?_)
          clear hK K
          refine nm 96 ?_
          refine pu 2 97 (tf 3 17) ?_
          refine tk 3 98 (tf 4 16) hHeld ?_
          refine on 4 99 (tf 5 15) (fun K hK => ?_)
          refine gs Tryz.func13 #[.agg #[.int .i64 t491, .int .i64 t492]] ?_
          with_reducible refine (spec_IsRange.calls t491 t492 false _ A141.out).mono ?_
          rintro e w162 ⟨rfl, hb⟩
          refine ⟨_, rfl, ?_⟩
          replace HO_470000 := mk (Kd.NF_below (by (with_reducible repeat (first | apply Kd.NF_alloc | apply Kd.NF_drewN | apply Kd.NF_drew)); exact HO_470000.out) hb)
          replace HO_476000 := mk (Kd.NF_below (by (with_reducible repeat (first | apply Kd.NF_alloc | apply Kd.NF_drewN | apply Kd.NF_drew)); exact HO_476000.out) hb)
          replace BK469 := wb BK469 hb
          replace BK475 := wb BK475 hb
          replace BK478 := wb BK478 hb
          replace BK483 := wb BK483 hb
          replace BK493 := wb BK493 hb
          replace BK494 := wb BK494 hb
          replace BK497 := wb BK497 hb
          replace BK501 := wb BK501 hb
          replace HB := wh hb
          (try clear hb)
          (try clear hb2)
          (try clear hk)
          (try clear hi)
          refine hK.out _ _ ⟨bc BK493 0, bc BK493 1, bc BK494 0, bc BK494 1⟩ (fun hHeld => ?_)
          clear hK K
          refine nm 99 ?_
          refine pu 5 100 (tf 6 14) ?_
          refine pu 6 101 (tf 7 13) ?_
          refine pn 7 102 (tf 8 12) ?_
          refine pn 8 103 (tf 9 11) ?_
          refine pn 9 104 (tf 10 10) ?_
          refine pn 10 105 (tf 11 9) ?_
          refine pn 11 106 (tf 12 8) ?_
          refine pn 12 107 (tf 13 7) ?_
          refine pn 13 108 (tf 14 6) ?_
          refine pn 14 109 (tf 15 5) ?_
          refine pn 15 110 (tf 16 4) ?_
          refine pn 16 111 (tf 17 3) ?_
          refine pn 17 112 (tf 18 2) ?_
          refine pn 18 113 (tf 19 1) ?_
          refine pu 19 114 (tf 20 0) ?_
          refine done_ (done_of HT_.out (by kernel_rfl)) ?_
          try go_wp2
          go_roundg k2
          case measure => have := HJ9.out; have := HK2.out; omega
          case rel => exact ⟨(wrap64 (x15_2 + 1)), (by first | rfl | (simp; done) | (simp [*]; done)), H', ⟨by have := HJ9.out; have := HK2.out; omega⟩, ⟨by (with_reducible repeat (first | apply Kd.NF_alloc | apply Kd.NF_drewN | apply Kd.NF_drew)); exact HO_470000.out⟩, ⟨by (with_reducible repeat (first | apply Kd.NF_alloc | apply Kd.NF_drewN | apply Kd.NF_drew)); exact HO_476000.out⟩, ⟨ub BK469.out⟩, ⟨ub BK475.out⟩, ⟨ub BK478.out⟩, ⟨ub BK483.out⟩, ⟨ub BK493.out⟩, ⟨ub BK494.out⟩, ⟨ub BK497.out⟩, ⟨ub BK501.out⟩, ⟨bl⟩⟩
        ·replace c140 := Bool.eq_false_iff.mpr c140
         subst c140
         rw [if_neg nf] at H
         have H' := Aside0.mk H
         clear H
         try go_wp2
         replace HO_470000 := mk (Kd.NF_drew HO_470000.out)
         replace HO_476000 := mk (Kd.NF_drew HO_476000.out)
         replace BK469 := wd BK469
         replace BK475 := wd BK475
         replace BK478 := wd BK478
         replace BK483 := wd BK483
         replace BK493 := wd BK493
         replace BK494 := wd BK494
         replace BK497 := wd BK497
         replace BK501 := wd BK501
         replace HB := mk (below_drew1 HB.out)
         refine start_ (n := 20) (S := fun w' => w'.cell? ⟨gb493, 0, none⟩ = some (.int .i64 t489) ∧ w'.cell? ⟨gb493, 1, none⟩ = some (.int .i64 t490)) (ds := []) #[F_, F_, F_, F_, F_, F_, F_, F_, F_, F_, F_, F_, F_, F_, F_, F_, F_, F_, F_, F_] (by kernel_rfl) rfl rfl ⟨bc BK493 0, bc BK493 1⟩ (fun hHeld => ?_); refine with_tabW laws_FnTexts.tab16 laws_FnTexts.bits16 (fun HT_ HW_ => ?_)
         generalize wr.drew = w163 at HO_470000 HO_476000 BK469 BK475 BK478 BK483 BK493 BK494 BK497 BK501 HB hHeld ⊢
         refine tk 0 95 (tf 1 19) hHeld ?_
         refine on 1 96 (tf 2 18) (fun K hK => ?_)
         refine gs Tryz.func13 #[.agg #[.int .i64 t489, .int .i64 t490]] ?_
         with_reducible refine (spec_IsRange.calls t489 t490 false _ A139.out).mono ?_
         rintro e w164 ⟨rfl, hb⟩
         refine ⟨_, rfl, ?_⟩
         replace HO_470000 := mk (Kd.NF_below (by (with_reducible repeat (first | apply Kd.NF_alloc | apply Kd.NF_drewN | apply Kd.NF_drew)); exact HO_470000.out) hb)
         replace HO_476000 := mk (Kd.NF_below (by (with_reducible repeat (first | apply Kd.NF_alloc | apply Kd.NF_drewN | apply Kd.NF_drew)); exact HO_476000.out) hb)
         replace BK469 := wb BK469 hb
         replace BK475 := wb BK475 hb
         replace BK478 := wb BK478 hb
         replace BK483 := wb BK483 hb
         replace BK493 := wb BK493 hb
         replace BK494 := wb BK494 hb
         replace BK497 := wb BK497 hb
         replace BK501 := wb BK501 hb
         replace HB := wh hb
         (try clear hb)
         (try clear hb2)
         (try clear hk)
         (try clear hi)
         refine hK.out _ _ ⟨bc BK493 0, bc BK493 1⟩ (fun hHeld => ?_)
         clear hK K
         refine nm 96 ?_
         refine pu 2 97 (tf 3 17) ?_
         refine pn 3 98 (tf 4 16) ?_
         refine pn 4 99 (tf 5 15) ?_
         refine pu 5 100 (tf 6 14) ?_
         refine pu 6 101 (tf 7 13) ?_
         refine pn 7 102 (tf 8 12) ?_
         refine pn 8 103 (tf 9 11) ?_
         refine pn 9 104 (tf 10 10) ?_
         refine pn 10 105 (tf 11 9) ?_
         refine pn 11 106 (tf 12 8) ?_
         refine pn 12 107 (tf 13 7) ?_
         refine pn 13 108 (tf 14 6) ?_
         refine pn 14 109 (tf 15 5) ?_
         refine pn 15 110 (tf 16 4) ?_
         refine pn 16 111 (tf 17 3) ?_
         refine pn 17 112 (tf 18 2) ?_
         refine pn 18 113 (tf 19 1) ?_
         refine pu 19 114 (tf 20 0) ?_
         refine done_ (done_of HT_.out (by kernel_rfl)) ?_
         try go_wp2
         go_roundg k2
         case measure => have := HJ9.out; have := HK2.out; omega
         case rel => exact ⟨(wrap64 (x15_2 + 1)), (by first | rfl | (simp; done) | (simp [*]; done)), H', ⟨by have := HJ9.out; have := HK2.out; omega⟩, ⟨by (with_reducible repeat (first | apply Kd.NF_alloc | apply Kd.NF_drewN | apply Kd.NF_drew)); exact HO_470000.out⟩, ⟨by (with_reducible repeat (first | apply Kd.NF_alloc | apply Kd.NF_drewN | apply Kd.NF_drew)); exact HO_476000.out⟩, ⟨ub BK469.out⟩, ⟨ub BK475.out⟩, ⟨ub BK478.out⟩, ⟨ub BK483.out⟩, ⟨ub BK493.out⟩, ⟨ub BK494.out⟩, ⟨ub BK497.out⟩, ⟨ub BK501.out⟩, ⟨bl⟩⟩
       ·rw [if_neg c138] at H
        have c138b0 : decide (x15_2 ≤ (wrap64 (t500 + 3))) = false := decide_eq_false c138
        clear c138
        revert H; refine bo ?_; rintro ⟨t507, t510⟩ A165 H
        dsimp only at H
        revert H; refine bo ?_; rintro ⟨t512, t515⟩ A166 H
        dsimp only at H
        revert H; refine bo ?_; rintro ⟨t516, t519⟩ A167 H
        dsimp only at H
        revert H; refine bo ?_; rintro ⟨t520, t521⟩ A168 H
        dsimp only at H
        by_cases c169 : (t495 == t520 && (t496 == t521)) = true
        ·rw [if_pos c169] at H
         have c169b0 : (t495 == t520 && (t496 == t521)) = true := c169
         (try (have c169b1 : decide (t495 = t520 && (t496 == t521)) = true := by simpa using c169))
         (try (have c169b2 : (t495 == t520 && (t496 == t521)) = true := by simpa using c169))
         clear c169
         revert H; refine bo ?_; rintro t522 A170 H
         revert H; refine bo ?_; rintro t523 A171 H
         by_cases c172 : (t522 == t523) = true
         ·rw [if_pos c172] at H
          have c172b0 : (t522 == t523) = true := c172
          (try (have c172b1 : decide (t522 = t523) = true := by simpa using c172))
          (try (have c172b2 : (t522 == t523) = true := by simpa using c172))
          clear c172
          by_cases c173 : (t515 == t519) = true
          ·rw [if_pos c173] at H
           have c173b0 : (t515 == t519) = true := c173
           (try (have c173b1 : decide (t515 = t519) = true := by simpa using c173))
           (try (have c173b2 : (t515 == t519) = true := by simpa using c173))
           clear c173
           revert H; refine bo ?_; rintro t524 A174 H
           by_cases c175 : t524 = true
           ·subst c175
            rw [if_pos rfl] at H
            revert H; refine bo ?_; rintro t525 A176 H
            revert H; refine bo ?_; rintro t526 A177 H
            by_cases c178 : t525 = t526
            ·rw [if_pos c178] at H
             have c178b0 : (t525 == t526) = true := beq_iff_eq.mpr c178
             have c178b1 : (t525 != t526) = false := bne_eq_false_iff_eq.mpr c178
             clear c178
             revert H; refine bo ?_; rintro t527 A179 H
             revert H; refine bo ?_; rintro t528 A180 H
             obtain rfl := Option.some.inj H
             clear HO_470000
             clear HO_476000
             try go_wp2_with (first | ((with_reducible refine gate_callee (f := 19) rfl ?_); refine gl (some 117) rfl Tryz.func19 #[.slice A0 l0.length c0] ?_; (with_reducible refine (spec_DrawColumnOf.calls k2 _ _ l0 t507 t510 _ ?side1 ?side2 A165.out).mono ?_); (case side1 => exact uc (Kd.C_below HR0.out HB.out)); (case side2 => exact HC0.out); rintro e w181 ⟨v508, rfl, ho0, hb⟩; refine ⟨_, rfl, ?_⟩; have HO509 := mk (Kd.NF_lower ho0 (below_size bl)); replace BK469 := wb BK469 hb; replace BK475 := wb BK475 hb; replace BK478 := wb BK478 hb; replace BK483 := wb BK483 hb; replace BK493 := wb BK493 hb; replace BK494 := wb BK494 hb; replace BK497 := wb BK497 hb; replace BK501 := wb BK501 hb; replace HB := wh hb; (try clear hb); (try clear hb2); (try clear hk); (try clear hi); (try clear ho0)) | ((with_reducible refine gate_dst (N := 16) rfl ?_); refine bx 16 #[.slice none 0 0] 26 ?_; intro gb511 hg w182 hbox hb; replace HO509 := mk (Kd.NF_below (by (with_reducible repeat (first | apply Kd.NF_alloc | apply Kd.NF_drewN | apply Kd.NF_drew)); exact HO509.out) hb); have BK511 := mk hbox; have GW511 := wg hg; have GE511 := wg hg; replace HB := wh hb; have NB469_511 := nl BK469 hg; have NB511_469 := nr BK469 hg; replace BK469 := wb BK469 hb; have NB475_511 := nl BK475 hg; have NB511_475 := nr BK475 hg; replace BK475 := wb BK475 hb; have NB478_511 := nl BK478 hg; have NB511_478 := nr BK478 hg; replace BK478 := wb BK478 hb; have NB483_511 := nl BK483 hg; have NB511_483 := nr BK483 hg; replace BK483 := wb BK483 hb; have NB493_511 := nl BK493 hg; have NB511_493 := nr BK493 hg; replace BK493 := wb BK493 hb; have NB494_511 := nl BK494 hg; have NB511_494 := nr BK494 hg; replace BK494 := wb BK494 hb; have NB497_511 := nl BK497 hg; have NB511_497 := nr BK497 hg; replace BK497 := wb BK497 hb; have NB501_511 := nl BK501 hg; have NB511_501 := nr BK501 hg; replace BK501 := wb BK501 hb; clear hb hbox hg; obtain ⟨Ao183, co183, eo183⟩ := Kd.NF_slice HO509.out; subst eo183; have hnb184 := NB511_469.out; have hnc184 := NB469_511.out; have hnb185 := NB511_475.out; have hnc185 := NB475_511.out; have hnb186 := NB511_478.out; have hnc186 := NB478_511.out; have hnb187 := NB511_483.out; have hnc187 := NB483_511.out; have hnb188 := NB511_493.out; have hnc188 := NB493_511.out; have hnb189 := NB511_494.out; have hnc189 := NB494_511.out; have hnb190 := NB511_497.out; have hnc190 := NB497_511.out; have hnb191 := NB511_501.out; have hnc191 := NB501_511.out; obtain ⟨hcz192_0, hfz192_0⟩ := bz1 BK511) | ((with_reducible refine gate_callee (f := 20) rfl ?_); refine gl (some 123) rfl Tryz.func20 #[.agg #[.slice Ao183 t507.length co183], .string t510] ?_; (with_reducible refine (impl_ColumnOf.calls k2 _ _ t507 t510 t512 t515 _ ?side1 ?side2 A166.out).mono ?_); (case side1 => refine (Kd.NF_reads' (e := 58) (base := w.heap.size) (ok := fun k_ => True) (n := t507.length) (c := co183) ?_).2.2; exact (by (with_reducible repeat (first | apply Kd.NF_alloc | apply Kd.NF_drewN | apply Kd.NF_drew)); exact (Kd.NF_mono (Kd.NF_far (p := ⟨gb511, 0, none⟩) (Kd.NF_types HO509.out BK511.out (by decide)) (fun _ hk => hk.2) (.slice Ao183 t507.length co183)) (fun _ h_ => h_.1)))); (case side2 => exact (Kd.NF_reads' HO509.out).2.1); rintro e w193 ⟨v513, rfl, ho0, hb⟩; refine ⟨_, rfl, ?_⟩; replace HO509 := mk (Kd.NF_elder' (by (with_reducible repeat (first | apply Kd.NF_alloc | apply Kd.NF_drewN | apply Kd.NF_drew)); exact (Kd.NF_mono (Kd.NF_far (p := ⟨gb511, 0, none⟩) (Kd.NF_types HO509.out BK511.out (by decide)) (fun _ hk => hk.2) (.slice Ao183 t507.length co183)) (fun _ h_ => h_.1))) (Kd.R_base ho0) hb); have HO514 := mk (Kd.R_lower ho0 (below_size bl)); replace BK469 := wx BK469 hb; replace BK475 := wx BK475 hb; replace BK478 := wx BK478 hb; replace BK483 := wx BK483 hb; replace BK493 := wx BK493 hb; replace BK494 := wx BK494 hb; replace BK497 := wx BK497 hb; replace BK501 := wx BK501 hb; replace BK511 := mk (blk_below (g := gb511) (o := .cells #[.slice Ao183 t507.length co183] 26 (0, 0)) bq hb); replace HB := wh hb; (try clear hb); (try clear hb2); (try clear hk); (try clear hi); (try clear ho0); obtain ⟨hcz194_0, hfz194_0⟩ := bz1 BK511) | ((with_reducible refine gate_callee (f := 21) rfl ?_); refine gl (some 129) rfl Tryz.func21 #[.agg #[.slice Ao183 t507.length co183], .string t510] ?_; (with_reducible refine (spec_ColumnOf.calls k2 _ _ t507 t510 t516 t519 _ ?side1 ?side2 A167.out).mono ?_); (case side1 => exact uc (Kd.NF_reads' HO509.out).2.2); (case side2 => exact (Kd.NF_reads' HO509.out).2.1); rintro e w195 ⟨v517, rfl, ho0, hb⟩; refine ⟨_, rfl, ?_⟩; replace HO509 := mk (Kd.NF_elder' (by (with_reducible repeat (first | apply Kd.NF_alloc | apply Kd.NF_drewN | apply Kd.NF_drew)); exact HO509.out) (Kd.R_base ho0) hb); have HO518 := mk (Kd.R_lower (Kd.R_new' ho0 (Kd.R_lt (up HO514.out))) (below_size bl)); replace HO514 := mk (Kd.R_elder' (up HO514.out) (Kd.R_base ho0) hb); replace BK469 := wb BK469 hb; replace BK475 := wb BK475 hb; replace BK478 := wb BK478 hb; replace BK483 := wb BK483 hb; replace BK493 := wb BK493 hb; replace BK494 := wb BK494 hb; replace BK497 := wb BK497 hb; replace BK501 := wb BK501 hb; replace BK511 := wb BK511 hb; replace HB := wh hb; (try clear hb); (try clear hb2); (try clear hk); (try clear hi); (try clear ho0)))
             replace HO509 := mk (Kd.NF_drew HO509.out)
             replace HO514 := mk (Kd.R_drew HO514.out)
             replace HO518 := mk (Kd.R_drew HO518.out)
             replace BK469 := wd BK469
             replace BK475 := wd BK475
             replace BK478 := wd BK478
             replace BK483 := wd BK483
             replace BK493 := wd BK493
             replace BK494 := wd BK494
             replace BK497 := wd BK497
             replace BK501 := wd BK501
             replace BK511 := wd BK511
             replace HB := mk (below_drew1 HB.out)
             refine start_ (n := 41) (S := fun w' => w'.cell? ⟨gb497, 0, none⟩ = some (.int .i64 t495) ∧ w'.cell? ⟨gb497, 1, none⟩ = some (.int .i64 t496) ∧ w'.cell? ⟨gb493, 0, none⟩ = some (.int .i64 t489) ∧ w'.cell? ⟨gb493, 1, none⟩ = some (.int .i64 t490) ∧ w'.cell? ⟨gb494, 0, none⟩ = some (.int .i64 t491) ∧ w'.cell? ⟨gb494, 1, none⟩ = some (.int .i64 t492) ∧ w'.cell? ⟨gb501, 0, none⟩ = some (.int .i64 t498) ∧ w'.cell? ⟨gb501, 1, none⟩ = some (.int .i64 t499) ∧ w'.cell? ⟨gb511, 0, none⟩ = some (.slice Ao183 t507.length co183)) (ds := []) #[F_, F_, F_, F_, F_, F_, F_, F_, F_, F_, F_, F_, F_, F_, F_, F_, F_, F_, F_, F_, F_, F_, F_, F_, F_, F_, F_, F_, F_, F_, F_, F_, F_, F_, F_, F_, F_, F_, F_, F_, F_] (by kernel_rfl) rfl rfl ⟨bc BK497 0, bc BK497 1, bc BK493 0, bc BK493 1, bc BK494 0, bc BK494 1, bc BK501 0, bc BK501 1, bc BK511 0⟩ (fun hHeld => ?_); refine with_tabW laws_FnTexts.tab21 laws_FnTexts.bits21 (fun HT_ HW_ => ?_)
             generalize w195.drew = w196 at HO509 HO514 HO518 BK469 BK475 BK478 BK483 BK493 BK494 BK497 BK501 BK511 HB hHeld ⊢
             refine tk 0 132 (tf 1 40) hHeld ?_
             refine tk 1 133 (tf 2 39) hHeld ?_
             refine tk 2 134 (tf 3 38) hHeld ?_
             refine on 3 135 (tf 4 37) (fun K hK => ?_)
             refine gs Tryz.func22 #[.agg #[.int .i64 t489, .int .i64 t490], .agg #[.int .i64 t491, .int .i64 t492]] ?_
             with_reducible refine (spec_MeetRanges.calls t489 t490 t491 t492 t520 t521 _ A168.out).mono ?_
             rintro e w197 ⟨rfl, hb⟩
             refine ⟨_, rfl, ?_⟩
             replace HO509 := mk (Kd.NF_below (by (with_reducible repeat (first | apply Kd.NF_alloc | apply Kd.NF_drewN | apply Kd.NF_drew)); exact HO509.out) hb)
             replace HO514 := mk (Kd.R_below (up HO514.out) hb)
             replace HO518 := mk (Kd.R_below (up HO518.out) hb)
             replace BK469 := wb BK469 hb
             replace BK475 := wb BK475 hb
             replace BK478 := wb BK478 hb
             replace BK483 := wb BK483 hb
             replace BK493 := wb BK493 hb
             replace BK494 := wb BK494 hb
             replace BK497 := wb BK497 hb
             replace BK501 := wb BK501 hb
             replace BK511 := wb BK511 hb
             replace HB := wh hb
             (try clear hb)
             (try clear hb2)
             (try clear hk)
             (try clear hi)
             refine hK.out _ _ ⟨bc BK497 0, bc BK497 1, bc BK493 0, bc BK493 1, bc BK494 0, bc BK494 1, bc BK501 0, bc BK501 1, bc BK511 0⟩ (fun hHeld => ?_)
             clear hK K
             refine nm 135 ?_
             refine pu 4 136 (tf 5 36) ?_
             refine pu 5 137 (tf 6 35) ?_
             refine pu 7 139 #[T_,T_,T_,T_,T_,T_,F_,T_,F_,F_,F_,F_,F_,F_,F_,F_,F_,F_,F_,F_,F_,F_,F_,F_,F_,F_,F_,F_,F_,F_,F_,F_,F_,F_,F_,F_,F_,F_,F_,F_,F_] ?_
             refine pu 10 142 #[T_,T_,T_,T_,T_,T_,F_,T_,F_,F_,T_,F_,F_,F_,F_,F_,F_,F_,F_,F_,F_,F_,F_,F_,F_,F_,F_,F_,F_,F_,F_,F_,F_,F_,F_,F_,F_,F_,F_,F_,F_] ?_
             refine tk 6 138 #[T_,T_,T_,T_,T_,T_,T_,T_,F_,F_,T_,F_,F_,F_,F_,F_,F_,F_,F_,F_,F_,F_,F_,F_,F_,F_,F_,F_,F_,F_,F_,F_,F_,F_,F_,F_,F_,F_,F_,F_,F_] hHeld ?_
             refine tk 9 141 #[T_,T_,T_,T_,T_,T_,T_,T_,F_,T_,T_,F_,F_,F_,F_,F_,F_,F_,F_,F_,F_,F_,F_,F_,F_,F_,F_,F_,F_,F_,F_,F_,F_,F_,F_,F_,F_,F_,F_,F_,F_] hHeld ?_
             refine on 8 140 (tf 11 30) (fun K hK => ?_)
             refine gs Tryz.func17 #[.agg #[.int .i64 t498, .int .i64 t499], .int .i64 t500] ?_
             with_reducible refine (impl_InRange.calls t498 t499 t500 t522 _ A170.out).mono ?_
             rintro e w198 ⟨rfl, hb⟩
             refine ⟨_, rfl, ?_⟩
             replace HO509 := mk (Kd.NF_below (by (with_reducible repeat (first | apply Kd.NF_alloc | apply Kd.NF_drewN | apply Kd.NF_drew)); exact HO509.out) hb)
             replace HO514 := mk (Kd.R_below (up HO514.out) hb)
             replace HO518 := mk (Kd.R_below (up HO518.out) hb)
             replace BK469 := wb BK469 hb
             replace BK475 := wb BK475 hb
             replace BK478 := wb BK478 hb
             replace BK483 := wb BK483 hb
             replace BK493 := wb BK493 hb
             replace BK494 := wb BK494 hb
             replace BK497 := wb BK497 hb
             replace BK501 := wb BK501 hb
             replace BK511 := wb BK511 hb
             replace HB := wh hb
             (try clear hb)
             (try clear hb2)
             (try clear hk)
             (try clear hi)
             refine hK.out _ _ ⟨bc BK497 0, bc BK497 1, bc BK493 0, bc BK493 1, bc BK494 0, bc BK494 1, bc BK501 0, bc BK501 1, bc BK511 0⟩ (fun hHeld => ?_)
             clear hK K
             refine nm 140 ?_
             refine on 11 143 (tf 12 29) (fun K hK => ?_)
             refine gs Tryz.func18 #[.agg #[.int .i64 t498, .int .i64 t499], .int .i64 t500] ?_
             with_reducible refine (spec_InRange.calls t498 t499 t500 t523 _ A171.out).mono ?_
             rintro e w199 ⟨rfl, hb⟩
             refine ⟨_, rfl, ?_⟩
             replace HO509 := mk (Kd.NF_below (by (with_reducible repeat (first | apply Kd.NF_alloc | apply Kd.NF_drewN | apply Kd.NF_drew)); exact HO509.out) hb)
             replace HO514 := mk (Kd.R_below (up HO514.out) hb)
             replace HO518 := mk (Kd.R_below (up HO518.out) hb)
             replace BK469 := wb BK469 hb
             replace BK475 := wb BK475 hb
             replace BK478 := wb BK478 hb
             replace BK483 := wb BK483 hb
             replace BK493 := wb BK493 hb
             replace BK494 := wb BK494 hb
             replace BK497 := wb BK497 hb
             replace BK501 := wb BK501 hb
             replace BK511 := wb BK511 hb
             replace HB := wh hb
             (try clear hb)
             (try clear hb2)
             (try clear hk)
             (try clear hi)
             obtain ⟨Ao200, co200, eo200⟩ := Kd.R_slice HO514.out
             (first | subst eo200 | (injection eo200 with f1_ f2_ f3_; have f4_ := f1_.symm; have f5_ := f3_.symm; clear f1_ f2_ f3_; subst f4_; subst f5_))
             obtain ⟨Ao201, co201, eo201⟩ := Kd.R_slice HO518.out
             (first | subst eo201 | (injection eo201 with f1_ f2_ f3_; have f4_ := f1_.symm; have f5_ := f3_.symm; clear f1_ f2_ f3_; subst f4_; subst f5_))
             refine hK.out _ _ ⟨bc BK497 0, bc BK497 1, bc BK493 0, bc BK493 1, bc BK494 0, bc BK494 1, bc BK501 0, bc BK501 1, bc BK511 0⟩ (fun hHeld => ?_)
             clear hK K
             refine nm 143 ?_
             refine pu 12 144 (tf 13 28) ?_
             refine pu 13 145 (tf 14 27) ?_
             refine pu 14 146 (tf 15 26) ?_
             refine pu 15 147 (tf 16 25) ?_
             refine pu 16 148 (tf 17 24) ?_
             refine pu 17 149 (tf 18 23) ?_
             refine pu 18 150 (tf 19 22) ?_
             refine pu 19 151 (tf 20 21) ?_
             refine pu 20 152 (tf 21 20) ?_
             refine pu 21 153 (tf 22 19) ?_
             refine on 22 154 (tf 23 18) (fun K hK => ?_)
             refine gs Tryz.func23 #[.slice Ao200 t512.length co200, .slice Ao201 t516.length co201] ?_
             with_reducible refine (laws_sameInts.calls k2 _ _ t512 _ _ t516 true _ ?side1 ?side2 ?side3 ?side4 A174.out).mono ?_
             (case side1 => exact uc (Kd.R_reads' HO514.out).2.2)
             (case side2 => exact (Kd.R_reads' HO514.out).2.1)
             (case side3 => exact uc (Kd.R_reads' HO518.out).2.2)
             (case side4 => exact (Kd.R_reads' HO518.out).2.1)
             rintro e w' ⟨rfl, ⟨nd, rfl⟩⟩
             refine ⟨_, rfl, ?_⟩
             refine hK.out _ _ ⟨bc BK497 0, bc BK497 1, bc BK493 0, bc BK493 1, bc BK494 0, bc BK494 1, bc BK501 0, bc BK501 1, bc BK511 0⟩ (fun hHeld => ?_)
             clear hK K
             refine nm 154 ?_
             refine pu 23 155 (tf 24 17) ?_
             refine pu 24 156 (tf 25 16) ?_
             refine tk 25 157 (tf 26 15) hHeld ?_
             refine tk 27 159 #[T_,T_,T_,T_,T_,T_,T_,T_,T_,T_,T_,T_,T_,T_,T_,T_,T_,T_,T_,T_,T_,T_,T_,T_,T_,T_,F_,T_,F_,F_,F_,F_,F_,F_,F_,F_,F_,F_,F_,F_,F_] hHeld ?_
             refine on 26 158 (tf 28 13) (fun K hK => ?_)
             refine gs Tryz.func24 #[.agg #[.slice Ao183 t507.length co183]] ?_
             with_reducible refine (impl_RowCount.calls k2 _ _ t507 t525 _ ?side1 ?side2 A176.out).mono ?_
             (case side1 => exact uc (Kd.NF_reads' HO509.out).2.2)
             (case side2 => exact (Kd.NF_reads' HO509.out).2.1)
             rintro e w202 ⟨rfl, hb⟩
             refine ⟨_, rfl, ?_⟩
             replace HO509 := mk (Kd.NF_below (by (with_reducible repeat (first | apply Kd.NF_alloc | apply Kd.NF_drewN | apply Kd.NF_drew)); exact HO509.out) hb)
             replace HO514 := mk (Kd.R_below (up HO514.out) hb)
             replace HO518 := mk (Kd.R_below (up HO518.out) hb)
             replace BK469 := wb BK469 hb
             replace BK475 := wb BK475 hb
             replace BK478 := wb BK478 hb
             replace BK483 := wb BK483 hb
             replace BK493 := wb BK493 hb
             replace BK494 := wb BK494 hb
             replace BK497 := wb BK497 hb
             replace BK501 := wb BK501 hb
             replace BK511 := wb BK511 hb
             replace HB := wh hb
             (try clear hb)
             (try clear hb2)
             (try clear hk)
             (try clear hi)
             refine hK.out _ _ ⟨bc BK497 0, bc BK497 1, bc BK493 0, bc BK493 1, bc BK494 0, bc BK494 1, bc BK501 0, bc BK501 1, bc BK511 0⟩ (fun hHeld => ?_)
             clear hK K
             refine nm 158 ?_
             refine on 28 160 (tf 29 12) (fun K hK => ?_)
             refine gs Tryz.func25 #[.agg #[.slice Ao183 t507.length co183]] ?_
             with_reducible refine (spec_RowCount.calls k2 _ _ t507 t526 _ ?side1 ?side2 A177.out).mono ?_
             (case side1 => exact uc (Kd.NF_reads' HO509.out).2.2)
             (case side2 => exact (Kd.NF_reads' HO509.out).2.1)
             rintro e w203 ⟨rfl, hb⟩
             refine ⟨_, rfl, ?_⟩
             replace HO509 := mk (Kd.NF_below (by (with_reducible repeat (first | apply Kd.NF_alloc | apply Kd.NF_drewN | apply Kd.NF_drew)); exact HO509.out) hb)
             replace HO514 := mk (Kd.R_below (up HO514.out) hb)
             replace HO518 := mk (Kd.R_below (up HO518.out) hb)
             replace BK469 := wb BK469 hb
             replace BK475 := wb BK475 hb
             replace BK478 := wb BK478 hb
             replace BK483 := wb BK483 hb
             replace BK493 := wb BK493 hb
             replace BK494 := wb BK494 hb
             replace BK497 := wb BK497 hb
             replace BK501 := wb BK501 hb
             replace BK511 := wb BK511 hb
             replace HB := wh hb
             (try clear hb)
             (try clear hb2)
             (try clear hk)
             (try clear hi)
             refine hK.out _ _ ⟨bc BK497 0, bc BK497 1, bc BK493 0, bc BK493 1, bc BK494 0, bc BK494 1, bc BK501 0, bc BK501 1, bc BK511 0⟩ (fun hHeld => ?_)
             clear hK K
             refine nm 160 ?_
             refine pu 29 161 (tf 30 11) ?_
             refine pu 30 162 (tf 31 10) ?_
             refine pu 31 163 (tf 32 9) ?_
             refine pu 33 165 #[T_,T_,T_,T_,T_,T_,T_,T_,T_,T_,T_,T_,T_,T_,T_,T_,T_,T_,T_,T_,T_,T_,T_,T_,T_,T_,T_,T_,T_,T_,T_,T_,F_,T_,F_,F_,F_,F_,F_,F_,F_] ?_
             refine pu 36 168 #[T_,T_,T_,T_,T_,T_,T_,T_,T_,T_,T_,T_,T_,T_,T_,T_,T_,T_,T_,T_,T_,T_,T_,T_,T_,T_,T_,T_,T_,T_,T_,T_,F_,T_,F_,F_,T_,F_,F_,F_,F_] ?_
             refine tk 32 164 #[T_,T_,T_,T_,T_,T_,T_,T_,T_,T_,T_,T_,T_,T_,T_,T_,T_,T_,T_,T_,T_,T_,T_,T_,T_,T_,T_,T_,T_,T_,T_,T_,T_,T_,F_,F_,T_,F_,F_,F_,F_] hHeld ?_
             refine tk 35 167 #[T_,T_,T_,T_,T_,T_,T_,T_,T_,T_,T_,T_,T_,T_,T_,T_,T_,T_,T_,T_,T_,T_,T_,T_,T_,T_,T_,T_,T_,T_,T_,T_,T_,T_,F_,T_,T_,F_,F_,F_,F_] hHeld ?_
             refine on 34 166 (tf 37 4) (fun K hK => ?_)
             refine gs Tryz.func26 #[.agg #[.slice Ao183 t507.length co183], .string t510] ?_
             with_reducible refine (impl_FindColumn.calls _ _ t507 t510 t527 _ ?side1 ?side2 A179.out).mono ?_
             (case side1 => exact uc (Kd.NF_reads' HO509.out).2.2)
             (case side2 => exact (Kd.NF_reads' HO509.out).2.1)
             rintro e w204 ⟨rfl, hb⟩
             refine ⟨_, rfl, ?_⟩
             replace HO509 := mk (Kd.NF_below (by (with_reducible repeat (first | apply Kd.NF_alloc | apply Kd.NF_drewN | apply Kd.NF_drew)); exact HO509.out) hb)
             replace HO514 := mk (Kd.R_below (up HO514.out) hb)
             replace HO518 := mk (Kd.R_below (up HO518.out) hb)
             replace BK469 := wb BK469 hb
             replace BK475 := wb BK475 hb
             replace BK478 := wb BK478 hb
             replace BK483 := wb BK483 hb
             replace BK493 := wb BK493 hb
             replace BK494 := wb BK494 hb
             replace BK497 := wb BK497 hb
             replace BK501 := wb BK501 hb
             replace BK511 := wb BK511 hb
             replace HB := wh hb
             (try clear hb)
             (try clear hb2)
             (try clear hk)
             (try clear hi)
             refine hK.out _ _ ⟨bc BK497 0, bc BK497 1, bc BK493 0, bc BK493 1, bc BK494 0, bc BK494 1, bc BK501 0, bc BK501 1, bc BK511 0⟩ (fun hHeld => ?_)
             clear hK K
             refine nm 166 ?_
             refine on 37 169 (tf 38 3) (fun K hK => ?_)
             refine gs Tryz.func27 #[.agg #[.slice Ao183 t507.length co183], .string t510] ?_
             with_reducible refine (spec_FindColumn.calls k2 _ _ t507 t510 t528 _ ?side1 ?side2 A180.out).mono ?_
             (case side1 => exact uc (Kd.NF_reads' HO509.out).2.2)
             (case side2 => exact (Kd.NF_reads' HO509.out).2.1)
             rintro e w205 ⟨rfl, hb⟩
             refine ⟨_, rfl, ?_⟩
             replace HO509 := mk (Kd.NF_below (by (with_reducible repeat (first | apply Kd.NF_alloc | apply Kd.NF_drewN | apply Kd.NF_drew)); exact HO509.out) hb)
             replace HO514 := mk (Kd.R_below (up HO514.out) hb)
             replace HO518 := mk (Kd.R_below (up HO518.out) hb)
             replace BK469 := wb BK469 hb
             replace BK475 := wb BK475 hb
             replace BK478 := wb BK478 hb
             replace BK483 := wb BK483 hb
             replace BK493 := wb BK493 hb
             replace BK494 := wb BK494 hb
             replace BK497 := wb BK497 hb
             replace BK501 := wb BK501 hb
             replace BK511 := wb BK511 hb
             replace HB := wh hb
             (try clear hb)
             (try clear hb2)
             (try clear hk)
             (try clear hi)
             refine hK.out _ _ ⟨bc BK497 0, bc BK497 1, bc BK493 0, bc BK493 1, bc BK494 0, bc BK494 1, bc BK501 0, bc BK501 1, bc BK511 0⟩ (fun hHeld => ?_)
             clear hK K
             refine nm 169 ?_
             refine pu 38 170 (tf 39 2) ?_
             refine pu 39 171 (tf 40 1) ?_
             refine pu 40 2 (tf 41 0) ?_
             refine done_ (done_of HT_.out (by kernel_rfl)) ?_
             try go_wp2
             go_ret
             exact ⟨by first | rfl | (simp [errW_none, errW_some] <;> rfl) | (simp [*, errW_none, errW_some] <;> rfl), bl⟩
            ·rw [if_neg c178] at H
             exact absurd H (by simp)
           ·replace c175 := Bool.eq_false_iff.mpr c175
            subst c175
            rw [if_neg nf] at H
            exact absurd H (by simp)
          ·rw [if_neg c173] at H
           exact absurd H (by simp)
         ·rw [if_neg c172] at H
          exact absurd H (by simp)
        ·rw [if_neg c169] at H
         exact absurd H (by simp)

/-- THE ONE PURE STATEMENT of laws_FnTexts: yours. -/
def laws_FnTexts.Pure : Prop := ∀ (l0 : List Int), l0.length ≤ maxLen → l0.length * 1 ≤ 140737488351232 → (∀ x ∈ l0, (Lit.int .u8 x).wf = true) → ∃ k, laws_FnTexts.f k l0 = some true
theorem laws_FnTexts.walk (P : laws_FnTexts.Pure) (a0 : Option Addr) (len0 cap0 : Nat) (z0 : List Int) (w : World) (w0 : (a0 = none ∧ len0 = 0 ∧ cap0 = 0 ∧ z0 = []) ∨ ∃ x, a0 = some x ∧ len0 ≤ cap0 ∧ cap0 ≤ maxLen ∧ z0.length = cap0 ∧ (∀ i, i < z0.length → w.cell? (x.add i) = some (.int .u8 (z0.getD i 0))) ∧ ∀ n ∈ z0, (Lit.int .u8 n).wf = true) (y0 : len0 * 1 ≤ 140737488351232) (TB0 : Aside0 (TabOk w)) :
  Calls Tryz.prog 3 #[.slice a0 len0 cap0] w fun e w' => e = .returned (.bool true) ∧ Below w.heap.size w w' := by
 obtain ⟨l0, rfl, hr0, hm0, hw0, hc0⟩ := ReadsInt.ofRowC w0
 obtain ⟨k, h⟩ := P l0 hm0 y0 hw0
 refine (laws_FnTexts.calls k _ _ l0 true w (Kd.C_of_reads (d := (0 : Int)) (h1 := fun _ => rfl) hr0) hc0 TB0 ⟨rfl⟩ h).mono ?_
 rintro e w' ⟨rfl, hd⟩
 exact ⟨rfl, hd⟩

end Go.Proofs.YtfjanffppobheaaGreatDoor.PFnTexts
