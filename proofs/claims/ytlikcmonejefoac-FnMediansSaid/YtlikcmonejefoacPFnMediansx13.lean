-- printed by a program of this session, a turned copy of the print of the kit
import Derived.Test.YtlikcmonejefoacSq
import Derived.Test.YtlikcmonejefoacPFnMediansx0
import Derived.Test.YtlikcmonejefoacPFnMediansx2
import Derived.Test.YtlikcmonejefoacPFnMediansx12
namespace Go.Proofs.Ytlikcmonejefoac.PFnMedians
open Go.RowKit Go.Proofs.YtlikcmonejefoacW.PrintWords Go.Proofs.YtlikcmonejefoacW.PrintLast Go.Proofs.YtlikcmonejefoacW.PrintMore Go.Proofs.Ytlikcmonejefoac.Sq
attribute [local go_sem] max2_int min2_int max_two min_two max_three min_three max_four min_four Giv.cell_twice   -- for this text's walks alone
set_option linter.unusedVariables false
set_option linter.unusedSimpArgs false

/-! ### spec_DrawChoosePivot: function 19 -/
def spec_DrawChoosePivot.f (k : Nat) (l0 : List Int) : Option (List Int × List Int × (List (S90)) × Int × Int × Int × Int × Int) := (spec_l1New.f k l0).bind fun bt517 => ((spec_l4Any.f k bt517.1 bt517.2.1 bt517.2.2).bind fun bt521 => ((spec_l7Any.f bt517.1 bt521.2.2.2.1 bt521.2.2.2.2).bind fun bt533 => ((spec_l1Below.f bt517.1 bt533.2.2.2.1 bt533.2.2.2.2 5).bind fun bt539 => ((spec_l1Below.f bt517.1 bt539.2.1 bt539.2.2 2).bind fun bt542 => ((spec_l1Below.f bt517.1 bt542.2.1 bt542.2.2 9).bind fun bt545 => (some (bt521.1, bt521.2.1, bt521.2.2.1, bt533.1, bt533.2.1, bt533.2.2.1, wrap64 (bt539.1 - bt542.1), wrap64 ((wrap64 (bt539.1 - bt542.1)) + bt545.1))))))))
theorem spec_DrawChoosePivot.mono : ∀ a0 k, LeO (spec_DrawChoosePivot.f k a0) (spec_DrawChoosePivot.f (k + 1) a0) := by
 intro a0 k
 unfold spec_DrawChoosePivot.f
 exact mo
instance spec_DrawChoosePivot.mi (a0 k) : LeC (spec_DrawChoosePivot.f k a0) (spec_DrawChoosePivot.f (k + 1) a0) := ⟨spec_DrawChoosePivot.mono a0 k⟩
def spec_DrawChoosePivot.T5 : Bool × List (List Nat × List Nat) := (true, [([], []), ([], []), ([], []), ([], []), ([], []), ([4], [4]), ([3, 5], [3, 5]), ([0, 5, 0], [0]), ([1, 7, 0, 1, 7], [1]), ([2, 8, 0, 1, 2, 7, 8], [2]), ([6, 9, 0, 1, 2, 3, 4, 5, 6, 7, 8, 9], [6])])
def spec_DrawChoosePivot.B5 : List Nat := [0, 0, 0, 0, 0, 16, 56, 49, 179, 439, 1023]
theorem spec_DrawChoosePivot.tab5 : rtab .any (opsOf Try.f19 5) = spec_DrawChoosePivot.T5 := by kernel_rfl
theorem spec_DrawChoosePivot.bits5 : waitsOk spec_DrawChoosePivot.T5.2 spec_DrawChoosePivot.B5 = true := by kernel_rfl
set_option maxHeartbeats 8000000 in
set_option maxRecDepth 100000 in
theorem spec_DrawChoosePivot.calls (k : Nat) (A0 : Option Addr) (c0 : Nat) (l0 : List Int) (r1 : List Int) (r2 : List Int) (r3 : List (S90)) (r4 : Int) (r5 : Int) (r6 : Int) (r7 : Int) (r8 : Int) (w : World) (hr0 : Kd.C (Kd.int .u8) w A0 l0.length l0) (hc0 : l0.length ≤ c0) (h : spec_DrawChoosePivot.f k l0 = some (r1, r2, r3, r4, r5, r6, r7, r8)) :
  Calls Try.prog 19 #[.slice A0 l0.length c0] w fun e w' => ∃ v0_ v1_ v2_ : Value, e = .returned (.tuple #[.agg #[v0_, v1_, v2_], .agg #[.int .i64 r4, .int .i64 r5, .int .i64 r6], .int .i64 r7, .int .i64 r8]) ∧ Kd.R (Kd.int .i64) 3 w' w.heap.size (fun k_ => some k_ ≠ (v1_ : Value).ownBlock) v0_ r1 ∧ Kd.R (Kd.int .i64) 3 w' w.heap.size (fun k_ => some k_ ≠ (v0_ : Value).ownBlock) v1_ r2 ∧ Kd.R k90 90 w' w.heap.size (fun _ => True) v2_ r3 ∧ Below w.heap.size w w' := by
 have hu45 := Try.underlying45
 have hu47 := Try.underlying47
 have HR0 := Aside0.mk hr0
 have HC0 := Aside0.mk hc0
 clear hr0 hc0
 have HB := Aside0.mk (Below.refl w.heap.size w)
 have H : ((spec_l1New.f k l0).bind fun bt517 => ((spec_l4Any.f k bt517.1 bt517.2.1 bt517.2.2).bind fun bt521 => ((spec_l7Any.f bt517.1 bt521.2.2.2.1 bt521.2.2.2.2).bind fun bt533 => ((spec_l1Below.f bt517.1 bt533.2.2.2.1 bt533.2.2.2.2 5).bind fun bt539 => ((spec_l1Below.f bt517.1 bt539.2.1 bt539.2.2 2).bind fun bt542 => ((spec_l1Below.f bt517.1 bt542.2.1 bt542.2.2 9).bind fun bt545 => (some (bt521.1, bt521.2.1, bt521.2.2.1, bt533.1, bt533.2.1, bt533.2.2.1, wrap64 (bt539.1 - bt542.1), wrap64 ((wrap64 (bt539.1 - bt542.1)) + bt545.1))))))))) = some (r1, r2, r3, r4, r5, r6, r7, r8) := h
 clear h
 revert H; refine bo ?_; rintro ⟨t517, t518, t519⟩ A2 H
 dsimp only at H
 revert H; refine bo ?_; rintro ⟨t521, t524, t527, t530, t531⟩ A3 H
 dsimp only at H
 revert H; refine bo ?_; rintro ⟨t533, t534, t535, t536, t537⟩ A4 H
 dsimp only at H
 revert H; refine bo ?_; rintro ⟨t539, t540, t541⟩ A5 H
 dsimp only at H
 revert H; refine bo ?_; rintro ⟨t542, t543, t544⟩ A6 H
 dsimp only at H
 revert H; refine bo ?_; rintro ⟨t545, t546, t547⟩ A7 H
 dsimp only at H
 simp only [Option.some.injEq, Prod.mk.injEq] at H
 obtain ⟨rfl, rfl, rfl, rfl, rfl, rfl, rfl, rfl⟩ := H
 go_enter Try.func19, Try.ntmps19
 try go_wp2_with (first | ((with_reducible refine gate_dst (N := 2) rfl ?_); refine bx 2 #[.slice none 0 0, .slice none 0 0, .slice none 0 0] 45 ?_; intro gb515 hg w8 hbox hb; have BK515 := mk hbox; have GW515 := wg hg; have GE515 := wg hg; replace HB := wh hb; clear hb hbox hg) | ((with_reducible refine gate_dst (N := 3) rfl ?_); refine bx 3 #[.int .i64 0, .int .i64 0, .int .i64 0] 47 ?_; intro gb516 hg w9 hbox hb; have BK516 := mk hbox; have GW516 := wg hg; have GE516 := wg hg; replace HB := wh hb; have NB515_516 := nl BK515 hg; have NB516_515 := nr BK515 hg; replace BK515 := wb BK515 hb; clear hb hbox hg) | ((with_reducible refine gate_callee (f := 41) rfl ?_); refine gl (some 11) rfl Try.func41 #[.slice A0 l0.length c0] ?_; (with_reducible refine (spec_l1New.calls k _ _ l0 t517 t518 t519 w _ ?side1 ?side2 ?side3 A2.out).mono ?_); (case side1 => repeat (first | (with_reducible first | exact HB.out | apply below_alloc | apply pw_below_drewN | apply below_drew1 | refine below_set ?_ GE515.out | refine below_set ?_ GE516.out) | exact HB.out)); (case side2 => exact HR0.out); (case side3 => exact HC0.out); rintro e w10 ⟨g520, rfl, hi, hb, hb2⟩; refine ⟨_, rfl, ?_⟩; replace HB := mk hb; have HI520 := mk hi; have NB520_515 := mk (IsS88.ne_blk hi (blk_below (g := gb515) (o := .cells #[.slice none 0 0, .slice none 0 0, .slice none 0 0] 45 (0, 0)) (ub BK515.out) hb2) (by decide)); have NB515_520 := mk (Ne.symm (IsS88.ne_blk hi (blk_below (g := gb515) (o := .cells #[.slice none 0 0, .slice none 0 0, .slice none 0 0] 45 (0, 0)) (ub BK515.out) hb2) (by decide))); replace BK515 := mk (blk_below (g := gb515) (o := .cells #[.slice none 0 0, .slice none 0 0, .slice none 0 0] 45 (0, 0)) (ub BK515.out) hb2); have NB520_516 := mk (IsS88.ne_blk hi (blk_below (g := gb516) (o := .cells #[.int .i64 0, .int .i64 0, .int .i64 0] 47 (0, 0)) (ub BK516.out) hb2) (by decide)); have NB516_520 := mk (Ne.symm (IsS88.ne_blk hi (blk_below (g := gb516) (o := .cells #[.int .i64 0, .int .i64 0, .int .i64 0] 47 (0, 0)) (ub BK516.out) hb2) (by decide))); replace BK516 := mk (blk_below (g := gb516) (o := .cells #[.int .i64 0, .int .i64 0, .int .i64 0] 47 (0, 0)) (ub BK516.out) hb2); (try clear hb); (try clear hb2); (try clear hk); (try clear hi)) | ((with_reducible refine gate_callee (f := 42) rfl ?_); refine gl (some 13) rfl Try.func42 #[.pointer (some ⟨g520, 0, none⟩)] ?_; (with_reducible refine (spec_l4Any.calls k g520 t517 t518 t519 t521 t524 t527 t530 t531 w _ ?side1 ?side2 A3.out).mono ?_); (case side1 => repeat (first | (with_reducible first | exact HI520.out | apply IsS88.alloc | apply IsS88.drewN | apply IsS88.drew | apply IsS88.set_1 | apply IsS88.set_2 | refine IsS88.far ?_ NB520_515.out _ | refine IsS88.far ?_ NB520_516.out _) | exact HI520.out)); (case side2 => repeat (first | (with_reducible first | exact HB.out | apply below_alloc | apply pw_below_drewN | apply below_drew1 | refine below_set ?_ (IsS88.ge HI520.out) | refine below_set ?_ GE515.out | refine below_set ?_ GE516.out) | exact HB.out)); rintro e w11 ⟨v522, v525, v528, rfl, ho0, ho1, ho2, hi, hb, hk⟩; refine ⟨_, rfl, ?_⟩; replace BK515 := mk (KeepBut.blk hk (g' := gb515) (o := .cells #[.slice none 0 0, .slice none 0 0, .slice none 0 0] 45 (0, 0)) (ub BK515.out) NB515_520.out (by simp)); replace BK516 := mk (KeepBut.blk hk (g' := gb516) (o := .cells #[.int .i64 0, .int .i64 0, .int .i64 0] 47 (0, 0)) (ub BK516.out) NB516_520.out (by simp)); have HO523 := mk (Kd.R_lower ho0 (below_size (by repeat (first | (with_reducible first | exact HB.out | apply below_alloc | apply pw_below_drewN | apply below_drew1 | refine below_set ?_ (IsS88.ge HI520.out) | refine below_set ?_ GE515.out | refine below_set ?_ GE516.out) | exact HB.out)))); have HO526 := mk (Kd.R_lower ho1 (below_size (by repeat (first | (with_reducible first | exact HB.out | apply below_alloc | apply pw_below_drewN | apply below_drew1 | refine below_set ?_ (IsS88.ge HI520.out) | refine below_set ?_ GE515.out | refine below_set ?_ GE516.out) | exact HB.out)))); have HO529 := mk (Kd.R_lower ho2 (below_size (by repeat (first | (with_reducible first | exact HB.out | apply below_alloc | apply pw_below_drewN | apply below_drew1 | refine below_set ?_ (IsS88.ge HI520.out) | refine below_set ?_ GE515.out | refine below_set ?_ GE516.out) | exact HB.out)))); replace HB := mk hb; replace HI520 := mk hi; (try clear hb); (try clear hb2); (try clear hk); (try clear hi); (try clear ho0); (try clear ho1); (try clear ho2)) | ((with_reducible refine gate_dst (N := 7) rfl ?_); refine bx 7 #[.slice none 0 0, .slice none 0 0, .slice none 0 0] 45 ?_; intro gb532 hg w12 hbox hb; replace HO523 := mk (Kd.R_below (up HO523.out) hb); replace HO526 := mk (Kd.R_below (up HO526.out) hb); replace HO529 := mk (Kd.R_below (up HO529.out) hb); have BK532 := mk hbox; have GW532 := mk ((by rw [hg]; exact (below_size (by repeat (first | (with_reducible first | exact HB.out | apply below_alloc | apply pw_below_drewN | apply below_drew1 | refine below_set ?_ (IsS88.ge HI520.out) | refine below_set ?_ GE515.out | refine below_set ?_ GE516.out) | exact HB.out))) : w.heap.size ≤ gb532)); have GE532 := mk ((by rw [hg]; exact (below_size (by repeat (first | (with_reducible first | exact HB.out | apply below_alloc | apply pw_below_drewN | apply below_drew1 | refine below_set ?_ (IsS88.ge HI520.out) | refine below_set ?_ GE515.out | refine below_set ?_ GE516.out) | exact HB.out))) : w.heap.size ≤ gb532)); replace HB := mk (below_step (by repeat (first | (with_reducible first | exact HB.out | apply below_alloc | apply pw_below_drewN | apply below_drew1 | refine below_set ?_ (IsS88.ge HI520.out) | refine below_set ?_ GE515.out | refine below_set ?_ GE516.out) | exact HB.out)) hb); have NB515_532 := nl BK515 hg; have NB532_515 := nr BK515 hg; replace BK515 := wb BK515 hb; have NB516_532 := nl BK516 hg; have NB532_516 := nr BK516 hg; replace BK516 := wb BK516 hb; have NB520_532 := mk ((by rw [hg]; exact Nat.ne_of_lt (IsS88.lt (show IsS88 w _ g520 t517 t530 t531 from by repeat (first | (with_reducible first | exact HI520.out | apply IsS88.alloc | apply IsS88.drewN | apply IsS88.drew | apply IsS88.set_1 | apply IsS88.set_2 | refine IsS88.far ?_ NB520_515.out _ | refine IsS88.far ?_ NB520_516.out _) | exact HI520.out))) : g520 ≠ gb532)); have NB532_520 := mk ((by rw [hg]; exact Nat.ne_of_gt (IsS88.lt (show IsS88 w _ g520 t517 t530 t531 from by repeat (first | (with_reducible first | exact HI520.out | apply IsS88.alloc | apply IsS88.drewN | apply IsS88.drew | apply IsS88.set_1 | apply IsS88.set_2 | refine IsS88.far ?_ NB520_515.out _ | refine IsS88.far ?_ NB520_516.out _) | exact HI520.out))) : gb532 ≠ g520)); replace HI520 := mk (IsS88.below (by repeat (first | (with_reducible first | exact HI520.out | apply IsS88.alloc | apply IsS88.drewN | apply IsS88.drew | apply IsS88.set_1 | apply IsS88.set_2 | refine IsS88.far ?_ NB520_515.out _ | refine IsS88.far ?_ NB520_516.out _) | exact HI520.out)) hb); clear hb hbox hg; obtain ⟨Ao13, co13, eo13⟩ := Kd.R_slice HO523.out; subst eo13; have hnb14 := NB532_515.out; have hnc14 := NB515_532.out; have hnb15 := NB532_516.out; have hnc15 := NB516_532.out; have hnb16 := NB532_520.out; have hnc16 := NB520_532.out; obtain ⟨hcz17_0, hcz17_1, hcz17_2, hfz17_0, hfz17_1, hfz17_2⟩ := bz3 BK532; obtain ⟨Ao18, co18, eo18⟩ := Kd.R_slice HO526.out; subst eo18; obtain ⟨Ao19, co19, eo19⟩ := Kd.R_slice HO529.out; subst eo19) | ((with_reducible refine gate_callee (f := 43) rfl ?_); refine gl (some 15) rfl Try.func43 #[.pointer (some ⟨g520, 0, none⟩)] ?_; (with_reducible refine (spec_l7Any.calls g520 t517 t530 t531 t533 t534 t535 t536 t537 w _ ?side1 ?side2 A4.out).mono ?_); (case side1 => repeat (first | (with_reducible first | exact HI520.out | apply IsS88.alloc | apply IsS88.drewN | apply IsS88.drew | apply IsS88.set_1 | apply IsS88.set_2 | refine IsS88.far ?_ NB520_515.out _ | refine IsS88.far ?_ NB520_516.out _ | refine IsS88.far ?_ NB520_532.out _) | exact HI520.out)); (case side2 => repeat (first | (with_reducible first | exact HB.out | apply below_alloc | apply pw_below_drewN | apply below_drew1 | refine below_set ?_ (IsS88.ge HI520.out) | refine below_set ?_ GE515.out | refine below_set ?_ GE516.out | refine below_set ?_ GE532.out) | exact HB.out)); rintro e w20 ⟨rfl, hi, hb, hk⟩; refine ⟨_, rfl, ?_⟩; have n0_ := Aside0.mk (KeepBut.blk hk (g' := gb515) (o := .cells #[.slice none 0 0, .slice none 0 0, .slice none 0 0] 45 (0, 0)) bq NB515_520.out (by simp)); have n1_ := Aside0.mk (KeepBut.blk hk (g' := gb516) (o := .cells #[.int .i64 0, .int .i64 0, .int .i64 0] 47 (0, 0)) bq NB516_520.out (by simp)); have n2_ := Aside0.mk (Kd.R_mono (Kd.R_keep (IsS88.apart (show IsS88 w _ g520 t517 t530 t531 from by repeat (first | (with_reducible first | exact HI520.out | apply IsS88.alloc | apply IsS88.drewN | apply IsS88.drew | apply IsS88.set_1 | apply IsS88.set_2 | refine IsS88.far ?_ NB520_515.out _ | refine IsS88.far ?_ NB520_516.out _ | refine IsS88.far ?_ NB520_532.out _) | exact HI520.out)) (by exact rs1 HO523 BK532) (by decide)) hk (fun _ h => h.2)) (fun _ h => h.1)); have n3_ := Aside0.mk (Kd.R_mono (Kd.R_keep (IsS88.apart (show IsS88 w _ g520 t517 t530 t531 from by repeat (first | (with_reducible first | exact HI520.out | apply IsS88.alloc | apply IsS88.drewN | apply IsS88.drew | apply IsS88.set_1 | apply IsS88.set_2 | refine IsS88.far ?_ NB520_515.out _ | refine IsS88.far ?_ NB520_516.out _ | refine IsS88.far ?_ NB520_532.out _) | exact HI520.out)) (by exact rs1 HO526 BK532) (by decide)) hk (fun _ h => h.2)) (fun _ h => h.1)); have n4_ := Aside0.mk (Kd.R_mono (Kd.R_keep (IsS88.apart (show IsS88 w _ g520 t517 t530 t531 from by repeat (first | (with_reducible first | exact HI520.out | apply IsS88.alloc | apply IsS88.drewN | apply IsS88.drew | apply IsS88.set_1 | apply IsS88.set_2 | refine IsS88.far ?_ NB520_515.out _ | refine IsS88.far ?_ NB520_516.out _ | refine IsS88.far ?_ NB520_532.out _) | exact HI520.out)) (by exact rs1 HO529 BK532) (by decide)) hk (fun _ h => h.2)) (fun _ h => h.1)); have n5_ := Aside0.mk (KeepBut.blk hk (g' := gb532) (o := .cells #[.slice Ao13 t521.length co13, .slice Ao18 t524.length co18, .slice Ao19 t527.length co19] 45 (0, 0)) bq NB532_520.out (by simp)); have n6_ := Aside0.mk (hb); have n7_ := Aside0.mk (hi); clear BK515; clear BK516; clear HO523; clear HO526; clear HO529; clear BK532; clear HB; clear HI520; have BK515 := n0_; have BK516 := n1_; have HO523 := n2_; have HO526 := n3_; have HO529 := n4_; have BK532 := n5_; have HB := n6_; have HI520 := n7_; clear n0_ n1_ n2_ n3_ n4_ n5_ n6_ n7_; (try clear hb); (try clear hb2); (try clear hk); (try clear hi)) | ((with_reducible refine gate_dst (N := 8) rfl ?_); refine bx 8 #[.int .i64 0, .int .i64 0, .int .i64 0] 47 ?_; intro gb538 hg w21 hbox hb; replace HO523 := mk (Kd.R_below (up HO523.out) hb); replace HO526 := mk (Kd.R_below (up HO526.out) hb); replace HO529 := mk (Kd.R_below (up HO529.out) hb); have BK538 := mk hbox; have GW538 := mk ((by rw [hg]; exact (below_size (by repeat (first | (with_reducible first | exact HB.out | apply below_alloc | apply pw_below_drewN | apply below_drew1 | refine below_set ?_ (IsS88.ge HI520.out) | refine below_set ?_ GE515.out | refine below_set ?_ GE516.out | refine below_set ?_ GE532.out) | exact HB.out))) : w.heap.size ≤ gb538)); have GE538 := mk ((by rw [hg]; exact (below_size (by repeat (first | (with_reducible first | exact HB.out | apply below_alloc | apply pw_below_drewN | apply below_drew1 | refine below_set ?_ (IsS88.ge HI520.out) | refine below_set ?_ GE515.out | refine below_set ?_ GE516.out | refine below_set ?_ GE532.out) | exact HB.out))) : w.heap.size ≤ gb538)); replace HB := mk (below_step (by repeat (first | (with_reducible first | exact HB.out | apply below_alloc | apply pw_below_drewN | apply below_drew1 | refine below_set ?_ (IsS88.ge HI520.out) | refine below_set ?_ GE515.out | refine below_set ?_ GE516.out | refine below_set ?_ GE532.out) | exact HB.out)) hb); have NB515_538 := nl BK515 hg; have NB538_515 := nr BK515 hg; replace BK515 := wb BK515 hb; have NB516_538 := nl BK516 hg; have NB538_516 := nr BK516 hg; replace BK516 := wb BK516 hb; have NB532_538 := nl BK532 hg; have NB538_532 := nr BK532 hg; replace BK532 := wb BK532 hb; have NB520_538 := mk ((by rw [hg]; exact Nat.ne_of_lt (IsS88.lt (show IsS88 w _ g520 t517 t536 t537 from by repeat (first | (with_reducible first | exact HI520.out | apply IsS88.alloc | apply IsS88.drewN | apply IsS88.drew | apply IsS88.set_1 | apply IsS88.set_2 | refine IsS88.far ?_ NB520_515.out _ | refine IsS88.far ?_ NB520_516.out _ | refine IsS88.far ?_ NB520_532.out _) | exact HI520.out))) : g520 ≠ gb538)); have NB538_520 := mk ((by rw [hg]; exact Nat.ne_of_gt (IsS88.lt (show IsS88 w _ g520 t517 t536 t537 from by repeat (first | (with_reducible first | exact HI520.out | apply IsS88.alloc | apply IsS88.drewN | apply IsS88.drew | apply IsS88.set_1 | apply IsS88.set_2 | refine IsS88.far ?_ NB520_515.out _ | refine IsS88.far ?_ NB520_516.out _ | refine IsS88.far ?_ NB520_532.out _) | exact HI520.out))) : gb538 ≠ g520)); replace HI520 := mk (IsS88.below (by repeat (first | (with_reducible first | exact HI520.out | apply IsS88.alloc | apply IsS88.drewN | apply IsS88.drew | apply IsS88.set_1 | apply IsS88.set_2 | refine IsS88.far ?_ NB520_515.out _ | refine IsS88.far ?_ NB520_516.out _ | refine IsS88.far ?_ NB520_532.out _) | exact HI520.out)) hb); clear hb hbox hg; have hnb22 := NB538_515.out; have hnc22 := NB515_538.out; have hnb23 := NB538_516.out; have hnc23 := NB516_538.out; have hnb24 := NB538_532.out; have hnc24 := NB532_538.out; have hnb25 := NB538_520.out; have hnc25 := NB520_538.out; obtain ⟨hcz26_0, hcz26_1, hcz26_2, hfz26_0, hfz26_1, hfz26_2⟩ := bz3 BK538) | ((with_reducible refine gate_callee (f := 44) rfl ?_); refine gl (some 17) rfl Try.func44 #[.pointer (some ⟨g520, 0, none⟩), .int .i64 5] ?_; (with_reducible refine (spec_l1Below.calls g520 t517 t536 t537 5 t539 t540 t541 w _ ?side1 ?side2 A5.out).mono ?_); (case side1 => repeat (first | (with_reducible first | exact HI520.out | apply IsS88.alloc | apply IsS88.drewN | apply IsS88.drew | apply IsS88.set_1 | apply IsS88.set_2 | refine IsS88.far ?_ NB520_515.out _ | refine IsS88.far ?_ NB520_516.out _ | refine IsS88.far ?_ NB520_532.out _ | refine IsS88.far ?_ NB520_538.out _) | exact HI520.out)); (case side2 => repeat (first | (with_reducible first | exact HB.out | apply below_alloc | apply pw_below_drewN | apply below_drew1 | refine below_set ?_ (IsS88.ge HI520.out) | refine below_set ?_ GE515.out | refine below_set ?_ GE516.out | refine below_set ?_ GE532.out | refine below_set ?_ GE538.out) | exact HB.out)); rintro e w27 ⟨rfl, hi, hb, hk⟩; refine ⟨_, rfl, ?_⟩; have n0_ := Aside0.mk (KeepBut.blk hk (g' := gb515) (o := .cells #[.slice none 0 0, .slice none 0 0, .slice none 0 0] 45 (0, 0)) bq NB515_520.out (by simp)); have n1_ := Aside0.mk (KeepBut.blk hk (g' := gb516) (o := .cells #[.int .i64 0, .int .i64 0, .int .i64 0] 47 (0, 0)) bq NB516_520.out (by simp)); have n2_ := Aside0.mk (Kd.R_mono (Kd.R_keep (IsS88.apart (show IsS88 w _ g520 t517 t536 t537 from by repeat (first | (with_reducible first | exact HI520.out | apply IsS88.alloc | apply IsS88.drewN | apply IsS88.drew | apply IsS88.set_1 | apply IsS88.set_2 | refine IsS88.far ?_ NB520_515.out _ | refine IsS88.far ?_ NB520_516.out _ | refine IsS88.far ?_ NB520_532.out _ | refine IsS88.far ?_ NB520_538.out _) | exact HI520.out)) (by exact rs1 HO523 BK538) (by decide)) hk (fun _ h => h.2)) (fun _ h => h.1)); have n3_ := Aside0.mk (Kd.R_mono (Kd.R_keep (IsS88.apart (show IsS88 w _ g520 t517 t536 t537 from by repeat (first | (with_reducible first | exact HI520.out | apply IsS88.alloc | apply IsS88.drewN | apply IsS88.drew | apply IsS88.set_1 | apply IsS88.set_2 | refine IsS88.far ?_ NB520_515.out _ | refine IsS88.far ?_ NB520_516.out _ | refine IsS88.far ?_ NB520_532.out _ | refine IsS88.far ?_ NB520_538.out _) | exact HI520.out)) (by exact rs1 HO526 BK538) (by decide)) hk (fun _ h => h.2)) (fun _ h => h.1)); have n4_ := Aside0.mk (Kd.R_mono (Kd.R_keep (IsS88.apart (show IsS88 w _ g520 t517 t536 t537 from by repeat (first | (with_reducible first | exact HI520.out | apply IsS88.alloc | apply IsS88.drewN | apply IsS88.drew | apply IsS88.set_1 | apply IsS88.set_2 | refine IsS88.far ?_ NB520_515.out _ | refine IsS88.far ?_ NB520_516.out _ | refine IsS88.far ?_ NB520_532.out _ | refine IsS88.far ?_ NB520_538.out _) | exact HI520.out)) (by exact rs1 HO529 BK538) (by decide)) hk (fun _ h => h.2)) (fun _ h => h.1)); have n5_ := Aside0.mk (KeepBut.blk hk (g' := gb532) (o := .cells #[.slice Ao13 t521.length co13, .slice Ao18 t524.length co18, .slice Ao19 t527.length co19] 45 (0, 0)) bq NB532_520.out (by simp)); have n6_ := Aside0.mk (KeepBut.blk hk (g' := gb538) (o := .cells #[.int .i64 t533, .int .i64 t534, .int .i64 t535] 47 (0, 0)) bq NB538_520.out (by simp)); have n7_ := Aside0.mk (hb); have n8_ := Aside0.mk (hi); clear BK515; clear BK516; clear HO523; clear HO526; clear HO529; clear BK532; clear BK538; clear HB; clear HI520; have BK515 := n0_; have BK516 := n1_; have HO523 := n2_; have HO526 := n3_; have HO529 := n4_; have BK532 := n5_; have BK538 := n6_; have HB := n7_; have HI520 := n8_; clear n0_ n1_ n2_ n3_ n4_ n5_ n6_ n7_ n8_; (try clear hb); (try clear hb2); (try clear hk); (try clear hi)) | ((with_reducible refine gate_callee (f := 44) rfl ?_); refine gl (some 19) rfl Try.func44 #[.pointer (some ⟨g520, 0, none⟩), .int .i64 2] ?_; (with_reducible refine (spec_l1Below.calls g520 t517 t540 t541 2 t542 t543 t544 w _ ?side1 ?side2 A6.out).mono ?_); (case side1 => repeat (first | (with_reducible first | exact HI520.out | apply IsS88.alloc | apply IsS88.drewN | apply IsS88.drew | apply IsS88.set_1 | apply IsS88.set_2 | refine IsS88.far ?_ NB520_515.out _ | refine IsS88.far ?_ NB520_516.out _ | refine IsS88.far ?_ NB520_532.out _ | refine IsS88.far ?_ NB520_538.out _) | exact HI520.out)); (case side2 => repeat (first | (with_reducible first | exact HB.out | apply below_alloc | apply pw_below_drewN | apply below_drew1 | refine below_set ?_ (IsS88.ge HI520.out) | refine below_set ?_ GE515.out | refine below_set ?_ GE516.out | refine below_set ?_ GE532.out | refine below_set ?_ GE538.out) | exact HB.out)); rintro e w28 ⟨rfl, hi, hb, hk⟩; refine ⟨_, rfl, ?_⟩; replace BK515 := mk (KeepBut.blk hk (g' := gb515) (o := .cells #[.slice none 0 0, .slice none 0 0, .slice none 0 0] 45 (0, 0)) (ub BK515.out) NB515_520.out (by simp)); replace BK516 := mk (KeepBut.blk hk (g' := gb516) (o := .cells #[.int .i64 0, .int .i64 0, .int .i64 0] 47 (0, 0)) (ub BK516.out) NB516_520.out (by simp)); replace HO523 := mk (Kd.R_mono (Kd.R_keep (IsS88.apart (show IsS88 w _ g520 t517 t540 t541 from by repeat (first | (with_reducible first | exact HI520.out | apply IsS88.alloc | apply IsS88.drewN | apply IsS88.drew | apply IsS88.set_1 | apply IsS88.set_2 | refine IsS88.far ?_ NB520_515.out _ | refine IsS88.far ?_ NB520_516.out _ | refine IsS88.far ?_ NB520_532.out _ | refine IsS88.far ?_ NB520_538.out _) | exact HI520.out)) (up HO523.out) (by decide)) hk (fun _ h => h.2)) (fun _ h => h.1)); replace HO526 := mk (Kd.R_mono (Kd.R_keep (IsS88.apart (show IsS88 w _ g520 t517 t540 t541 from by repeat (first | (with_reducible first | exact HI520.out | apply IsS88.alloc | apply IsS88.drewN | apply IsS88.drew | apply IsS88.set_1 | apply IsS88.set_2 | refine IsS88.far ?_ NB520_515.out _ | refine IsS88.far ?_ NB520_516.out _ | refine IsS88.far ?_ NB520_532.out _ | refine IsS88.far ?_ NB520_538.out _) | exact HI520.out)) (up HO526.out) (by decide)) hk (fun _ h => h.2)) (fun _ h => h.1)); replace HO529 := mk (Kd.R_mono (Kd.R_keep (IsS88.apart (show IsS88 w _ g520 t517 t540 t541 from by repeat (first | (with_reducible first | exact HI520.out | apply IsS88.alloc | apply IsS88.drewN | apply IsS88.drew | apply IsS88.set_1 | apply IsS88.set_2 | refine IsS88.far ?_ NB520_515.out _ | refine IsS88.far ?_ NB520_516.out _ | refine IsS88.far ?_ NB520_532.out _ | refine IsS88.far ?_ NB520_538.out _) | exact HI520.out)) (up HO529.out) (by decide)) hk (fun _ h => h.2)) (fun _ h => h.1)); replace BK532 := mk (KeepBut.blk hk (g' := gb532) (o := .cells #[.slice Ao13 t521.length co13, .slice Ao18 t524.length co18, .slice Ao19 t527.length co19] 45 (0, 0)) (ub BK532.out) NB532_520.out (by simp)); replace BK538 := mk (KeepBut.blk hk (g' := gb538) (o := .cells #[.int .i64 t533, .int .i64 t534, .int .i64 t535] 47 (0, 0)) (ub BK538.out) NB538_520.out (by simp)); replace HB := mk hb; replace HI520 := mk hi; (try clear hb); (try clear hb2); (try clear hk); (try clear hi)))
 replace HO523 := mk (Kd.R_drew HO523.out)
 replace HO526 := mk (Kd.R_drew HO526.out)
 replace HO529 := mk (Kd.R_drew HO529.out)
 replace BK515 := wd BK515
 replace BK516 := wd BK516
 replace BK532 := wd BK532
 replace BK538 := wd BK538
 replace HI520 := mk (IsS88.drew HI520.out)
 replace HB := mk (below_drew1 HB.out)
 refine start_ (n := 11) (S := fun w' => w'.cell? ⟨gb532, 0, none⟩ = some (.slice Ao13 t521.length co13) ∧ w'.cell? ⟨gb532, 1, none⟩ = some (.slice Ao18 t524.length co18) ∧ w'.cell? ⟨gb532, 2, none⟩ = some (.slice Ao19 t527.length co19) ∧ w'.cell? ⟨gb538, 0, none⟩ = some (.int .i64 t533) ∧ w'.cell? ⟨gb538, 1, none⟩ = some (.int .i64 t534) ∧ w'.cell? ⟨gb538, 2, none⟩ = some (.int .i64 t535)) (ds := []) #[F_, F_, F_, F_, F_, F_, F_, F_, F_, F_, F_] (by kernel_rfl) rfl rfl ⟨(blk_cell BK532.out 0).trans rfl, (blk_cell BK532.out 1).trans rfl, (blk_cell BK532.out 2).trans rfl, (blk_cell BK538.out 0).trans rfl, (blk_cell BK538.out 1).trans rfl, (blk_cell BK538.out 2).trans rfl⟩ (fun hHeld => ?_); refine with_tabW spec_DrawChoosePivot.tab5 spec_DrawChoosePivot.bits5 (fun HT_ HW_ => ?_)
 generalize w28.drew = w29 at HO523 HO526 HO529 BK515 BK516 BK532 BK538 HI520 HB hHeld ⊢
 refine pu 2 23 #[F_,F_,T_,F_,F_,F_,F_,F_,F_,F_,F_] ?_
 refine pu 3 24 #[F_,F_,T_,T_,F_,F_,F_,F_,F_,F_,F_] ?_
 refine pu 4 25 #[F_,F_,T_,T_,T_,F_,F_,F_,F_,F_,F_] ?_
 refine tk 0 21 #[T_,F_,T_,T_,T_,F_,F_,F_,F_,F_,F_] hHeld ?_
 refine tk 1 22 (tf 5 6) hHeld ?_
 refine on 5 26 (tf 6 5) (fun K hK => ?_)
 refine gs Try.func44 #[.pointer (some ⟨g520, 0, none⟩), .int .i64 9] ?_
 with_reducible refine (spec_l1Below.calls g520 t517 t543 t544 9 t545 t546 t547 w _ ?side1 ?side2 A7.out).mono ?_
 (case side1 => repeat (first | (with_reducible first | exact HI520.out | apply IsS88.alloc | apply IsS88.drewN | apply IsS88.drew | apply IsS88.set_1 | apply IsS88.set_2 | refine IsS88.far ?_ NB520_515.out _ | refine IsS88.far ?_ NB520_516.out _ | refine IsS88.far ?_ NB520_532.out _ | refine IsS88.far ?_ NB520_538.out _) | exact HI520.out))
 (case side2 => repeat (first | (with_reducible first | exact HB.out | apply below_alloc | apply pw_below_drewN | apply below_drew1 | refine below_set ?_ (IsS88.ge HI520.out) | refine below_set ?_ GE515.out | refine below_set ?_ GE516.out | refine below_set ?_ GE532.out | refine below_set ?_ GE538.out) | exact HB.out))
 rintro e w30 ⟨rfl, hi, hb, hk⟩
 refine ⟨_, rfl, ?_⟩
 replace BK515 := mk (KeepBut.blk hk (g' := gb515) (o := .cells #[.slice none 0 0, .slice none 0 0, .slice none 0 0] 45 (0, 0)) (ub BK515.out) NB515_520.out (by simp))
 replace BK516 := mk (KeepBut.blk hk (g' := gb516) (o := .cells #[.int .i64 0, .int .i64 0, .int .i64 0] 47 (0, 0)) (ub BK516.out) NB516_520.out (by simp))
 replace HO523 := mk (Kd.R_mono (Kd.R_keep (IsS88.apart (show IsS88 w _ g520 t517 t543 t544 from by repeat (first | (with_reducible first | exact HI520.out | apply IsS88.alloc | apply IsS88.drewN | apply IsS88.drew | apply IsS88.set_1 | apply IsS88.set_2 | refine IsS88.far ?_ NB520_515.out _ | refine IsS88.far ?_ NB520_516.out _ | refine IsS88.far ?_ NB520_532.out _ | refine IsS88.far ?_ NB520_538.out _) | exact HI520.out)) (up HO523.out) (by decide)) hk (fun _ h => h.2)) (fun _ h => h.1))
 replace HO526 := mk (Kd.R_mono (Kd.R_keep (IsS88.apart (show IsS88 w _ g520 t517 t543 t544 from by repeat (first | (with_reducible first | exact HI520.out | apply IsS88.alloc | apply IsS88.drewN | apply IsS88.drew | apply IsS88.set_1 | apply IsS88.set_2 | refine IsS88.far ?_ NB520_515.out _ | refine IsS88.far ?_ NB520_516.out _ | refine IsS88.far ?_ NB520_532.out _ | refine IsS88.far ?_ NB520_538.out _) | exact HI520.out)) (up HO526.out) (by decide)) hk (fun _ h => h.2)) (fun _ h => h.1))
 replace HO529 := mk (Kd.R_mono (Kd.R_keep (IsS88.apart (show IsS88 w _ g520 t517 t543 t544 from by repeat (first | (with_reducible first | exact HI520.out | apply IsS88.alloc | apply IsS88.drewN | apply IsS88.drew | apply IsS88.set_1 | apply IsS88.set_2 | refine IsS88.far ?_ NB520_515.out _ | refine IsS88.far ?_ NB520_516.out _ | refine IsS88.far ?_ NB520_532.out _ | refine IsS88.far ?_ NB520_538.out _) | exact HI520.out)) (up HO529.out) (by decide)) hk (fun _ h => h.2)) (fun _ h => h.1))
 replace BK532 := mk (KeepBut.blk hk (g' := gb532) (o := .cells #[.slice Ao13 t521.length co13, .slice Ao18 t524.length co18, .slice Ao19 t527.length co19] 45 (0, 0)) (ub BK532.out) NB532_520.out (by simp))
 replace BK538 := mk (KeepBut.blk hk (g' := gb538) (o := .cells #[.int .i64 t533, .int .i64 t534, .int .i64 t535] 47 (0, 0)) (ub BK538.out) NB538_520.out (by simp))
 replace HB := mk hb
 replace HI520 := mk hi
 (try clear hb)
 (try clear hb2)
 (try clear hk)
 (try clear hi)
 refine hK.out _ _ ⟨(blk_cell BK532.out 0).trans rfl, (blk_cell BK532.out 1).trans rfl, (blk_cell BK532.out 2).trans rfl, (blk_cell BK538.out 0).trans rfl, (blk_cell BK538.out 1).trans rfl, (blk_cell BK538.out 2).trans rfl⟩ (fun hHeld => ?_)
 clear hK K
 refine nm 26 ?_
 refine pu 6 27 (tf 7 4) ?_
 refine one_ (i := 7) (N := none) #[T_, T_, T_, T_, T_, T_, T_, T_, F_, F_, F_] rfl rfl (one_of HT_.out (by kernel_rfl)) (by decide) (fun K hK => ?_)
 have hs31 : w30.cell? ⟨gb515, 0, none⟩ = some (.slice none 0 0) := (blk_cell BK515.out 0).trans rfl
 have hfs31 := blk_frozen BK515.out 0
 have hns31_1 := NB516_515.out
 have hns31_2 := NB532_515.out
 have hns31_3 := NB538_515.out
 have hms31_1 := NB515_516.out
 have hms31_2 := NB515_532.out
 have hms31_3 := NB515_538.out
 have hs32 : w30.cell? ⟨gb515, 1, none⟩ = some (.slice none 0 0) := (blk_cell BK515.out 1).trans rfl
 have hfs32 := blk_frozen BK515.out 1
 have hns32_1 := NB516_515.out
 have hns32_2 := NB532_515.out
 have hns32_3 := NB538_515.out
 have hms32_1 := NB515_516.out
 have hms32_2 := NB515_532.out
 have hms32_3 := NB515_538.out
 have hs33 : w30.cell? ⟨gb515, 2, none⟩ = some (.slice none 0 0) := (blk_cell BK515.out 2).trans rfl
 have hfs33 := blk_frozen BK515.out 2
 have hns33_1 := NB516_515.out
 have hns33_2 := NB532_515.out
 have hns33_3 := NB538_515.out
 have hms33_1 := NB515_516.out
 have hms33_2 := NB515_532.out
 have hms33_3 := NB515_538.out
 refine skip_ (w1 := ?_) (by rfl) rfl ?_ ?_
 rotate_left
 ·go_simp
  rfl
 refine hK.out _ _ ⟨((cell_far (p := ⟨gb515, _, none⟩) NB532_515.out _).trans (((cell_far (p := ⟨gb515, _, none⟩) NB532_515.out _).trans (((cell_far (p := ⟨gb515, _, none⟩) NB532_515.out _).trans (hHeld.1)))))), ((cell_far (p := ⟨gb515, _, none⟩) NB532_515.out _).trans (((cell_far (p := ⟨gb515, _, none⟩) NB532_515.out _).trans (((cell_far (p := ⟨gb515, _, none⟩) NB532_515.out _).trans (hHeld.2.1)))))), ((cell_far (p := ⟨gb515, _, none⟩) NB532_515.out _).trans (((cell_far (p := ⟨gb515, _, none⟩) NB532_515.out _).trans (((cell_far (p := ⟨gb515, _, none⟩) NB532_515.out _).trans (hHeld.2.2.1)))))), ((cell_far (p := ⟨gb515, _, none⟩) NB538_515.out _).trans (((cell_far (p := ⟨gb515, _, none⟩) NB538_515.out _).trans (((cell_far (p := ⟨gb515, _, none⟩) NB538_515.out _).trans (hHeld.2.2.2.1)))))), ((cell_far (p := ⟨gb515, _, none⟩) NB538_515.out _).trans (((cell_far (p := ⟨gb515, _, none⟩) NB538_515.out _).trans (((cell_far (p := ⟨gb515, _, none⟩) NB538_515.out _).trans (hHeld.2.2.2.2.1)))))), ((cell_far (p := ⟨gb515, _, none⟩) NB538_515.out _).trans (((cell_far (p := ⟨gb515, _, none⟩) NB538_515.out _).trans (((cell_far (p := ⟨gb515, _, none⟩) NB538_515.out _).trans (hHeld.2.2.2.2.2))))))⟩ (fun hHeld => ?_)
 clear hK K
 refine one_ (i := 8) (N := none) #[T_, T_, T_, T_, T_, T_, T_, T_, T_, F_, F_] rfl rfl (one_of HT_.out (by kernel_rfl)) (by decide) (fun K hK => ?_)
 have hs34 : w30.cell? ⟨gb516, 0, none⟩ = some (.int .i64 0) := (blk_cell BK516.out 0).trans rfl
 have hfs34 := blk_frozen BK516.out 0
 have hns34_0 := NB515_516.out
 have hns34_2 := NB532_516.out
 have hns34_3 := NB538_516.out
 have hms34_0 := NB516_515.out
 have hms34_2 := NB516_532.out
 have hms34_3 := NB516_538.out
 have hs35 : w30.cell? ⟨gb516, 1, none⟩ = some (.int .i64 0) := (blk_cell BK516.out 1).trans rfl
 have hfs35 := blk_frozen BK516.out 1
 have hns35_0 := NB515_516.out
 have hns35_2 := NB532_516.out
 have hns35_3 := NB538_516.out
 have hms35_0 := NB516_515.out
 have hms35_2 := NB516_532.out
 have hms35_3 := NB516_538.out
 have hs36 : w30.cell? ⟨gb516, 2, none⟩ = some (.int .i64 0) := (blk_cell BK516.out 2).trans rfl
 have hfs36 := blk_frozen BK516.out 2
 have hns36_0 := NB515_516.out
 have hns36_2 := NB532_516.out
 have hns36_3 := NB538_516.out
 have hms36_0 := NB516_515.out
 have hms36_2 := NB516_532.out
 have hms36_3 := NB516_538.out
 refine skip_ (w1 := ?_) (by rfl) rfl ?_ ?_
 rotate_left
 ·go_simp
  rfl
 refine hK.out _ _ ⟨((cell_far (p := ⟨gb516, _, none⟩) NB532_516.out _).trans (((cell_far (p := ⟨gb516, _, none⟩) NB532_516.out _).trans (((cell_far (p := ⟨gb516, _, none⟩) NB532_516.out _).trans (hHeld.1)))))), ((cell_far (p := ⟨gb516, _, none⟩) NB532_516.out _).trans (((cell_far (p := ⟨gb516, _, none⟩) NB532_516.out _).trans (((cell_far (p := ⟨gb516, _, none⟩) NB532_516.out _).trans (hHeld.2.1)))))), ((cell_far (p := ⟨gb516, _, none⟩) NB532_516.out _).trans (((cell_far (p := ⟨gb516, _, none⟩) NB532_516.out _).trans (((cell_far (p := ⟨gb516, _, none⟩) NB532_516.out _).trans (hHeld.2.2.1)))))), ((cell_far (p := ⟨gb516, _, none⟩) NB538_516.out _).trans (((cell_far (p := ⟨gb516, _, none⟩) NB538_516.out _).trans (((cell_far (p := ⟨gb516, _, none⟩) NB538_516.out _).trans (hHeld.2.2.2.1)))))), ((cell_far (p := ⟨gb516, _, none⟩) NB538_516.out _).trans (((cell_far (p := ⟨gb516, _, none⟩) NB538_516.out _).trans (((cell_far (p := ⟨gb516, _, none⟩) NB538_516.out _).trans (hHeld.2.2.2.2.1)))))), ((cell_far (p := ⟨gb516, _, none⟩) NB538_516.out _).trans (((cell_far (p := ⟨gb516, _, none⟩) NB538_516.out _).trans (((cell_far (p := ⟨gb516, _, none⟩) NB538_516.out _).trans (hHeld.2.2.2.2.2))))))⟩ (fun hHeld => ?_)
 clear hK K
 refine pu 9 4 (tf 10 1) ?_
 refine pu 10 5 (tf 11 0) ?_
 refine done_ (done_of HT_.out (by kernel_rfl)) ?_
 try go_wp2
 refine bodyPost_ret (results_list (rs := [.cell 2 45, .cell 3 47, .tmp 4, .tmp 5]) rfl (by simp) (.cell gb515 45 #[.slice Ao13 t521.length co13, .slice Ao18 t524.length co18, .slice Ao19 t527.length co19] (0, 0) _ rfl bq Try.underlying45 rfl (by kernel_rfl) (.cell gb516 47 #[.int .i64 t533, .int .i64 t534, .int .i64 t535] (0, 0) _ rfl bq Try.underlying47 rfl (by kernel_rfl) (.tmp (.tmp .nil))))) rfl ?_
 exact ⟨_, _, _, by first | rfl | (simp [errW_none, errW_some] <;> rfl) | (simp [*, errW_none, errW_some] <;> rfl), (by exact rm (rs2 HO523 BK515 BK516)), (by exact rm (rs2 HO526 BK515 BK516)), (by exact rm (rs2 HO529 BK515 BK516)), by repeat (first | (with_reducible first | exact HB.out | apply below_alloc | apply pw_below_drewN | apply below_drew1 | refine below_set ?_ (IsS88.ge HI520.out) | refine below_set ?_ GE515.out | refine below_set ?_ GE516.out | refine below_set ?_ GE532.out | refine below_set ?_ GE538.out) | exact HB.out)⟩

/-! ### impl_NextSeed: function 24 -/
def impl_NextSeed.f (a0 : Int) : Option (Int) := if (Int.tmod a0 10007) < 0 then (some (Int.tmod (wrap64 ((wrap64 ((wrap64 ((Int.tmod a0 10007) + 10007)) * 1103)) + 2345)) 10007)) else (some (Int.tmod (wrap64 ((wrap64 ((Int.tmod a0 10007) * 1103)) + 2345)) 10007))
set_option maxHeartbeats 8000000 in
set_option maxRecDepth 100000 in
theorem impl_NextSeed.calls (a0 : Int) (r : Int) (w : World) (h : impl_NextSeed.f a0 = some r) :
    Calls Try.prog 24 #[.int .i64 a0] w fun e w' => e = .returned (.int .i64 r) ∧ Drawn0 w w' := by
  have H : (if (Int.tmod a0 10007) < 0 then (some (Int.tmod (wrap64 ((wrap64 ((wrap64 ((Int.tmod a0 10007) + 10007)) * 1103)) + 2345)) 10007)) else (some (Int.tmod (wrap64 ((wrap64 ((Int.tmod a0 10007) * 1103)) + 2345)) 10007))) = some r := h
  clear h
  by_cases c2 : (Int.tmod a0 10007) < 0
  · rw [if_pos c2] at H
    have c2b0 : decide ((Int.tmod a0 10007) < 0) = true := decide_eq_true c2
    clear c2
    obtain rfl := Option.some.inj H
    go_enter Try.func24, Try.ntmps24
    go_wp2
    go_ret
    exact ⟨by first | rfl | (simp; done) | (simp [*]; done), by repeat (first | exact Drawn0.refl _ | apply Drawn0.step)⟩
  · rw [if_neg c2] at H
    have c2b0 : decide ((Int.tmod a0 10007) < 0) = false := decide_eq_false c2
    clear c2
    obtain rfl := Option.some.inj H
    go_enter Try.func24, Try.ntmps24
    go_wp2
    go_ret
    exact ⟨by first | rfl | (simp; done) | (simp [*]; done), by repeat (first | exact Drawn0.refl _ | apply Drawn0.step)⟩

/-! ### impl_within: function 66 -/
/-- The predicate of within, as the machine's closure gives it. -/
theorem impl_within.pred (B1 B2 : Nat) (lo hi x : Int) (W : World) (h1 : W.cell? ⟨B1, 0, none⟩ = some (.int .i64 lo)) (h2 : W.cell? ⟨B2, 0, none⟩ = some (.int .i64 hi)) :
    Calls Try.prog 79 #[.int .i64 x, .pointer (some ⟨B1, 0, none⟩), .pointer (some ⟨B2, 0, none⟩)] W fun e w' => e = .returned (.bool (decide (x < lo) || decide (hi < x))) ∧ W = w' := by
  by_cases c1 : x < lo
  · have c : decide (x < lo) = true := decide_eq_true c1
    go_enter Try.func79, Try.ntmps79
    go_wp2
    go_ret
    exact ⟨by simp [c1], rfl⟩
  · have c : decide (x < lo) = false := decide_eq_false c1
    by_cases c2 : hi < x
    · have d : decide (hi < x) = true := decide_eq_true c2
      go_enter Try.func79, Try.ntmps79
      go_wp2
      go_ret
      exact ⟨by simp [c1, c2], rfl⟩
    · have d : decide (hi < x) = false := decide_eq_false c2
      go_enter Try.func79, Try.ntmps79
      go_wp2
      go_ret
      exact ⟨by simp [c1, c2], rfl⟩
set_option maxHeartbeats 2000000 in
set_option maxRecDepth 100000 in
theorem impl_within.idx (A0 : Option Addr) (c0 : Nat) (l0 : List Int) (B1 B2 : Nat) (lo hi : Int) (w : World) (hr0 : Kd.C (Kd.int .i64) w A0 l0.length l0) (h1 : w.cell? ⟨B1, 0, none⟩ = some (.int .i64 lo)) (h2 : w.cell? ⟨B2, 0, none⟩ = some (.int .i64 hi)) :
    Calls Try.prog 99 #[.slice A0 l0.length c0, .func (.func 79) #[] #[.pointer (some ⟨B1, 0, none⟩), .pointer (some ⟨B2, 0, none⟩)]] w fun e w' => e = .returned (.int .i64 (Giv.fidx (fun x => decide (x < lo) || decide (hi < x)) l0)) ∧ Drawn0 w w' := by
  have eg := Go.Proofs.enters_of Try.func79 (by kernel_rfl) rfl
  have hn : l0.length ≤ 9223372036854775807 := hr0.2.1
  have HR := Aside0.mk hr0
  clear hr0
  have C1 := Aside0.mk h1
  have C2 := Aside0.mk h2
  clear h1 h2
  go_enter Try.func99, Try.ntmps99
  go_wp2
  go_loopg [5, 8] l0.length (fun gg _ s8 wr => ∃ kk q : Nat, kk ≤ l0.length ∧ l0.length - kk ≤ gg ∧ s8 = .int .i64 kk ∧ wr = w.drewN q ∧ Aside0 (∀ j x, j < kk → l0[j]? = some x → (decide (x < lo) || decide (hi < x)) = false))
  case atStart => exact ⟨0, 0, Nat.zero_le _, by omega, rfl, rfl, ⟨fun j x hj => absurd hj (Nat.not_lt_zero _)⟩⟩
  case round =>
    obtain ⟨kk, q, hkk, hg, rfl, rfl, AH⟩ := hrel
    by_cases hlt : kk < l0.length
    · have hltz : (kk : Int) < (l0.length : Int) := by omega
      obtain ⟨ad, e, hcell⟩ := Kd.at_int HR.out (kk : Int) (by omega) (by omega)
      subst e
      obtain ⟨y, hy⟩ : ∃ y, l0[kk]? = some y := ⟨_, List.getElem?_eq_getElem hlt⟩
      have hy2 : rd l0 (kk : Int) = y := by unfold rd; rw [List.getD_eq_getElem?_getD, Int.toNat_natCast, hy]; rfl
      rw [hy2, Int.toNat_natCast] at hcell
      have HY := Aside0.mk hy
      clear hy hy2
      have hcall := fun W a b => impl_within.pred B1 B2 lo hi y W a b
      cases hq : (decide (y < lo) || decide (hi < y)) with
      | true =>
        rw [hq] at hcall
        have HQ := Aside0.mk hq
        clear hq
        go_wp2_with fail
        refine (hcall _ (by simpa using C1.out) (by simpa using C2.out)).mono ?_
        rintro e w' ⟨rfl, rfl⟩
        go_wp2_with fail
        go_ret
        refine ⟨?_, ⟨_, rfl⟩⟩
        rw [Giv.fidx_hit HY.out HQ.out AH.out]
        rfl
      | false =>
        rw [hq] at hcall
        have HQ := Aside0.mk hq
        clear hq
        go_wp2_with fail
        refine (hcall _ (by simpa using C1.out) (by simpa using C2.out)).mono ?_
        rintro e w' ⟨rfl, rfl⟩
        go_wp2_with fail
        go_roundg (l0.length - (kk + 1))
        case measure => omega
        case rel =>
          refine ⟨kk + 1, _, by omega, by omega, by go_num, rfl, ⟨fun j x hj hx => ?_⟩⟩
          by_cases e : j = kk
          · subst e
            rw [HY.out] at hx
            obtain rfl := Option.some.inj hx
            exact HQ.out
          · exact AH.out j x (by omega) hx
    · have hltz : ¬ (kk : Int) < (l0.length : Int) := by omega
      have hkn := Aside0.mk (show kk = l0.length by omega)
      go_wp2
      go_ret
      refine ⟨?_, ⟨_, rfl⟩⟩
      have hm := AH.out
      rw [hkn.out] at hm
      rw [Giv.fidx_miss hm]
      rfl
set_option maxHeartbeats 2000000 in
set_option maxRecDepth 100000 in
theorem impl_within.has (A0 : Option Addr) (c0 : Nat) (l0 : List Int) (B1 B2 : Nat) (lo hi : Int) (w : World) (hr0 : Kd.C (Kd.int .i64) w A0 l0.length l0) (h1 : w.cell? ⟨B1, 0, none⟩ = some (.int .i64 lo)) (h2 : w.cell? ⟨B2, 0, none⟩ = some (.int .i64 hi)) :
    Calls Try.prog 78 #[.slice A0 l0.length c0, .func (.func 79) #[] #[.pointer (some ⟨B1, 0, none⟩), .pointer (some ⟨B2, 0, none⟩)]] w fun e w' => e = .returned (.bool (l0.any fun x => decide (x < lo) || decide (hi < x))) ∧ Drawn0 w w' := by
  have hcall := impl_within.idx A0 c0 l0 B1 B2 lo hi w hr0 h1 h2
  have HA := Aside0.mk (Giv.fidx_any (fun x => decide (x < lo) || decide (hi < x)) l0)
  generalize Giv.fidx (fun x => decide (x < lo) || decide (hi < x)) l0 = y at hcall HA
  clear hr0 h1 h2
  go_enter Try.func78, Try.ntmps78
  go_wp2_with (go_at_call 99; refine hcall.mono ?_; rintro e w' ⟨rfl, hd⟩)
  go_ret
  exact ⟨by rw [← HA.out]; rfl, hd⟩
def impl_within.f (l0 : List Int) (a1 : Int) (a2 : Int) : Option (Bool) := some (!(l0.any fun x => decide (x < a1) || decide (a2 < x)))
set_option maxHeartbeats 8000000 in
set_option maxRecDepth 100000 in
theorem impl_within.calls (A0 : Option Addr) (c0 : Nat) (l0 : List Int) (a1 : Int) (a2 : Int) (r : Bool) (w : World) (hr0 : Kd.C (Kd.int .i64) w A0 l0.length l0) (hc0 : l0.length ≤ c0) (h : impl_within.f l0 a1 a2 = some r) :
    Calls Try.prog 66 #[.slice A0 l0.length c0, .int .i64 a1, .int .i64 a2] w fun e w' => e = .returned (.bool r) ∧ Below w.heap.size w w' := by
  unfold impl_within.f at h
  obtain rfl := Option.some.inj h
  clear h
  have hcall := fun (W : World) hr a b => impl_within.has A0 c0 l0 w.heap.size (w.heap.size + 1) a1 a2 W hr a b
  have HR := Aside0.mk hr0
  clear hr0
  go_enter Try.func66, Try.ntmps66
  go_wp2_with (go_at_call 78; refine (hcall _ (by repeat (first | exact HR.out | (refine Kd.C_alloc ?_ _) | (refine Kd.C_drew ?_))) (by simp) (by simp)).mono ?_; rintro e w' ⟨rfl, hd⟩)
  go_ret
  exact ⟨rfl, below_then (((Below.refl _ _).alloc (Nat.le_refl _) _).alloc (by simp) _) (by simp; omega) hd.below⟩


/-! ### impl_AreValues: function 60 -/
def impl_AreValues.f (l0 : List Int) : Option (Bool) := if (l0.length : Int) ≤ 64 then ((impl_within.f l0 (-999) 999).bind fun t548 => (some t548)) else (some false)
set_option maxHeartbeats 8000000 in
set_option maxRecDepth 100000 in
theorem impl_AreValues.calls (A0 : Option Addr) (c0 : Nat) (l0 : List Int) (r : Bool) (w : World) (hr0 : Kd.C (Kd.int .i64) w A0 l0.length l0) (hc0 : l0.length ≤ c0) (h : impl_AreValues.f l0 = some r) :
    Calls Try.prog 60 #[.slice A0 l0.length c0] w fun e w' => e = .returned (.bool r) ∧ Below w.heap.size w w' := by
  have HR0 := Aside0.mk hr0
  have HC0 := Aside0.mk hc0
  clear hr0 hc0
  have HB := Aside0.mk (Below.refl w.heap.size w)
  have H : (if (l0.length : Int) ≤ 64 then ((impl_within.f l0 (-999) 999).bind fun t548 => (some t548)) else (some false)) = some r := h
  clear h
  by_cases c2 : (l0.length : Int) ≤ 64
  · rw [if_pos c2] at H
    have c2b0 : decide ((l0.length : Int) ≤ 64) = true := decide_eq_true c2
    have c2b1 : decide (l0.length ≤ 64) = true := decide_eq_true (by omega)
    clear c2
    revert H; refine bo ?_; rintro t548 A3 H
    obtain rfl := Option.some.inj H
    go_enter Try.func60, Try.ntmps60
    go_wp2_with (first | (go_at_call 66; (with_reducible refine (impl_within.calls _ _ l0 (-999) 999 t548 _ ?side1 ?side2 A3.out).mono ?_); (case side1 => exact uc HR0.out); (case side2 => exact HC0.out); rintro e w4 ⟨rfl, hb⟩; replace HB := wh hb; (try clear hb); (try clear hb2); (try clear hk); (try clear hi)))
    go_ret
    exact ⟨by first | rfl | (simp [errW_none, errW_some] <;> rfl) | (simp [*, errW_none, errW_some] <;> rfl), bl⟩
  · rw [if_neg c2] at H
    have c2b0 : decide ((l0.length : Int) ≤ 64) = false := decide_eq_false c2
    have c2b1 : decide (l0.length ≤ 64) = false := decide_eq_false (by omega)
    clear c2
    obtain rfl := Option.some.inj H
    go_enter Try.func60, Try.ntmps60
    go_wp2
    go_ret
    exact ⟨by first | rfl | (simp [errW_none, errW_some] <;> rfl) | (simp [*, errW_none, errW_some] <;> rfl), bl⟩

/-! ### slices_Index_int_int: function 80 -/
def slices_Index_int_int.l0 : Nat → List Int → Int → Int → Int → Option (Int)
  | 0, _, _, _, _ => none
  | k + 1, x0, x1, x7, x8 => if x8 < x7 then (if 0 ≤ x8 then (if x8 < (x0.length : Int) then (if x1 = (rd x0 x8) then (some x8) else (slices_Index_int_int.l0 k x0 x1 x7 (wrap64 (x8 + 1)))) else (none)) else (none)) else (some (-1))
def slices_Index_int_int.f (k : Nat) (l0 : List Int) (a1 : Int) : Option (Int) := slices_Index_int_int.l0 k l0 a1 (l0.length : Int) 0
theorem slices_Index_int_int.mono_l : ∀ k, (∀ y0 y1 y2 y3, LeO (slices_Index_int_int.l0 k y0 y1 y2 y3) (slices_Index_int_int.l0 (k + 1) y0 y1 y2 y3))
  | 0 => fun _ _ _ _ r h => by simp [slices_Index_int_int.l0] at h
  | k + 1 => by
    have ih0 := slices_Index_int_int.mono_l k
    · intro y0 y1 y2 y3
      unfold slices_Index_int_int.l0
      exact mo
theorem slices_Index_int_int.mono : ∀ a0 a1 k, LeO (slices_Index_int_int.f k a0 a1) (slices_Index_int_int.f (k + 1) a0 a1) := by
  intro a0 a1 k
  have ih0 := slices_Index_int_int.mono_l k
  unfold slices_Index_int_int.f
  exact mo
instance slices_Index_int_int.mi (a0 a1 k) : LeC (slices_Index_int_int.f k a0 a1) (slices_Index_int_int.f (k + 1) a0 a1) := ⟨slices_Index_int_int.mono a0 a1 k⟩
set_option maxHeartbeats 8000000 in
set_option maxRecDepth 100000 in
theorem slices_Index_int_int.calls (k : Nat) (A0 : Option Addr) (c0 : Nat) (l0 : List Int) (a1 : Int) (r : Int) (w : World) (hr0 : Kd.C (Kd.int .i64) w A0 l0.length l0) (hc0 : l0.length ≤ c0) (h : slices_Index_int_int.f k l0 a1 = some r) :
    Calls Try.prog 80 #[.slice A0 l0.length c0, .int .i64 a1] w fun e w' => e = .returned (.int .i64 r) ∧ Drawn0 w w' := by
  have HR0 := Aside0.mk hr0
  have HC0 := Aside0.mk hc0
  clear hr0 hc0
  have H : (slices_Index_int_int.l0 k l0 a1 (l0.length : Int) 0) = some r := h
  clear h
  have H' := Aside0.mk H
  clear H
  go_enter Try.func80, Try.ntmps80
  go_wp2
  go_loopg [8] k (fun kq v8 w' => ∃ (x8_1 : Int), v8 = .int .i64 x8_1 ∧ Aside0 (slices_Index_int_int.l0 kq l0 a1 (l0.length : Int) x8_1 = some r) ∧ Aside0 (kq ≤ k) ∧ Drawn0 w w')
  case atStart => exact ⟨(0), (by first | rfl | (simp; done) | (simp [*]; done)), H', ⟨Nat.le_refl _⟩, by repeat (first | exact Drawn0.refl _ | apply Drawn0.step)⟩
  case round =>
    clear H'
    try clear p2
    obtain ⟨x8_1, rfl, HA, HK1, ⟨m1, rfl⟩⟩ := hrel
    cases gk with
    | zero => exact absurd HA.out (by simp [slices_Index_int_int.l0])
    | succ k1 =>
      have H := HA.out
      clear HA
      simp only [slices_Index_int_int.l0] at H
      by_cases c3 : x8_1 < (l0.length : Int)
      · rw [if_pos c3] at H
        have c3b0 : decide (x8_1 < (l0.length : Int)) = true := decide_eq_true c3
        clear c3
        by_cases c4 : 0 ≤ x8_1
        · rw [if_pos c4] at H
          have c4b0 : decide (0 ≤ x8_1) = true := decide_eq_true c4
          clear c4
          by_cases c5 : x8_1 < (l0.length : Int)
          · rw [if_pos c5] at H
            have c5b0 : decide (x8_1 < (l0.length : Int)) = true := decide_eq_true c5
            clear c5
            by_cases c6 : a1 = (rd l0 x8_1)
            · rw [if_pos c6] at H
              have c6b0 : (a1 == (rd l0 x8_1)) = true := beq_iff_eq.mpr c6
              have c6b1 : (a1 != (rd l0 x8_1)) = false := bne_eq_false_iff_eq.mpr c6
              clear c6
              obtain rfl := Option.some.inj H
              have p549 : 0 ≤ (x8_1 : Int) := of_decide_eq_true (by first | (with_reducible assumption) | assumption)
              have q549 : x8_1 < (l0.length : Int) := of_decide_eq_true (by first | (with_reducible assumption) | assumption)
              obtain ⟨ad549, e549, hx549_0⟩ := Kd.at_int HR0.out x8_1 p549 q549
              cases e549
              replace p549 := eq_true p549
              replace q549 := eq_true q549
              go_wp2
              go_ret
              exact ⟨by first | rfl | (simp; done) | (simp [*]; done), by repeat (first | exact Drawn0.refl _ | apply Drawn0.step)⟩
            · rw [if_neg c6] at H
              have c6b0 : (a1 == (rd l0 x8_1)) = false := beq_eq_false_iff_ne.mpr c6
              have c6b1 : (a1 != (rd l0 x8_1)) = true := bne_iff_ne.mpr c6
              have H' := Aside0.mk H
              clear H
              have p549 : 0 ≤ (x8_1 : Int) := of_decide_eq_true (by first | (with_reducible assumption) | assumption)
              have q549 : x8_1 < (l0.length : Int) := of_decide_eq_true (by first | (with_reducible assumption) | assumption)
              obtain ⟨ad549, e549, hx549_0⟩ := Kd.at_int HR0.out x8_1 p549 q549
              cases e549
              replace p549 := eq_true p549
              replace q549 := eq_true q549
              go_wp2
              go_roundg k1
              case measure => have := HK1.out; omega
              case rel => exact ⟨(wrap64 (x8_1 + 1)), (by first | rfl | (simp; done) | (simp [*]; done)), H', ⟨by have := HK1.out; omega⟩, by repeat (first | exact Drawn0.refl _ | apply Drawn0.step)⟩
          · rw [if_neg c5] at H
            exact absurd H (by simp)
        · rw [if_neg c4] at H
          exact absurd H (by simp)
      · rw [if_neg c3] at H
        have c3b0 : decide (x8_1 < (l0.length : Int)) = false := decide_eq_false c3
        clear c3
        obtain rfl := Option.some.inj H
        go_wp2
        go_ret
        exact ⟨by first | rfl | (simp; done) | (simp [*]; done), by repeat (first | exact Drawn0.refl _ | apply Drawn0.step)⟩

/-! ### slices_Contains_int_int: function 67 -/
def slices_Contains_int_int.f (k : Nat) (l0 : List Int) (a1 : Int) : Option (Bool) := (slices_Index_int_int.f k l0 a1).bind fun t550 => (some (decide (t550 ≥ 0)))
theorem slices_Contains_int_int.mono : ∀ a0 a1 k, LeO (slices_Contains_int_int.f k a0 a1) (slices_Contains_int_int.f (k + 1) a0 a1) := by
  intro a0 a1 k
  unfold slices_Contains_int_int.f
  exact mo
instance slices_Contains_int_int.mi (a0 a1 k) : LeC (slices_Contains_int_int.f k a0 a1) (slices_Contains_int_int.f (k + 1) a0 a1) := ⟨slices_Contains_int_int.mono a0 a1 k⟩
set_option maxHeartbeats 8000000 in
set_option maxRecDepth 100000 in
theorem slices_Contains_int_int.calls (k : Nat) (A0 : Option Addr) (c0 : Nat) (l0 : List Int) (a1 : Int) (r : Bool) (w : World) (hr0 : Kd.C (Kd.int .i64) w A0 l0.length l0) (hc0 : l0.length ≤ c0) (h : slices_Contains_int_int.f k l0 a1 = some r) :
    Calls Try.prog 67 #[.slice A0 l0.length c0, .int .i64 a1] w fun e w' => e = .returned (.bool r) ∧ Drawn0 w w' := by
  have HR0 := Aside0.mk hr0
  have HC0 := Aside0.mk hc0
  clear hr0 hc0
  have H : ((slices_Index_int_int.f k l0 a1).bind fun t550 => (some (decide (t550 ≥ 0)))) = some r := h
  clear h
  revert H; refine bo ?_; rintro t550 A3 H
  obtain rfl := Option.some.inj H
  go_enter Try.func67, Try.ntmps67
  go_wp2_with (first | ((with_reducible refine gate_callee (f := 80) rfl ?_); refine gl (some 7) rfl Try.func80 #[.slice A0 l0.length c0, .int .i64 a1] ?_; (with_reducible refine (slices_Index_int_int.calls k _ _ l0 a1 t550 _ ?side1 ?side2 A3.out).mono ?_); (case side1 => exact uc HR0.out); (case side2 => exact HC0.out); rintro e w' ⟨rfl, ⟨nd, rfl⟩⟩; refine ⟨_, rfl, ?_⟩))
  go_ret
  exact ⟨by first | rfl | (simp; done) | (simp [*]; done), by repeat (first | exact Drawn0.refl _ | apply Drawn0.step)⟩

/-! ### impl_bound: function 68 -/
def impl_bound.f (a0 : Int) : Option (Bool) := if a0 ≥ (-1000) then (some (decide (a0 ≤ 1000))) else (some false)
set_option maxHeartbeats 8000000 in
set_option maxRecDepth 100000 in
theorem impl_bound.calls (a0 : Int) (r : Bool) (w : World) (h : impl_bound.f a0 = some r) :
    Calls Try.prog 68 #[.int .i64 a0] w fun e w' => e = .returned (.bool r) ∧ Drawn0 w w' := by
  have H : (if a0 ≥ (-1000) then (some (decide (a0 ≤ 1000))) else (some false)) = some r := h
  clear h
  by_cases c2 : a0 ≥ (-1000)
  · rw [if_pos c2] at H
    have c2b0 : decide ((-1000) ≤ a0) = true := decide_eq_true c2
    clear c2
    obtain rfl := Option.some.inj H
    go_enter Try.func68, Try.ntmps68
    go_wp2
    go_ret
    exact ⟨by first | rfl | (simp; done) | (simp [*]; done), by repeat (first | exact Drawn0.refl _ | apply Drawn0.step)⟩
  · rw [if_neg c2] at H
    have c2b0 : decide ((-1000) ≤ a0) = false := decide_eq_false c2
    clear c2
    obtain rfl := Option.some.inj H
    go_enter Try.func68, Try.ntmps68
    go_wp2
    go_ret
    exact ⟨by first | rfl | (simp; done) | (simp [*]; done), by repeat (first | exact Drawn0.refl _ | apply Drawn0.step)⟩

end Go.Proofs.Ytlikcmonejefoac.PFnMedians
