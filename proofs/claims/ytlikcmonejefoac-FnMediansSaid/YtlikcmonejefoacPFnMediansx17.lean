-- printed by a program of this session, a turned copy of the print of the kit
import Derived.Test.YtlikcmonejefoacSq
import Derived.Test.YtlikcmonejefoacPFnMediansx0
import Derived.Test.YtlikcmonejefoacPFnMediansx1
import Derived.Test.YtlikcmonejefoacPFnMediansx2
import Derived.Test.YtlikcmonejefoacPFnMediansx3
import Derived.Test.YtlikcmonejefoacPFnMediansx13
import Derived.Test.YtlikcmonejefoacPFnMediansx15
import Derived.Test.YtlikcmonejefoacPFnMediansx16
namespace Go.Proofs.Ytlikcmonejefoac.PFnMedians
open Go.RowKit Go.Proofs.YtlikcmonejefoacW.PrintWords Go.Proofs.YtlikcmonejefoacW.PrintLast Go.Proofs.YtlikcmonejefoacW.PrintMore Go.Proofs.Ytlikcmonejefoac.Sq
attribute [local go_sem] max2_int min2_int max_two min_two max_three min_three max_four min_four Giv.cell_twice   -- for this text's walks alone
set_option linter.unusedVariables false
set_option linter.unusedSimpArgs false

attribute [local go_sem high] eqA47
/-! ### spec_DrawLevels: function 22 -/
def spec_DrawLevels.f (k : Nat) (l0 : List Int) : Option (Int × Int) := (spec_l1New.f k l0).bind fun bt587 => ((spec_l1PickInt.f bt587.1 bt587.2.1 bt587.2.2 (([(-1), 0, 1, 7, 64, 1000, 9223372036854775807] : List Int))).bind fun bt594 => ((spec_l1PickInt.f bt587.1 bt594.2.1 bt594.2.2 (([(-1), 0, 1, 3, 64] : List Int))).bind fun bt600 => (some (bt594.1, bt600.1))))
theorem spec_DrawLevels.mono : ∀ a0 k, LeO (spec_DrawLevels.f k a0) (spec_DrawLevels.f (k + 1) a0) := by
  intro a0 k
  unfold spec_DrawLevels.f
  exact mo
instance spec_DrawLevels.mi (a0 k) : LeC (spec_DrawLevels.f k a0) (spec_DrawLevels.f (k + 1) a0) := ⟨spec_DrawLevels.mono a0 k⟩
set_option maxHeartbeats 8000000 in
set_option maxRecDepth 100000 in
theorem spec_DrawLevels.calls (k : Nat) (A0 : Option Addr) (c0 : Nat) (l0 : List Int) (r1 : Int) (r2 : Int) (w : World) (hr0 : Kd.C (Kd.int .u8) w A0 l0.length l0) (hc0 : l0.length ≤ c0) (h : spec_DrawLevels.f k l0 = some (r1, r2)) :
    Calls Try.prog 22 #[.slice A0 l0.length c0] w fun e w' => e = .returned (.tuple #[.int .i64 r1, .int .i64 r2]) ∧ Below w.heap.size w w' := by
  have HR0 := Aside0.mk hr0
  have HC0 := Aside0.mk hc0
  clear hr0 hc0
  have HB := Aside0.mk (Below.refl w.heap.size w)
  have H : ((spec_l1New.f k l0).bind fun bt587 => ((spec_l1PickInt.f bt587.1 bt587.2.1 bt587.2.2 (([(-1), 0, 1, 7, 64, 1000, 9223372036854775807] : List Int))).bind fun bt594 => ((spec_l1PickInt.f bt587.1 bt594.2.1 bt594.2.2 (([(-1), 0, 1, 3, 64] : List Int))).bind fun bt600 => (some (bt594.1, bt600.1))))) = some (r1, r2) := h
  clear h
  revert H; refine bo ?_; rintro ⟨t587, t588, t589⟩ A2 H
  dsimp only at H
  obtain ⟨y591, hy591⟩ : ∃ y_ : List Int, y_ = (([(-1), 0, 1, 7, 64, 1000, 9223372036854775807] : List Int)) := ⟨_, rfl⟩
  replace H : ((spec_l1PickInt.f t587 t588 t589 y591).bind fun bt594 => ((spec_l1PickInt.f t587 bt594.2.1 bt594.2.2 (([(-1), 0, 1, 3, 64] : List Int))).bind fun bt600 => (some (bt594.1, bt600.1)))) = some (r1, r2) := by first | (rw [hy591]; with_reducible exact H) | (have H2_ := (Option.bind_some _ _).symm.trans H; rw [hy591]; with_reducible exact H2_) | (have H2_ := (Option.bind_some _ _).symm.trans H; with_reducible exact H2_) | with_reducible exact H | (rw [hy591]; exact H) | exact H
  have Ny591 := Aside0.mk hy591
  clear hy591
  revert H; refine bo ?_; rintro ⟨t594, t595, t596⟩ A3 H
  dsimp only at H
  obtain ⟨y597, hy597⟩ : ∃ y_ : List Int, y_ = (([(-1), 0, 1, 3, 64] : List Int)) := ⟨_, rfl⟩
  replace H : ((spec_l1PickInt.f t587 t595 t596 y597).bind fun bt600 => (some (t594, bt600.1))) = some (r1, r2) := by first | (rw [hy597]; with_reducible exact H) | (have H2_ := (Option.bind_some _ _).symm.trans H; rw [hy597]; with_reducible exact H2_) | (have H2_ := (Option.bind_some _ _).symm.trans H; with_reducible exact H2_) | with_reducible exact H | (rw [hy597]; exact H) | exact H
  have Ny597 := Aside0.mk hy597
  clear hy597
  revert H; refine bo ?_; rintro ⟨t600, t601, t602⟩ A4 H
  dsimp only at H
  simp only [Option.some.injEq, Prod.mk.injEq] at H
  obtain ⟨rfl, rfl⟩ := H
  go_enter Try.func22, Try.ntmps22
  go_wp2_with (first | ((with_reducible refine gate_callee (f := 41) rfl ?_); refine gl (some 7) rfl Try.func41 #[.slice A0 l0.length c0] ?_; (with_reducible refine (spec_l1New.calls k _ _ l0 t587 t588 t589 w _ ?side1 ?side2 ?side3 A2.out).mono ?_); (case side1 => repeat (first | (with_reducible first | exact HB.out | apply below_alloc | apply pw_below_drewN | apply below_drew1) | exact HB.out)); (case side2 => exact HR0.out); (case side3 => exact HC0.out); rintro e w5 ⟨g590, rfl, hi, hb, hb2⟩; refine ⟨_, rfl, ?_⟩; replace HB := mk hb; have HI590 := mk hi; (try clear hb); (try clear hb2); (try clear hk); (try clear hi)) | ((with_reducible refine gate_dst (N := 9) rfl ?_); refine Kd.R_lit (Kd.int .i64) _ 3 ?hg (N := 9) ?hd (xs := ([(-1), 0, 1, 7, 64, 1000, 9223372036854775807] : List Int)) (inner := [.int .i64 (-1), .int .i64 0, .int .i64 1, .int .i64 7, .int .i64 64, .int .i64 1000, .int .i64 9223372036854775807]) (ok := fun _ => True) (okp := fun _ => True) ?hr ?hp (fun _ hk => hk) trivial (Below.refl _ _) (Nat.le_refl _) (by simp) ?_; (case hd => rfl); (case hg => rfl); (case hr => first | (go_simp; done) | (go_simp; rfl)); (case hp => exact (Reps.one (show Kd.M (Kd.int .i64) _ _ _ (-1) [.int .i64 (-1)] from rfl) (Reps.one (show Kd.M (Kd.int .i64) _ _ _ 0 [.int .i64 0] from rfl) (Reps.one (show Kd.M (Kd.int .i64) _ _ _ 1 [.int .i64 1] from rfl) (Reps.one (show Kd.M (Kd.int .i64) _ _ _ 7 [.int .i64 7] from rfl) (Reps.one (show Kd.M (Kd.int .i64) _ _ _ 64 [.int .i64 64] from rfl) (Reps.one (show Kd.M (Kd.int .i64) _ _ _ 1000 [.int .i64 1000] from rfl) (Reps.one (show Kd.M (Kd.int .i64) _ _ _ 9223372036854775807 [.int .i64 9223372036854775807] from rfl) (Reps.none _ _))))))))); intro v592 w6 ho7 hb hg_ hnew_; clear hg_ hnew_; (first | rw [← Ny591.out] at ho7 | (simp only [Int.reduceToNat] at ho7; rw [← Ny591.out] at ho7)); have HO593 := mk (Kd.R_lower ho7 (below_size (by repeat (first | (with_reducible first | exact HB.out | apply below_alloc | apply pw_below_drewN | apply below_drew1 | refine below_set ?_ (IsS88.ge HI590.out)) | exact HB.out)))); replace HB := mk (below_step (by repeat (first | (with_reducible first | exact HB.out | apply below_alloc | apply pw_below_drewN | apply below_drew1 | refine below_set ?_ (IsS88.ge HI590.out)) | exact HB.out)) hb); replace HI590 := mk (IsS88.below (by repeat (first | (with_reducible first | exact HI590.out | apply IsS88.alloc | apply IsS88.drewN | apply IsS88.drew | apply IsS88.set_1 | apply IsS88.set_2) | exact HI590.out)) hb); clear hb ho7; obtain ⟨Ao8, co8, eo8⟩ := Kd.R_slice HO593.out; subst eo8) | ((with_reducible refine gate_callee (f := 49) rfl ?_); refine gl (some 10) rfl Try.func49 #[.pointer (some ⟨g590, 0, none⟩), .slice Ao8 y591.length co8] ?_; (with_reducible refine (spec_l1PickInt.calls g590 t587 t588 t589 _ _ y591 t594 t595 t596 w _ ?side1 ?side2 ?side3 ?side4 ?side5 A3.out).mono ?_); (case side1 => repeat (first | (with_reducible first | exact HI590.out | apply IsS88.alloc | apply IsS88.drewN | apply IsS88.drew | apply IsS88.set_1 | apply IsS88.set_2) | exact HI590.out)); (case side2 => repeat (first | (with_reducible first | exact HB.out | apply below_alloc | apply pw_below_drewN | apply below_drew1 | refine below_set ?_ (IsS88.ge HI590.out)) | exact HB.out)); (case side3 => exact uc (Kd.R_reads' HO593.out).2.2); (case side4 => exact (Kd.R_reads' HO593.out).2.1); (case side5 => exact far_slice (IsS88.own_ne HI590.out HO593.out (by decide))); rintro e w9 ⟨rfl, hi, hb, hk⟩; refine ⟨_, rfl, ?_⟩; replace HO593 := mk (Kd.R_mono (Kd.R_keep (IsS88.apart (show IsS88 w _ g590 t587 t588 t589 from by repeat (first | (with_reducible first | exact HI590.out | apply IsS88.alloc | apply IsS88.drewN | apply IsS88.drew | apply IsS88.set_1 | apply IsS88.set_2) | exact HI590.out)) (up HO593.out) (by decide)) hk (fun _ h => h.2)) (fun _ h => h.1)); replace HB := mk hb; replace HI590 := mk hi; (try clear hb); (try clear hb2); (try clear hk); (try clear hi)) | ((with_reducible refine gate_dst (N := 13) rfl ?_); refine Kd.R_lit (Kd.int .i64) _ 3 ?hg (N := 13) ?hd (xs := ([(-1), 0, 1, 3, 64] : List Int)) (inner := [.int .i64 (-1), .int .i64 0, .int .i64 1, .int .i64 3, .int .i64 64]) (ok := fun _ => True) (okp := fun _ => True) ?hr ?hp (fun _ hk => hk) trivial (Below.refl _ _) (Nat.le_refl _) (by simp) ?_; (case hd => rfl); (case hg => rfl); (case hr => first | (go_simp; done) | (go_simp; rfl)); (case hp => exact (Reps.one (show Kd.M (Kd.int .i64) _ _ _ (-1) [.int .i64 (-1)] from rfl) (Reps.one (show Kd.M (Kd.int .i64) _ _ _ 0 [.int .i64 0] from rfl) (Reps.one (show Kd.M (Kd.int .i64) _ _ _ 1 [.int .i64 1] from rfl) (Reps.one (show Kd.M (Kd.int .i64) _ _ _ 3 [.int .i64 3] from rfl) (Reps.one (show Kd.M (Kd.int .i64) _ _ _ 64 [.int .i64 64] from rfl) (Reps.none _ _))))))); intro v598 w10 ho11 hb hg_ hnew_; clear hg_ hnew_; (first | rw [← Ny597.out] at ho11 | (simp only [Int.reduceToNat] at ho11; rw [← Ny597.out] at ho11)); have HO599 := mk (Kd.R_lower (Kd.R_new' ho11 (Kd.R_lt (up HO593.out))) (below_size (by repeat (first | (with_reducible first | exact HB.out | apply below_alloc | apply pw_below_drewN | apply below_drew1 | refine below_set ?_ (IsS88.ge HI590.out)) | exact HB.out)))); replace HO593 := mk (Kd.R_elder' (up HO593.out) (Kd.R_base ho11) hb); replace HB := mk (below_step (by repeat (first | (with_reducible first | exact HB.out | apply below_alloc | apply pw_below_drewN | apply below_drew1 | refine below_set ?_ (IsS88.ge HI590.out)) | exact HB.out)) hb); replace HI590 := mk (IsS88.below (by repeat (first | (with_reducible first | exact HI590.out | apply IsS88.alloc | apply IsS88.drewN | apply IsS88.drew | apply IsS88.set_1 | apply IsS88.set_2) | exact HI590.out)) hb); clear hb ho11; obtain ⟨Ao12, co12, eo12⟩ := Kd.R_slice HO599.out; subst eo12) | ((with_reducible refine gate_callee (f := 49) rfl ?_); refine gl (some 14) rfl Try.func49 #[.pointer (some ⟨g590, 0, none⟩), .slice Ao12 y597.length co12] ?_; (with_reducible refine (spec_l1PickInt.calls g590 t587 t595 t596 _ _ y597 t600 t601 t602 w _ ?side1 ?side2 ?side3 ?side4 ?side5 A4.out).mono ?_); (case side1 => repeat (first | (with_reducible first | exact HI590.out | apply IsS88.alloc | apply IsS88.drewN | apply IsS88.drew | apply IsS88.set_1 | apply IsS88.set_2) | exact HI590.out)); (case side2 => repeat (first | (with_reducible first | exact HB.out | apply below_alloc | apply pw_below_drewN | apply below_drew1 | refine below_set ?_ (IsS88.ge HI590.out)) | exact HB.out)); (case side3 => exact uc (Kd.R_reads' HO599.out).2.2); (case side4 => exact (Kd.R_reads' HO599.out).2.1); (case side5 => exact far_slice (IsS88.own_ne HI590.out HO599.out (by decide))); rintro e w13 ⟨rfl, hi, hb, hk⟩; refine ⟨_, rfl, ?_⟩; replace HO593 := mk (Kd.R_mono (Kd.R_keep (IsS88.apart (show IsS88 w _ g590 t587 t595 t596 from by repeat (first | (with_reducible first | exact HI590.out | apply IsS88.alloc | apply IsS88.drewN | apply IsS88.drew | apply IsS88.set_1 | apply IsS88.set_2) | exact HI590.out)) (up HO593.out) (by decide)) hk (fun _ h => h.2)) (fun _ h => h.1)); replace HO599 := mk (Kd.R_mono (Kd.R_keep (IsS88.apart (show IsS88 w _ g590 t587 t595 t596 from by repeat (first | (with_reducible first | exact HI590.out | apply IsS88.alloc | apply IsS88.drewN | apply IsS88.drew | apply IsS88.set_1 | apply IsS88.set_2) | exact HI590.out)) (up HO599.out) (by decide)) hk (fun _ h => h.2)) (fun _ h => h.1)); replace HB := mk hb; replace HI590 := mk hi; (try clear hb); (try clear hb2); (try clear hk); (try clear hi)))
  go_ret2
  exact ⟨by first | rfl | (simp [errW_none, errW_some] <;> rfl) | (simp [*, errW_none, errW_some] <;> rfl), by repeat (first | (with_reducible first | exact HB.out | apply below_alloc | apply pw_below_drewN | apply below_drew1 | refine below_set ?_ (IsS88.ge HI590.out)) | exact HB.out)⟩

/-! ### spec_DrawNextSeed: function 23 -/
def spec_DrawNextSeed.f (k : Nat) (l0 : List Int) : Option (Int) := (spec_l1New.f k l0).bind fun bt603 => ((spec_l1PickInt.f bt603.1 bt603.2.1 bt603.2.2 (([0, 1, 10006, 10007, (-1), 9223372036854775807, 55] : List Int))).bind fun bt610 => (some bt610.1))
theorem spec_DrawNextSeed.mono : ∀ a0 k, LeO (spec_DrawNextSeed.f k a0) (spec_DrawNextSeed.f (k + 1) a0) := by
  intro a0 k
  unfold spec_DrawNextSeed.f
  exact mo
instance spec_DrawNextSeed.mi (a0 k) : LeC (spec_DrawNextSeed.f k a0) (spec_DrawNextSeed.f (k + 1) a0) := ⟨spec_DrawNextSeed.mono a0 k⟩
set_option maxHeartbeats 8000000 in
set_option maxRecDepth 100000 in
theorem spec_DrawNextSeed.calls (k : Nat) (A0 : Option Addr) (c0 : Nat) (l0 : List Int) (r : Int) (w : World) (hr0 : Kd.C (Kd.int .u8) w A0 l0.length l0) (hc0 : l0.length ≤ c0) (h : spec_DrawNextSeed.f k l0 = some r) :
    Calls Try.prog 23 #[.slice A0 l0.length c0] w fun e w' => e = .returned (.int .i64 r) ∧ Below w.heap.size w w' := by
  have HR0 := Aside0.mk hr0
  have HC0 := Aside0.mk hc0
  clear hr0 hc0
  have HB := Aside0.mk (Below.refl w.heap.size w)
  have H : ((spec_l1New.f k l0).bind fun bt603 => ((spec_l1PickInt.f bt603.1 bt603.2.1 bt603.2.2 (([0, 1, 10006, 10007, (-1), 9223372036854775807, 55] : List Int))).bind fun bt610 => (some bt610.1))) = some r := h
  clear h
  revert H; refine bo ?_; rintro ⟨t603, t604, t605⟩ A2 H
  dsimp only at H
  obtain ⟨y607, hy607⟩ : ∃ y_ : List Int, y_ = (([0, 1, 10006, 10007, (-1), 9223372036854775807, 55] : List Int)) := ⟨_, rfl⟩
  replace H : ((spec_l1PickInt.f t603 t604 t605 y607).bind fun bt610 => (some bt610.1)) = some r := by first | (rw [hy607]; with_reducible exact H) | (have H2_ := (Option.bind_some _ _).symm.trans H; rw [hy607]; with_reducible exact H2_) | (have H2_ := (Option.bind_some _ _).symm.trans H; with_reducible exact H2_) | with_reducible exact H | (rw [hy607]; exact H) | exact H
  have Ny607 := Aside0.mk hy607
  clear hy607
  revert H; refine bo ?_; rintro ⟨t610, t611, t612⟩ A3 H
  dsimp only at H
  obtain rfl := Option.some.inj H
  go_enter Try.func23, Try.ntmps23
  go_wp2_with (first | ((with_reducible refine gate_callee (f := 41) rfl ?_); refine gl (some 5) rfl Try.func41 #[.slice A0 l0.length c0] ?_; (with_reducible refine (spec_l1New.calls k _ _ l0 t603 t604 t605 w _ ?side1 ?side2 ?side3 A2.out).mono ?_); (case side1 => repeat (first | (with_reducible first | exact HB.out | apply below_alloc | apply pw_below_drewN | apply below_drew1) | exact HB.out)); (case side2 => exact HR0.out); (case side3 => exact HC0.out); rintro e w4 ⟨g606, rfl, hi, hb, hb2⟩; refine ⟨_, rfl, ?_⟩; replace HB := mk hb; have HI606 := mk hi; (try clear hb); (try clear hb2); (try clear hk); (try clear hi)) | ((with_reducible refine gate_dst (N := 7) rfl ?_); refine Kd.R_lit (Kd.int .i64) _ 3 ?hg (N := 7) ?hd (xs := ([0, 1, 10006, 10007, (-1), 9223372036854775807, 55] : List Int)) (inner := [.int .i64 0, .int .i64 1, .int .i64 10006, .int .i64 10007, .int .i64 (-1), .int .i64 9223372036854775807, .int .i64 55]) (ok := fun _ => True) (okp := fun _ => True) ?hr ?hp (fun _ hk => hk) trivial (Below.refl _ _) (Nat.le_refl _) (by simp) ?_; (case hd => rfl); (case hg => rfl); (case hr => first | (go_simp; done) | (go_simp; rfl)); (case hp => exact (Reps.one (show Kd.M (Kd.int .i64) _ _ _ 0 [.int .i64 0] from rfl) (Reps.one (show Kd.M (Kd.int .i64) _ _ _ 1 [.int .i64 1] from rfl) (Reps.one (show Kd.M (Kd.int .i64) _ _ _ 10006 [.int .i64 10006] from rfl) (Reps.one (show Kd.M (Kd.int .i64) _ _ _ 10007 [.int .i64 10007] from rfl) (Reps.one (show Kd.M (Kd.int .i64) _ _ _ (-1) [.int .i64 (-1)] from rfl) (Reps.one (show Kd.M (Kd.int .i64) _ _ _ 9223372036854775807 [.int .i64 9223372036854775807] from rfl) (Reps.one (show Kd.M (Kd.int .i64) _ _ _ 55 [.int .i64 55] from rfl) (Reps.none _ _))))))))); intro v608 w5 ho6 hb hg_ hnew_; clear hg_ hnew_; (first | rw [← Ny607.out] at ho6 | (simp only [Int.reduceToNat] at ho6; rw [← Ny607.out] at ho6)); have HO609 := mk (Kd.R_lower ho6 (below_size (by repeat (first | (with_reducible first | exact HB.out | apply below_alloc | apply pw_below_drewN | apply below_drew1 | refine below_set ?_ (IsS88.ge HI606.out)) | exact HB.out)))); replace HB := mk (below_step (by repeat (first | (with_reducible first | exact HB.out | apply below_alloc | apply pw_below_drewN | apply below_drew1 | refine below_set ?_ (IsS88.ge HI606.out)) | exact HB.out)) hb); replace HI606 := mk (IsS88.below (by repeat (first | (with_reducible first | exact HI606.out | apply IsS88.alloc | apply IsS88.drewN | apply IsS88.drew | apply IsS88.set_1 | apply IsS88.set_2) | exact HI606.out)) hb); clear hb ho6; obtain ⟨Ao7, co7, eo7⟩ := Kd.R_slice HO609.out; subst eo7) | ((with_reducible refine gate_callee (f := 49) rfl ?_); refine gl (some 8) rfl Try.func49 #[.pointer (some ⟨g606, 0, none⟩), .slice Ao7 y607.length co7] ?_; (with_reducible refine (spec_l1PickInt.calls g606 t603 t604 t605 _ _ y607 t610 t611 t612 w _ ?side1 ?side2 ?side3 ?side4 ?side5 A3.out).mono ?_); (case side1 => repeat (first | (with_reducible first | exact HI606.out | apply IsS88.alloc | apply IsS88.drewN | apply IsS88.drew | apply IsS88.set_1 | apply IsS88.set_2) | exact HI606.out)); (case side2 => repeat (first | (with_reducible first | exact HB.out | apply below_alloc | apply pw_below_drewN | apply below_drew1 | refine below_set ?_ (IsS88.ge HI606.out)) | exact HB.out)); (case side3 => exact uc (Kd.R_reads' HO609.out).2.2); (case side4 => exact (Kd.R_reads' HO609.out).2.1); (case side5 => exact far_slice (IsS88.own_ne HI606.out HO609.out (by decide))); rintro e w8 ⟨rfl, hi, hb, hk⟩; refine ⟨_, rfl, ?_⟩; replace HO609 := mk (Kd.R_mono (Kd.R_keep (IsS88.apart (show IsS88 w _ g606 t603 t604 t605 from by repeat (first | (with_reducible first | exact HI606.out | apply IsS88.alloc | apply IsS88.drewN | apply IsS88.drew | apply IsS88.set_1 | apply IsS88.set_2) | exact HI606.out)) (up HO609.out) (by decide)) hk (fun _ h => h.2)) (fun _ h => h.1)); replace HB := mk hb; replace HI606 := mk hi; (try clear hb); (try clear hb2); (try clear hk); (try clear hi)))
  go_ret
  exact ⟨by first | rfl | (simp [errW_none, errW_some] <;> rfl) | (simp [*, errW_none, errW_some] <;> rfl), by repeat (first | (with_reducible first | exact HB.out | apply below_alloc | apply pw_below_drewN | apply below_drew1 | refine below_set ?_ (IsS88.ge HI606.out)) | exact HB.out)⟩

/-! ### impl_Levels: function 25 -/
def impl_Levels.l0 : Nat → Int → Int → Int → Option (Int)
  | 0, _, _, _ => none
  | k + 1, x0, x1, x5 => if x0 > x1 then (impl_Levels.l0 k (wrap64 (Int.tdiv x0 2)) x1 (wrap64 (x5 + 1))) else (some x5)
def impl_Levels.f (k : Nat) (a0 : Int) (a1 : Int) : Option (Int) := if a1 ≤ 0 then (some 0) else (impl_Levels.l0 k (mn a0 1000000) a1 0)
theorem impl_Levels.mono_l : ∀ k, (∀ y0 y1 y2, LeO (impl_Levels.l0 k y0 y1 y2) (impl_Levels.l0 (k + 1) y0 y1 y2))
  | 0 => fun _ _ _ r h => by simp [impl_Levels.l0] at h
  | k + 1 => by
    have ih0 := impl_Levels.mono_l k
    · intro y0 y1 y2
      unfold impl_Levels.l0
      exact mo
theorem impl_Levels.mono : ∀ a0 a1 k, LeO (impl_Levels.f k a0 a1) (impl_Levels.f (k + 1) a0 a1) := by
  intro a0 a1 k
  have ih0 := impl_Levels.mono_l k
  unfold impl_Levels.f
  exact mo
instance impl_Levels.mi (a0 a1 k) : LeC (impl_Levels.f k a0 a1) (impl_Levels.f (k + 1) a0 a1) := ⟨impl_Levels.mono a0 a1 k⟩
set_option maxHeartbeats 8000000 in
set_option maxRecDepth 100000 in
theorem impl_Levels.calls (k : Nat) (a0 : Int) (a1 : Int) (r : Int) (w : World) (h : impl_Levels.f k a0 a1 = some r) :
    Calls Try.prog 25 #[.int .i64 a0, .int .i64 a1] w fun e w' => e = .returned (.int .i64 r) ∧ Below w.heap.size w w' := by
  have HB := Aside0.mk (Below.refl w.heap.size w)
  have H : (if a1 ≤ 0 then (some 0) else (impl_Levels.l0 k (mn a0 1000000) a1 0)) = some r := h
  clear h
  by_cases c3 : a1 ≤ 0
  · rw [if_pos c3] at H
    have c3b0 : decide (a1 ≤ 0) = true := decide_eq_true c3
    clear c3
    obtain rfl := Option.some.inj H
    go_enter Try.func25, Try.ntmps25
    go_wp2
    go_ret
    exact ⟨by first | rfl | (simp [errW_none, errW_some] <;> rfl) | (simp [*, errW_none, errW_some] <;> rfl), bl⟩
  · rw [if_neg c3] at H
    have c3b0 : decide (a1 ≤ 0) = false := decide_eq_false c3
    clear c3
    obtain ⟨ji4, hji4⟩ : ∃ j_ : Int, (mn a0 1000000) = j_ := ⟨_, rfl⟩
    replace H : (impl_Levels.l0 k ji4 a1 0) = some r := by first | (rw [hji4] at H; exact H) | (simp only [hji4] at H ⊢; exact H)
    (try (have hji4h : ji4 ≤ 1000000 := by (rw [← hji4]; unfold mn; (repeat' split) <;> omega)))
    (try (have hji4g : ji4 ≤ 64 := by omega))
    have hji4_ : (if 1000000 < a0 then 1000000 else a0) = ji4 := hji4
    have H' := Aside0.mk H
    clear H
    go_enter Try.func25, Try.ntmps25
    go_wp2
    go_loopg [0, 5] k (fun kq v0 v5 w' => ∃ (x0_1 : Int) (x5_1 : Int), v0 = .int .i64 x0_1 ∧ v5 = .int .i64 x5_1 ∧ Aside0 (impl_Levels.l0 kq x0_1 a1 x5_1 = some r) ∧ Aside0 (kq ≤ k) ∧ Aside0 (Below w.heap.size w w'))
    case atStart => exact ⟨(ji4), (0), (by first | rfl | (simp; done) | (simp only [← hji4] <;> (first | rfl | simp)) | (simp [*]; done)), (by first | rfl | (simp; done) | (simp [*]; done)), H', ⟨Nat.le_refl _⟩, ⟨bl⟩⟩
    case round =>
      clear H'
      try clear c2
      try clear p2
      try clear c3
      try clear c3b0
      obtain ⟨x0_1, x5_1, rfl, rfl, HA, HK1, HB⟩ := hrel
      cases gk with
      | zero => exact absurd HA.out (by simp [impl_Levels.l0])
      | succ k1 =>
        have H := HA.out
        clear HA
        simp only [impl_Levels.l0] at H
        by_cases c5 : x0_1 > a1
        · rw [if_pos c5] at H
          have c5b0 : decide (a1 < x0_1) = true := decide_eq_true c5
          clear c5
          have H' := Aside0.mk H
          clear H
          go_wp2
          go_roundg k1
          case measure => have := HK1.out; omega
          case rel => exact ⟨(wrap64 (Int.tdiv x0_1 2)), (wrap64 (x5_1 + 1)), (by first | rfl | (simp; done) | (simp [*]; done)), (by first | rfl | (simp; done) | (simp [*]; done)), H', ⟨by have := HK1.out; omega⟩, ⟨bl⟩⟩
        · rw [if_neg c5] at H
          have c5b0 : decide (a1 < x0_1) = false := decide_eq_false c5
          clear c5
          obtain rfl := Option.some.inj H
          go_wp2
          go_ret
          exact ⟨by first | rfl | (simp [errW_none, errW_some] <;> rfl) | (simp only [← hji4]; first | rfl | (simp [errW_none, errW_some] <;> rfl)) | (simp [*, errW_none, errW_some] <;> rfl), bl⟩

/-! ### spec_Levels: function 26 -/
def spec_Levels.l0 : Nat → Int → Int → Int → Option (Int)
  | 0, _, _, _ => none
  | k + 1, x1, x5, x6 => if x6 > x1 then (if x1 > 0 then (spec_Levels.l0 k x1 (wrap64 (x5 + 1)) (wrap64 (Int.tdiv x6 2))) else (some x5)) else (some x5)
def spec_Levels.f (k : Nat) (a0 : Int) (a1 : Int) : Option (Int) := spec_Levels.l0 k a1 0 (mn a0 1000000)
theorem spec_Levels.mono_l : ∀ k, (∀ y0 y1 y2, LeO (spec_Levels.l0 k y0 y1 y2) (spec_Levels.l0 (k + 1) y0 y1 y2))
  | 0 => fun _ _ _ r h => by simp [spec_Levels.l0] at h
  | k + 1 => by
    have ih0 := spec_Levels.mono_l k
    · intro y0 y1 y2
      unfold spec_Levels.l0
      exact mo
theorem spec_Levels.mono : ∀ a0 a1 k, LeO (spec_Levels.f k a0 a1) (spec_Levels.f (k + 1) a0 a1) := by
  intro a0 a1 k
  have ih0 := spec_Levels.mono_l k
  unfold spec_Levels.f
  exact mo
instance spec_Levels.mi (a0 a1 k) : LeC (spec_Levels.f k a0 a1) (spec_Levels.f (k + 1) a0 a1) := ⟨spec_Levels.mono a0 a1 k⟩
set_option maxHeartbeats 8000000 in
set_option maxRecDepth 100000 in
theorem spec_Levels.calls (k : Nat) (a0 : Int) (a1 : Int) (r : Int) (w : World) (h : spec_Levels.f k a0 a1 = some r) :
    Calls Try.prog 26 #[.int .i64 a0, .int .i64 a1] w fun e w' => e = .returned (.int .i64 r) ∧ Below w.heap.size w w' := by
  have HB := Aside0.mk (Below.refl w.heap.size w)
  have H : (spec_Levels.l0 k a1 0 (mn a0 1000000)) = some r := h
  clear h
  obtain ⟨ji3, hji3⟩ : ∃ j_ : Int, (mn a0 1000000) = j_ := ⟨_, rfl⟩
  replace H : (spec_Levels.l0 k a1 0 ji3) = some r := by first | (rw [hji3] at H; exact H) | (simp only [hji3] at H ⊢; exact H)
  (try (have hji3h : ji3 ≤ 1000000 := by (rw [← hji3]; unfold mn; (repeat' split) <;> omega)))
  (try (have hji3g : ji3 ≤ 64 := by omega))
  have hji3_ : (if 1000000 < a0 then 1000000 else a0) = ji3 := hji3
  have H' := Aside0.mk H
  clear H
  go_enter Try.func26, Try.ntmps26
  go_wp2
  go_loopg [5, 6] k (fun kq v5 v6 w' => ∃ (x5_1 : Int) (x6_1 : Int), v5 = .int .i64 x5_1 ∧ v6 = .int .i64 x6_1 ∧ Aside0 (spec_Levels.l0 kq a1 x5_1 x6_1 = some r) ∧ Aside0 (kq ≤ k) ∧ Aside0 (Below w.heap.size w w'))
  case atStart => exact ⟨(0), (ji3), (by first | rfl | (simp; done) | (simp [*]; done)), (by first | rfl | (simp; done) | (simp only [← hji3] <;> (first | rfl | simp)) | (simp [*]; done)), H', ⟨Nat.le_refl _⟩, ⟨bl⟩⟩
  case round =>
    clear H'
    try clear c2
    try clear p2
    obtain ⟨x5_1, x6_1, rfl, rfl, HA, HK1, HB⟩ := hrel
    cases gk with
    | zero => exact absurd HA.out (by simp [spec_Levels.l0])
    | succ k1 =>
      have H := HA.out
      clear HA
      simp only [spec_Levels.l0] at H
      by_cases c4 : x6_1 > a1
      · rw [if_pos c4] at H
        have c4b0 : decide (a1 < x6_1) = true := decide_eq_true c4
        clear c4
        by_cases c5 : a1 > 0
        · rw [if_pos c5] at H
          have c5b0 : decide (0 < a1) = true := decide_eq_true c5
          clear c5
          have H' := Aside0.mk H
          clear H
          go_wp2
          go_roundg k1
          case measure => have := HK1.out; omega
          case rel => exact ⟨(wrap64 (x5_1 + 1)), (wrap64 (Int.tdiv x6_1 2)), (by first | rfl | (simp; done) | (simp [*]; done)), (by first | rfl | (simp; done) | (simp [*]; done)), H', ⟨by have := HK1.out; omega⟩, ⟨bl⟩⟩
        · rw [if_neg c5] at H
          have c5b0 : decide (0 < a1) = false := decide_eq_false c5
          clear c5
          obtain rfl := Option.some.inj H
          go_wp2
          go_ret
          exact ⟨by first | rfl | (simp [errW_none, errW_some] <;> rfl) | (simp only [← hji3]; first | rfl | (simp [errW_none, errW_some] <;> rfl)) | (simp [*, errW_none, errW_some] <;> rfl), bl⟩
      · rw [if_neg c4] at H
        have c4b0 : decide (a1 < x6_1) = false := decide_eq_false c4
        clear c4
        obtain rfl := Option.some.inj H
        go_wp2
        go_ret
        exact ⟨by first | rfl | (simp [errW_none, errW_some] <;> rfl) | (simp only [← hji3]; first | rfl | (simp [errW_none, errW_some] <;> rfl)) | (simp [*, errW_none, errW_some] <;> rfl), bl⟩

/-! ### laws_sameInts: function 28 -/
def laws_sameInts.l0 : Nat → List Int → List Int → Int → Option (Bool)
  | 0, _, _, _ => none
  | k + 1, x0, x1, x5 => if x5 < (x0.length : Int) then (if 0 ≤ x5 then (if x5 < (x1.length : Int) then (if (rd x0 x5) = (rd x1 x5) then (laws_sameInts.l0 k x0 x1 (wrap64 (x5 + 1))) else (some false)) else (none)) else (none)) else (some true)
def laws_sameInts.f (k : Nat) (l0 : List Int) (l1 : List Int) : Option (Bool) := if (l0.length : Int) = (l1.length : Int) then (laws_sameInts.l0 k l0 l1 0) else (some false)
theorem laws_sameInts.mono_l : ∀ k, (∀ y0 y1 y2, LeO (laws_sameInts.l0 k y0 y1 y2) (laws_sameInts.l0 (k + 1) y0 y1 y2))
  | 0 => fun _ _ _ r h => by simp [laws_sameInts.l0] at h
  | k + 1 => by
    have ih0 := laws_sameInts.mono_l k
    · intro y0 y1 y2
      unfold laws_sameInts.l0
      exact mo
theorem laws_sameInts.mono : ∀ a0 a1 k, LeO (laws_sameInts.f k a0 a1) (laws_sameInts.f (k + 1) a0 a1) := by
  intro a0 a1 k
  have ih0 := laws_sameInts.mono_l k
  unfold laws_sameInts.f
  exact mo
instance laws_sameInts.mi (a0 a1 k) : LeC (laws_sameInts.f k a0 a1) (laws_sameInts.f (k + 1) a0 a1) := ⟨laws_sameInts.mono a0 a1 k⟩
set_option maxHeartbeats 8000000 in
set_option maxRecDepth 100000 in
theorem laws_sameInts.calls (k : Nat) (A0 : Option Addr) (c0 : Nat) (l0 : List Int) (A1 : Option Addr) (c1 : Nat) (l1 : List Int) (r : Bool) (w : World) (hr0 : Kd.C (Kd.int .i64) w A0 l0.length l0) (hc0 : l0.length ≤ c0) (hr1 : Kd.C (Kd.int .i64) w A1 l1.length l1) (hc1 : l1.length ≤ c1) (h : laws_sameInts.f k l0 l1 = some r) :
    Calls Try.prog 28 #[.slice A0 l0.length c0, .slice A1 l1.length c1] w fun e w' => e = .returned (.bool r) ∧ Drawn0 w w' := by
  have HR0 := Aside0.mk hr0
  have HC0 := Aside0.mk hc0
  clear hr0 hc0
  have HR1 := Aside0.mk hr1
  have HC1 := Aside0.mk hc1
  clear hr1 hc1
  have H : (if (l0.length : Int) = (l1.length : Int) then (laws_sameInts.l0 k l0 l1 0) else (some false)) = some r := h
  clear h
  by_cases c3 : (l0.length : Int) = (l1.length : Int)
  · rw [if_pos c3] at H
    have c3b0 : ((l0.length : Int) == (l1.length : Int)) = true := beq_iff_eq.mpr c3
    have c3b1 : ((l0.length : Int) != (l1.length : Int)) = false := bne_eq_false_iff_eq.mpr c3
    have c3b2 : (l0.length == l1.length) = true := by first | simpa using c3 | (simp at c3 ⊢; omega)
    clear c3
    have H' := Aside0.mk H
    clear H
    go_enter Try.func28, Try.ntmps28
    go_wp2
    repeat (go_quiet (fail); try go_wp2)
    go_loopg [5] k (fun kq v5 w' => ∃ (x5_1 : Int), v5 = .int .i64 x5_1 ∧ Aside0 (laws_sameInts.l0 kq l0 l1 x5_1 = some r) ∧ Aside0 (kq ≤ k) ∧ Drawn0 w w')
    case atStart => exact ⟨(0), (by first | rfl | (simp; done) | (simp [*]; done)), H', ⟨Nat.le_refl _⟩, by repeat (first | exact Drawn0.refl _ | apply Drawn0.step)⟩
    case round =>
      clear H'
      try clear c1
      try clear c2
      try clear p2
      try clear c3
      try clear c3b0
      try clear c3b1
      try clear c3b2
      obtain ⟨x5_1, rfl, HA, HK1, ⟨m1, rfl⟩⟩ := hrel
      cases gk with
      | zero => exact absurd HA.out (by simp [laws_sameInts.l0])
      | succ k1 =>
        have H := HA.out
        clear HA
        simp only [laws_sameInts.l0] at H
        by_cases c4 : x5_1 < (l0.length : Int)
        · rw [if_pos c4] at H
          have c4b0 : decide (x5_1 < (l0.length : Int)) = true := decide_eq_true c4
          clear c4
          by_cases c5 : 0 ≤ x5_1
          · rw [if_pos c5] at H
            have c5b0 : decide (0 ≤ x5_1) = true := decide_eq_true c5
            clear c5
            by_cases c6 : x5_1 < (l1.length : Int)
            · rw [if_pos c6] at H
              have c6b0 : decide (x5_1 < (l1.length : Int)) = true := decide_eq_true c6
              clear c6
              by_cases c7 : (rd l0 x5_1) = (rd l1 x5_1)
              · rw [if_pos c7] at H
                have c7b0 : ((rd l0 x5_1) == (rd l1 x5_1)) = true := beq_iff_eq.mpr c7
                have c7b1 : ((rd l0 x5_1) != (rd l1 x5_1)) = false := bne_eq_false_iff_eq.mpr c7
                clear c7
                have H' := Aside0.mk H
                clear H
                have p613 : 0 ≤ (x5_1 : Int) := of_decide_eq_true (by first | (with_reducible assumption) | assumption)
                have q613 : x5_1 < (l0.length : Int) := of_decide_eq_true (by first | (with_reducible assumption) | assumption)
                obtain ⟨ad613, e613, hx613_0⟩ := Kd.at_int HR0.out x5_1 p613 q613
                cases e613
                replace p613 := eq_true p613
                replace q613 := eq_true q613
                have p614 : 0 ≤ (x5_1 : Int) := of_decide_eq_true (by first | (with_reducible assumption) | assumption)
                have q614 : x5_1 < (l1.length : Int) := of_decide_eq_true (by first | (with_reducible assumption) | assumption)
                obtain ⟨ad614, e614, hx614_0⟩ := Kd.at_int HR1.out x5_1 p614 q614
                cases e614
                replace p614 := eq_true p614
                replace q614 := eq_true q614
                go_wp2
                repeat (go_quiet (fail); try go_wp2)
                go_roundg k1
                case measure => have := HK1.out; omega
                case rel => exact ⟨(wrap64 (x5_1 + 1)), (by first | rfl | (simp; done) | (simp [*]; done)), H', ⟨by have := HK1.out; omega⟩, by repeat (first | exact Drawn0.refl _ | apply Drawn0.step)⟩
              · rw [if_neg c7] at H
                have c7b0 : ((rd l0 x5_1) == (rd l1 x5_1)) = false := beq_eq_false_iff_ne.mpr c7
                have c7b1 : ((rd l0 x5_1) != (rd l1 x5_1)) = true := bne_iff_ne.mpr c7
                obtain rfl := Option.some.inj H
                have p613 : 0 ≤ (x5_1 : Int) := of_decide_eq_true (by first | (with_reducible assumption) | assumption)
                have q613 : x5_1 < (l0.length : Int) := of_decide_eq_true (by first | (with_reducible assumption) | assumption)
                obtain ⟨ad613, e613, hx613_0⟩ := Kd.at_int HR0.out x5_1 p613 q613
                cases e613
                replace p613 := eq_true p613
                replace q613 := eq_true q613
                have p614 : 0 ≤ (x5_1 : Int) := of_decide_eq_true (by first | (with_reducible assumption) | assumption)
                have q614 : x5_1 < (l1.length : Int) := of_decide_eq_true (by first | (with_reducible assumption) | assumption)
                obtain ⟨ad614, e614, hx614_0⟩ := Kd.at_int HR1.out x5_1 p614 q614
                cases e614
                replace p614 := eq_true p614
                replace q614 := eq_true q614
                go_wp2
                repeat (go_quiet (fail); try go_wp2)
                go_ret
                exact ⟨by first | rfl | (simp; done) | (simp [*]; done), by repeat (first | exact Drawn0.refl _ | apply Drawn0.step)⟩
            · rw [if_neg c6] at H
              exact absurd H (by simp)
          · rw [if_neg c5] at H
            exact absurd H (by simp)
        · rw [if_neg c4] at H
          have c4b0 : decide (x5_1 < (l0.length : Int)) = false := decide_eq_false c4
          clear c4
          obtain rfl := Option.some.inj H
          go_wp2
          repeat (go_quiet (fail); try go_wp2)
          go_ret
          exact ⟨by first | rfl | (simp; done) | (simp [*]; done), by repeat (first | exact Drawn0.refl _ | apply Drawn0.step)⟩
  · rw [if_neg c3] at H
    have c3b0 : ((l0.length : Int) == (l1.length : Int)) = false := beq_eq_false_iff_ne.mpr c3
    have c3b1 : ((l0.length : Int) != (l1.length : Int)) = true := bne_iff_ne.mpr c3
    have c3b2 : (l0.length == l1.length) = false := by first | simpa using c3 | (simp at c3 ⊢; omega)
    obtain rfl := Option.some.inj H
    go_enter Try.func28, Try.ntmps28
    go_wp2
    repeat (go_quiet (fail); try go_wp2)
    go_ret
    exact ⟨by first | rfl | (simp; done) | (simp [*]; done), by repeat (first | exact Drawn0.refl _ | apply Drawn0.step)⟩

/-! ### laws_FnMedians: function 4 -/
def laws_FnMedians.l0 : Nat → List Int → List Int → Int → Int → Int → Int → Option (Bool)
 | 0, _, _, _, _, _, _ => none
 | k + 1, x0, x3, x4, x5, x6, x7 => if x7 < (x3.length : Int) then (if 0 ≤ x7 then ((laws_btoi.f (decide ((rd x3 x7) < x4))).bind fun t622 => ((laws_btoi.f (decide ((rd x3 x7) > x4))).bind fun t624 => (laws_FnMedians.l0 k x0 x3 x4 (wrap64 (x5 + t622)) (wrap64 (x6 + t624)) (wrap64 (x7 + 1))))) else (none)) else ((spec_DrawChoosePivot.f k x0).bind fun bt625 => ((impl_ChoosePivot.f k bt625.1 bt625.2.1 bt625.2.2.1 bt625.2.2.2.1 bt625.2.2.2.2.1 bt625.2.2.2.2.2.1 bt625.2.2.2.2.2.2.1 bt625.2.2.2.2.2.2.2).bind fun bt641 => ((spec_ChoosePivot.f k bt625.1 bt625.2.1 bt625.2.2.1 bt625.2.2.2.1 bt625.2.2.2.2.1 bt625.2.2.2.2.2.1 bt625.2.2.2.2.2.2.1 bt625.2.2.2.2.2.2.2).bind fun bt646 => ((spec_DrawLevels.f k x0).bind fun bt651 => ((spec_DrawNextSeed.f k x0).bind fun t653 => ((impl_NextSeed.f t653).bind fun t654 => (if x5 ≤ (wrap64 ((x3.length : Int) / 2)) then (if x6 ≤ (wrap64 ((x3.length : Int) / 2)) then (if bt641.1 = bt646.1 then (if (bt641.2.1 == bt646.2.1 && (bt641.2.2.1 == bt646.2.2.1 && (bt641.2.2.2 == bt646.2.2.2))) = true then ((impl_Levels.f k bt651.1 bt651.2).bind fun t655 => ((spec_Levels.f k bt651.1 bt651.2).bind fun t656 => (if t655 = t656 then ((spec_NextSeed.f t653).bind fun t657 => (if t654 = t657 then (if t654 ≥ 0 then (if t654 ≤ 10006 then ((impl_SortInts.f x3).bind fun t658 => ((spec_SortInts.f k x3).bind fun t661 => ((laws_sameInts.f k t658 t661).bind fun t664 => (some t664)))) else (none)) else (none)) else (none))) else (none)))) else (none)) else (none)) else (none)) else (none))))))))
def laws_FnMedians.f (k : Nat) (l0 : List Int) : Option (Bool) := (laws_big.f l0).bind fun t615 => (if t615 = true then (some true) else ((spec_DrawMedianOf.f k l0).bind fun t616 => ((impl_MedianOf.f t616).bind fun t619 => ((spec_MedianOf.f k t616).bind fun t620 => (if t619 = t620 then (laws_FnMedians.l0 k l0 t616 t619 0 0 0) else (none))))))
theorem laws_FnMedians.mono_l : ∀ k, (∀ y0 y1 y2 y3 y4 y5, LeO (laws_FnMedians.l0 k y0 y1 y2 y3 y4 y5) (laws_FnMedians.l0 (k + 1) y0 y1 y2 y3 y4 y5))
 | 0 => fun _ _ _ _ _ _ r h => by simp [laws_FnMedians.l0] at h
 | k + 1 => by
  have ih0 := laws_FnMedians.mono_l k
  ·intro y0 y1 y2 y3 y4 y5
   unfold laws_FnMedians.l0
   exact mo
theorem laws_FnMedians.mono : ∀ a0 k, LeO (laws_FnMedians.f k a0) (laws_FnMedians.f (k + 1) a0) := by
 intro a0 k
 have ih0 := laws_FnMedians.mono_l k
 unfold laws_FnMedians.f
 exact mo
instance laws_FnMedians.mi (a0 k) : LeC (laws_FnMedians.f k a0) (laws_FnMedians.f (k + 1) a0) := ⟨laws_FnMedians.mono a0 k⟩
set_option maxHeartbeats 8000000 in
set_option maxRecDepth 100000 in
theorem laws_FnMedians.calls (k : Nat) (A0 : Option Addr) (c0 : Nat) (l0 : List Int) (r : Bool) (w : World) (hr0 : Kd.C (Kd.int .u8) w A0 l0.length l0) (hc0 : l0.length ≤ c0) (HRT : Aside0 (r = true)) (h : laws_FnMedians.f k l0 = some r) :
  Calls Try.prog 4 #[.slice A0 l0.length c0] w fun e w' => e = .returned (.bool r) ∧ Below w.heap.size w w' := by
 have hu45 := Try.underlying45
 have hu47 := Try.underlying47
 have HR0 := Aside0.mk hr0
 have HC0 := Aside0.mk hc0
 clear hr0 hc0
 have HB := Aside0.mk (Below.refl w.heap.size w)
 have H : ((laws_big.f l0).bind fun t615 => (if t615 = true then (some true) else ((spec_DrawMedianOf.f k l0).bind fun t616 => ((impl_MedianOf.f t616).bind fun t619 => ((spec_MedianOf.f k t616).bind fun t620 => (if t619 = t620 then (laws_FnMedians.l0 k l0 t616 t619 0 0 0) else (none))))))) = some r := h
 clear h
 revert H; refine bo ?_; rintro t615 A2 H
 by_cases c3 : t615 = true
 ·subst c3
  rw [if_pos rfl] at H
  obtain rfl := Option.some.inj H
  go_enter Try.func4, Try.ntmps4
  go_wp2_with (first | ((with_reducible refine gate_callee (f := 14) rfl ?_); refine gl (some 21) rfl Try.func14 #[.slice A0 l0.length c0] ?_; (with_reducible refine (laws_big.calls _ _ l0 true _ ?side1 ?side2 A2.out).mono ?_); (case side1 => exact uc HR0.out); (case side2 => exact HC0.out); rintro e w' ⟨rfl, ⟨nd, rfl⟩⟩; refine ⟨_, rfl, ?_⟩))
  go_ret
  exact ⟨by first | rfl | (simp [errW_none, errW_some] <;> rfl) | (simp [*, errW_none, errW_some] <;> rfl), bl⟩
 ·replace c3 := Bool.eq_false_iff.mpr c3
  subst c3
  rw [if_neg nf] at H
  revert H; refine bo ?_; rintro t616 A4 H
  revert H; refine bo ?_; rintro t619 A5 H
  revert H; refine bo ?_; rintro t620 A6 H
  by_cases c7 : t619 = t620
  ·rw [if_pos c7] at H
   have c7b0 : (t619 == t620) = true := beq_iff_eq.mpr c7
   have c7b1 : (t619 != t620) = false := bne_eq_false_iff_eq.mpr c7
   clear c7
   have H' := Aside0.mk H
   clear H
   go_enter Try.func4, Try.ntmps4
   go_wp2_with (first | ((with_reducible refine gate_callee (f := 14) rfl ?_); refine gl (some 21) rfl Try.func14 #[.slice A0 l0.length c0] ?_; (with_reducible refine (laws_big.calls _ _ l0 false _ ?side1 ?side2 A2.out).mono ?_); (case side1 => exact uc HR0.out); (case side2 => exact HC0.out); rintro e w' ⟨rfl, ⟨nd, rfl⟩⟩; refine ⟨_, rfl, ?_⟩) | ((with_reducible refine gate_callee (f := 15) rfl ?_); refine gl (some 23) rfl Try.func15 #[.slice A0 l0.length c0] ?_; (with_reducible refine (spec_DrawMedianOf.calls k _ _ l0 t616 _ ?side1 ?side2 A4.out).mono ?_); (case side1 => exact uc HR0.out); (case side2 => exact HC0.out); rintro e w8 ⟨v617, rfl, ho0, hb⟩; refine ⟨_, rfl, ?_⟩; have HO618 := mk (Kd.R_lower ho0 (below_size bl)); replace HB := wh hb; (try clear hb); (try clear hb2); (try clear hk); (try clear hi); (try clear ho0); obtain ⟨Ao9, co9, eo9⟩ := Kd.R_slice HO618.out; subst eo9) | ((with_reducible refine gate_callee (f := 16) rfl ?_); refine gl (some 25) rfl Try.func16 #[.slice Ao9 t616.length co9] ?_; (with_reducible refine (impl_MedianOf.calls _ _ t616 t619 _ ?side1 ?side2 A5.out).mono ?_); (case side1 => exact uc (Kd.R_reads' HO618.out).2.2); (case side2 => exact (Kd.R_reads' HO618.out).2.1); rintro e w10 ⟨rfl, hb⟩; refine ⟨_, rfl, ?_⟩; replace HO618 := mk (Kd.R_below (up HO618.out) hb); replace HB := wh hb; (try clear hb); (try clear hb2); (try clear hk); (try clear hi)) | ((with_reducible refine gate_callee (f := 17) rfl ?_); refine gl (some 28) rfl Try.func17 #[.slice Ao9 t616.length co9] ?_; (with_reducible refine (spec_MedianOf.calls k _ _ t616 t620 _ ?side1 ?side2 A6.out).mono ?_); (case side1 => exact uc (Kd.R_reads' HO618.out).2.2); (case side2 => exact (Kd.R_reads' HO618.out).2.1); rintro e w11 ⟨rfl, hb⟩; refine ⟨_, rfl, ?_⟩; replace HO618 := mk (Kd.R_below (up HO618.out) hb); replace HB := wh hb; (try clear hb); (try clear hb2); (try clear hk); (try clear hi)))
   go_loopg [5, 6, 7] k (fun kq v5 v6 v7 w' => ∃ (x5_1 : Int) (x6_1 : Int) (x7_1 : Int), v5 = .int .i64 x5_1 ∧ v6 = .int .i64 x6_1 ∧ v7 = .int .i64 x7_1 ∧ Aside0 (laws_FnMedians.l0 kq l0 t616 t619 x5_1 x6_1 x7_1 = some r) ∧ Aside0 (kq ≤ k) ∧ Aside0 (Kd.R (Kd.int .i64) 3 w' w.heap.size (fun _ => True) (.slice Ao9 t616.length co9) t616) ∧ Aside0 (Below w.heap.size w w'))
   case atStart => exact ⟨(0), (0), (0), (by first | rfl | (simp; done) | (simp [*]; done)), (by first | rfl | (simp; done) | (simp [*]; done)), (by first | rfl | (simp; done) | (simp [*]; done)), H', ⟨Nat.le_refl _⟩, ⟨up HO618.out⟩, ⟨bl⟩⟩
   case round =>
    clear H'
    try clear c1
    try clear p2
    try clear c3
    try clear c4
    try clear c7
    try clear c7b0
    try clear c7b1
    obtain ⟨x5_1, x6_1, x7_1, rfl, rfl, rfl, HA, HK1, HO_3, HB⟩ := hrel
    cases gk with
    | zero => exact absurd HA.out (by simp [laws_FnMedians.l0])
    | succ k1 =>
     have H := HA.out
     clear HA
     simp only [laws_FnMedians.l0] at H
     by_cases c12 : x7_1 < (t616.length : Int)
     ·rw [if_pos c12] at H
      have c12b0 : decide (x7_1 < (t616.length : Int)) = true := decide_eq_true c12
      clear c12
      by_cases c13 : 0 ≤ x7_1
      ·rw [if_pos c13] at H
       have c13b0 : decide (0 ≤ x7_1) = true := decide_eq_true c13
       clear c13
       revert H; refine bo ?_; rintro t622 A14 H
       revert H; refine bo ?_; rintro t624 A15 H
       have H' := Aside0.mk H
       clear H
       have p621 : 0 ≤ (x7_1 : Int) := of_decide_eq_true (by first | (with_reducible assumption) | assumption)
       have q621 : x7_1 < (t616.length : Int) := of_decide_eq_true (by first | (with_reducible assumption) | assumption)
       obtain ⟨ad621, e621, hx621_0⟩ := Kd.at_int (Kd.R_reads' HO_3.out).2.2 x7_1 p621 q621
       cases e621
       replace p621 := eq_true p621
       replace q621 := eq_true q621
       go_wp2_with (first | ((with_reducible refine gate_callee (f := 18) rfl ?_); refine gl (some 43) rfl Try.func18 #[.bool (decide ((rd t616 x7_1) < t619))] ?_; (with_reducible refine (laws_btoi.calls (decide ((rd t616 x7_1) < t619)) t622 _ A14.out).mono ?_); rintro e w' ⟨rfl, ⟨nd, rfl⟩⟩; refine ⟨_, rfl, ?_⟩; have p623 : 0 ≤ (x7_1 : Int) := of_decide_eq_true (by first | (with_reducible assumption) | assumption); have q623 : x7_1 < (t616.length : Int) := of_decide_eq_true (by first | (with_reducible assumption) | assumption); obtain ⟨ad623, e623, hx623_0⟩ := Kd.at_int (Kd.R_reads' HO_3.out).2.2 x7_1 p623 q623; obtain rfl : ad621 = ad623 := (by injection e623); replace p623 := eq_true p623; replace q623 := eq_true q623) | ((with_reducible refine gate_callee (f := 18) rfl ?_); refine gl (some 52) rfl Try.func18 #[.bool (decide ((rd t616 x7_1) > t619))] ?_; (with_reducible refine (laws_btoi.calls (decide ((rd t616 x7_1) > t619)) t624 _ A15.out).mono ?_); rintro e w' ⟨rfl, ⟨nd, rfl⟩⟩; refine ⟨_, rfl, ?_⟩))
       go_roundg k1
       case measure => have := HK1.out; omega
       case rel => exact ⟨(wrap64 (x5_1 + t622)), (wrap64 (x6_1 + t624)), (wrap64 (x7_1 + 1)), (by first | rfl | (simp; done) | (simp [*]; done)), (by first | rfl | (simp; done) | (simp [*]; done)), (by first | rfl | (simp; done) | (simp [*]; done)), H', ⟨by have := HK1.out; omega⟩, ⟨up HO_3.out⟩, ⟨bl⟩⟩
      ·rw [if_neg c13] at H
       exact absurd H (by simp)
     ·rw [if_neg c12] at H
      have c12b0 : decide (x7_1 < (t616.length : Int)) = false := decide_eq_false c12
      clear c12
      revert H; refine bo ?_; rintro ⟨t625, t628, t631, t634, t635, t636, t637, t638⟩ A16 H
      dsimp only at H
      revert H; refine bo ?_; rintro ⟨t641, t642, t643, t644⟩ A17 H
      dsimp only at H
      revert H; refine bo ?_; rintro ⟨t646, t647, t648, t649⟩ A18 H
      dsimp only at H
      revert H; refine bo ?_; rintro ⟨t651, t652⟩ A19 H
      dsimp only at H
      revert H; refine bo ?_; rintro t653 A20 H
      revert H; refine bo ?_; rintro t654 A21 H
      by_cases c22 : x5_1 ≤ (wrap64 ((t616.length : Int) / 2))
      ·rw [if_pos c22] at H
       have c22b0 : decide (x5_1 ≤ (wrap64 ((t616.length : Int) / 2))) = true := decide_eq_true c22
       clear c22
       by_cases c23 : x6_1 ≤ (wrap64 ((t616.length : Int) / 2))
       ·rw [if_pos c23] at H
        have c23b0 : decide (x6_1 ≤ (wrap64 ((t616.length : Int) / 2))) = true := decide_eq_true c23
        clear c23
        by_cases c24 : t641 = t646
        ·rw [if_pos c24] at H
         have c24b0 : (t641 == t646) = true := beq_iff_eq.mpr c24
         have c24b1 : (t641 != t646) = false := bne_eq_false_iff_eq.mpr c24
         clear c24
         by_cases c25 : (t642 == t647 && (t643 == t648 && (t644 == t649))) = true
         ·rw [if_pos c25] at H
          have c25b0 : (t642 == t647 && (t643 == t648 && (t644 == t649))) = true := c25
          (try (have c25b1 : decide (t642 = t647 && (t643 == t648 && (t644 == t649))) = true := by simpa using c25))
          (try (have c25b2 : (t642 == t647 && (t643 == t648 && (t644 == t649))) = true := by simpa using c25))
          clear c25
          revert H; refine bo ?_; rintro t655 A26 H
          revert H; refine bo ?_; rintro t656 A27 H
          by_cases c28 : t655 = t656
          ·rw [if_pos c28] at H
           have c28b0 : (t655 == t656) = true := beq_iff_eq.mpr c28
           have c28b1 : (t655 != t656) = false := bne_eq_false_iff_eq.mpr c28
           clear c28
           revert H; refine bo ?_; rintro t657 A29 H
           by_cases c30 : t654 = t657
           ·rw [if_pos c30] at H
            have c30b0 : (t654 == t657) = true := beq_iff_eq.mpr c30
            have c30b1 : (t654 != t657) = false := bne_eq_false_iff_eq.mpr c30
            clear c30
            by_cases c31 : t654 ≥ 0
            ·rw [if_pos c31] at H
             have c31b0 : decide (0 ≤ t654) = true := decide_eq_true c31
             clear c31
             by_cases c32 : t654 ≤ 10006
             ·rw [if_pos c32] at H
              have c32b0 : decide (t654 ≤ 10006) = true := decide_eq_true c32
              clear c32
              revert H; refine bo ?_; rintro t658 A33 H
              revert H; refine bo ?_; rintro t661 A34 H
              revert H; refine bo ?_; rintro t664 A35 H
              obtain rfl := Option.some.inj H
              go_wp2_with (first | ((with_reducible refine gate_callee (f := 19) rfl ?_); refine gl (some 56) rfl Try.func19 #[.slice A0 l0.length c0] ?_; (with_reducible refine (spec_DrawChoosePivot.calls k1 _ _ l0 t625 t628 t631 t634 t635 t636 t637 t638 _ ?side1 ?side2 A16.out).mono ?_); (case side1 => exact uc (Kd.C_below HR0.out HB.out)); (case side2 => exact HC0.out); rintro e w36 ⟨v626, v629, v632, rfl, ho0, ho1, ho2, hb⟩; refine ⟨_, rfl, ?_⟩; have HO627 := mk (Kd.R_lower (Kd.R_new' ho0 (Kd.R_lt (up HO_3.out))) (below_size bl)); have HO630 := mk (Kd.R_lower (Kd.R_new' ho1 (Kd.R_lt (up HO_3.out))) (below_size bl)); replace HO_3 := mk (Kd.R_mono (Kd.R_told (Kd.R_told (Kd.R_old (up HO_3.out) hb) (Kd.R_base ho0)) (Kd.R_base ho1)) (fun _ h_ => h_.1)); have HO633 := mk (Kd.R_lower ho2 (below_size bl)); replace HB := wh hb; (try clear hb); (try clear hb2); (try clear hk); (try clear hi); (try clear ho0); (try clear ho1); (try clear ho2)) | ((with_reducible refine gate_dst (N := 8) rfl ?_); (try (refine gate_guard (by rfl) ?_; dsimp only)); refine bx 8 #[.slice none 0 0, .slice none 0 0, .slice none 0 0] 45 ?_; intro gb639 hg w37 hbox hb; replace HO_3 := mk (Kd.R_below (up HO_3.out) hb); replace HO627 := mk (Kd.R_below (up HO627.out) hb); replace HO630 := mk (Kd.R_below (up HO630.out) hb); replace HO633 := mk (Kd.R_below (up HO633.out) hb); have BK639 := mk hbox; have GW639 := wg hg; have GE639 := wg hg; replace HB := wh hb; clear hb hbox hg) | ((with_reducible refine gate_dst (N := 9) rfl ?_); (try (refine gate_guard (by rfl) ?_; dsimp only)); refine bx 9 #[.int .i64 0, .int .i64 0, .int .i64 0] 47 ?_; intro gb640 hg w38 hbox hb; replace HO_3 := mk (Kd.R_below (up HO_3.out) hb); replace HO627 := mk (Kd.R_below (up HO627.out) hb); replace HO630 := mk (Kd.R_below (up HO630.out) hb); replace HO633 := mk (Kd.R_below (up HO633.out) hb); have BK640 := mk hbox; have GW640 := wg hg; have GE640 := wg hg; replace HB := wh hb; have NB639_640 := nl BK639 hg; have NB640_639 := nr BK639 hg; replace BK639 := wb BK639 hb; clear hb hbox hg; obtain ⟨Ao39, co39, eo39⟩ := Kd.R_slice HO627.out; subst eo39; have hnb40 := NB639_640.out; have hnc40 := NB640_639.out; obtain ⟨hcz41_0, hcz41_1, hcz41_2, hfz41_0, hfz41_1, hfz41_2⟩ := bz3 BK639; obtain ⟨Ao42, co42, eo42⟩ := Kd.R_slice HO630.out; subst eo42; obtain ⟨Ao43, co43, eo43⟩ := Kd.R_slice HO633.out; subst eo43; obtain ⟨hcz44_0, hcz44_1, hcz44_2, hfz44_0, hfz44_1, hfz44_2⟩ := bz3 BK640) | ((with_reducible refine gate_callee (f := 20) rfl ?_); refine gl (some 66) rfl Try.func20 #[.agg #[.slice Ao39 t625.length co39, .slice Ao42 t628.length co42, .slice Ao43 t631.length co43], .agg #[.int .i64 t634, .int .i64 t635, .int .i64 t636], .int .i64 t637, .int .i64 t638] ?_; (with_reducible refine (impl_ChoosePivot.calls k1 _ _ t625 _ _ t628 _ _ t631 t634 t635 t636 t637 t638 t641 t642 t643 t644 _ ?side1 ?side2 ?side3 ?side4 ?side5 ?side6 A17.out).mono ?_); (case side1 => refine (Kd.R_reads' (e := 3) (base := w.heap.size) (ok := fun k_ => (some k_ ≠ (.slice Ao42 t628.length co42 : Value).ownBlock ∧ some k_ ≠ (.slice Ao9 t616.length co9 : Value).ownBlock)) (n := t625.length) (c := co39) ?_).2.2; exact (by exact rs2 HO627 BK639 BK640)); (case side2 => exact (Kd.R_reads' HO627.out).2.1); (case side3 => refine (Kd.R_reads' (e := 3) (base := w.heap.size) (ok := fun k_ => (some k_ ≠ (.slice Ao39 t625.length co39 : Value).ownBlock ∧ some k_ ≠ (.slice Ao9 t616.length co9 : Value).ownBlock)) (n := t628.length) (c := co42) ?_).2.2; exact (by exact rs2 HO630 BK639 BK640)); (case side4 => exact (Kd.R_reads' HO630.out).2.1); (case side5 => refine (Kd.R_reads' (e := 90) (base := w.heap.size) (ok := fun k_ => True) (n := t631.length) (c := co43) ?_).2.2; exact (by exact rs2 HO633 BK639 BK640)); (case side6 => exact (Kd.R_reads' HO633.out).2.1); rintro e w45 ⟨rfl, hb⟩; refine ⟨_, rfl, ?_⟩; replace HO_3 := mk (Kd.R_below (by exact rs2 HO_3 BK639 BK640) hb); replace HO627 := mk (Kd.R_below (by exact rs2 HO627 BK639 BK640) hb); replace HO630 := mk (Kd.R_below (by exact rs2 HO630 BK639 BK640) hb); replace HO633 := mk (Kd.R_below (by exact rs2 HO633 BK639 BK640) hb); replace BK639 := mk (blk_below (g := gb639) (o := .cells #[.slice Ao39 t625.length co39, .slice Ao42 t628.length co42, .slice Ao43 t631.length co43] 45 (0, 0)) bq hb); replace BK640 := mk (blk_below (g := gb640) (o := .cells #[.int .i64 t634, .int .i64 t635, .int .i64 t636] 47 (0, 0)) bq hb); replace HB := wh hb; (try clear hb); (try clear hb2); (try clear hk); (try clear hi)) | ((with_reducible refine gate_dst (N := 13) rfl ?_); (try (refine gate_guard (by rfl) ?_; dsimp only)); refine bx 13 #[.int .i64 0, .int .i64 0, .int .i64 0] 47 ?_; intro gb645 hg w46 hbox hb; replace HO_3 := mk (Kd.R_below (up HO_3.out) hb); replace HO627 := mk (Kd.R_below (up HO627.out) hb); replace HO630 := mk (Kd.R_below (up HO630.out) hb); replace HO633 := mk (Kd.R_below (up HO633.out) hb); have BK645 := mk hbox; have GW645 := wg hg; have GE645 := wg hg; replace HB := wh hb; have NB639_645 := nl BK639 hg; have NB645_639 := nr BK639 hg; replace BK639 := wb BK639 hb; have NB640_645 := nl BK640 hg; have NB645_640 := nr BK640 hg; replace BK640 := wb BK640 hb; clear hb hbox hg; have hnb47 := NB645_639.out; have hnc47 := NB639_645.out; have hnb48 := NB645_640.out; have hnc48 := NB640_645.out; obtain ⟨hcz49_0, hcz49_1, hcz49_2, hfz49_0, hfz49_1, hfz49_2⟩ := bz3 BK645; obtain ⟨hcz50_0, hcz50_1, hcz50_2, hfz50_0, hfz50_1, hfz50_2⟩ := bz3 BK639; obtain ⟨hcz51_0, hcz51_1, hcz51_2, hfz51_0, hfz51_1, hfz51_2⟩ := bz3 BK640) | ((with_reducible refine gate_callee (f := 21) rfl ?_); refine gl (some 74) rfl Try.func21 #[.agg #[.slice Ao39 t625.length co39, .slice Ao42 t628.length co42, .slice Ao43 t631.length co43], .agg #[.int .i64 t634, .int .i64 t635, .int .i64 t636], .int .i64 t637, .int .i64 t638] ?_; (with_reducible refine (spec_ChoosePivot.calls k1 _ _ t625 _ _ t628 _ _ t631 t634 t635 t636 t637 t638 t646 t647 t648 t649 _ ?side1 ?side2 ?side3 ?side4 ?side5 ?side6 A18.out).mono ?_); (case side1 => refine (Kd.R_reads' (e := 3) (base := w.heap.size) (ok := fun k_ => (some k_ ≠ (.slice Ao42 t628.length co42 : Value).ownBlock ∧ some k_ ≠ (.slice Ao9 t616.length co9 : Value).ownBlock)) (n := t625.length) (c := co39) ?_).2.2; exact (by exact rs1 HO627 BK645)); (case side2 => exact (Kd.R_reads' HO627.out).2.1); (case side3 => refine (Kd.R_reads' (e := 3) (base := w.heap.size) (ok := fun k_ => (some k_ ≠ (.slice Ao39 t625.length co39 : Value).ownBlock ∧ some k_ ≠ (.slice Ao9 t616.length co9 : Value).ownBlock)) (n := t628.length) (c := co42) ?_).2.2; exact (by exact rs1 HO630 BK645)); (case side4 => exact (Kd.R_reads' HO630.out).2.1); (case side5 => refine (Kd.R_reads' (e := 90) (base := w.heap.size) (ok := fun k_ => True) (n := t631.length) (c := co43) ?_).2.2; exact (by exact rs1 HO633 BK645)); (case side6 => exact (Kd.R_reads' HO633.out).2.1); rintro e w52 ⟨rfl, hb⟩; refine ⟨_, rfl, ?_⟩; replace HO_3 := mk (Kd.R_below (by exact rs1 HO_3 BK645) hb); replace HO627 := mk (Kd.R_below (by exact rs1 HO627 BK645) hb); replace HO630 := mk (Kd.R_below (by exact rs1 HO630 BK645) hb); replace HO633 := mk (Kd.R_below (by exact rs1 HO633 BK645) hb); replace BK639 := wx BK639 hb; replace BK640 := wx BK640 hb; replace BK645 := mk (blk_below (g := gb645) (o := .cells #[.int .i64 t642, .int .i64 t643, .int .i64 t644] 47 (0, 0)) bq hb); replace HB := wh hb; (try clear hb); (try clear hb2); (try clear hk); (try clear hi); replace HO_3 := mk (Kd.R_mono (ok' := (fun _ => True)) HO_3.out (fun k_ hk => trivial)); clear HO627; clear HO630; clear HO633) | ((with_reducible refine gate_dst (N := 15) rfl ?_); (try (refine gate_guard (by rfl) ?_; dsimp only)); refine bx 15 #[.int .i64 0, .int .i64 0, .int .i64 0] 47 ?_; intro gb650 hg w53 hbox hb; replace HO_3 := mk (Kd.R_below (up HO_3.out) hb); have BK650 := mk hbox; have GW650 := wg hg; have GE650 := wg hg; replace HB := wh hb; have NB639_650 := nl BK639 hg; have NB650_639 := nr BK639 hg; replace BK639 := wb BK639 hb; have NB640_650 := nl BK640 hg; have NB650_640 := nr BK640 hg; replace BK640 := wb BK640 hb; have NB645_650 := nl BK645 hg; have NB650_645 := nr BK645 hg; replace BK645 := wb BK645 hb; clear hb hbox hg; have hnb54 := NB650_639.out; have hnc54 := NB639_650.out; have hnb55 := NB650_640.out; have hnc55 := NB640_650.out; have hnb56 := NB650_645.out; have hnc56 := NB645_650.out; obtain ⟨hcz57_0, hcz57_1, hcz57_2, hfz57_0, hfz57_1, hfz57_2⟩ := bz3 BK650) | ((with_reducible refine gate_callee (f := 22) rfl ?_); refine gl (some 79) rfl Try.func22 #[.slice A0 l0.length c0] ?_; (with_reducible refine (spec_DrawLevels.calls k1 _ _ l0 t651 t652 _ ?side1 ?side2 A19.out).mono ?_); (case side1 => exact Kd.C_below HR0.out bl); (case side2 => exact HC0.out); rintro e w58 ⟨rfl, hb⟩; refine ⟨_, rfl, ?_⟩; replace HO_3 := mk (Kd.R_below (by exact rs1 HO_3 BK650) hb); replace BK639 := wx BK639 hb; replace BK640 := wx BK640 hb; replace BK645 := wx BK645 hb; replace BK650 := mk (blk_below (g := gb650) (o := .cells #[.int .i64 t647, .int .i64 t648, .int .i64 t649] 47 (0, 0)) bq hb); replace HB := wh hb; (try clear hb); (try clear hb2); (try clear hk); (try clear hi)) | ((with_reducible refine gate_callee (f := 23) rfl ?_); refine gl (some 83) rfl Try.func23 #[.slice A0 l0.length c0] ?_; (with_reducible refine (spec_DrawNextSeed.calls k1 _ _ l0 t653 _ ?side1 ?side2 A20.out).mono ?_); (case side1 => exact uc (Kd.C_below HR0.out HB.out)); (case side2 => exact HC0.out); rintro e w59 ⟨rfl, hb⟩; refine ⟨_, rfl, ?_⟩; replace HO_3 := mk (Kd.R_below (up HO_3.out) hb); replace BK639 := wb BK639 hb; replace BK640 := wb BK640 hb; replace BK645 := wb BK645 hb; replace BK650 := wb BK650 hb; replace HB := wh hb; (try clear hb); (try clear hb2); (try clear hk); (try clear hi)) | ((with_reducible refine gate_callee (f := 24) rfl ?_); refine gl (some 85) rfl Try.func24 #[.int .i64 t653] ?_; (with_reducible refine (impl_NextSeed.calls t653 t654 _ A21.out).mono ?_); rintro e w' ⟨rfl, ⟨nd, rfl⟩⟩; refine ⟨_, rfl, ?_⟩; obtain ⟨hcz60_0, hcz60_1, hcz60_2, hfz60_0, hfz60_1, hfz60_2⟩ := bz3 BK645; obtain ⟨hcz61_0, hcz61_1, hcz61_2, hfz61_0, hfz61_1, hfz61_2⟩ := bz3 BK650) | (go_at_call 25; (with_reducible refine (impl_Levels.calls k1 t651 t652 t655 _ A26.out).mono ?_); rintro e w62 ⟨rfl, hb⟩; replace HO_3 := mk (Kd.R_below (up HO_3.out) hb); replace BK639 := wb BK639 hb; replace BK640 := wb BK640 hb; replace BK645 := wb BK645 hb; replace BK650 := wb BK650 hb; replace HB := wh hb; (try clear hb); (try clear hb2); (try clear hk); (try clear hi)) | (go_at_call 26; (with_reducible refine (spec_Levels.calls k1 t651 t652 t656 _ A27.out).mono ?_); rintro e w63 ⟨rfl, hb⟩; replace HO_3 := mk (Kd.R_below (up HO_3.out) hb); replace BK639 := wb BK639 hb; replace BK640 := wb BK640 hb; replace BK645 := wb BK645 hb; replace BK650 := wb BK650 hb; replace HB := wh hb; (try clear hb); (try clear hb2); (try clear hk); (try clear hi)) | (go_at_call 27; (with_reducible refine (spec_NextSeed.calls t653 t657 _ A29.out).mono ?_); rintro e w' ⟨rfl, ⟨nd, rfl⟩⟩) | (go_at_call 29; (with_reducible refine (impl_SortInts.calls _ _ t616 t658 _ ?side1 ?side2 A33.out).mono ?_); (case side1 => exact uc (Kd.R_reads' HO_3.out).2.2); (case side2 => exact (Kd.R_reads' HO_3.out).2.1); rintro e w64 ⟨v659, rfl, ho0, hb⟩; have HO660 := mk (Kd.R_lower (Kd.R_new' ho0 (Kd.R_lt (up HO_3.out))) (below_size bl)); replace HO_3 := mk (Kd.R_elder' (up HO_3.out) (Kd.R_base ho0) hb); replace BK639 := wb BK639 hb; replace BK640 := wb BK640 hb; replace BK645 := wb BK645 hb; replace BK650 := wb BK650 hb; replace HB := wh hb; (try clear hb); (try clear hb2); (try clear hk); (try clear hi); (try clear ho0)) | (go_at_call 30; (with_reducible refine (spec_SortInts.calls k1 _ _ t616 t661 _ ?side1 ?side2 A34.out).mono ?_); (case side1 => exact uc (Kd.R_reads' HO_3.out).2.2); (case side2 => exact (Kd.R_reads' HO_3.out).2.1); rintro e w65 ⟨v662, rfl, ho0, hb⟩; have HO663 := mk (Kd.R_lower (Kd.R_new' (Kd.R_new' ho0 (Kd.R_lt (up HO_3.out))) (Kd.R_lt (up HO660.out))) (below_size bl)); replace HO_3 := mk (Kd.R_elder' (up HO_3.out) (Kd.R_base ho0) hb); replace HO660 := mk (Kd.R_elder' (up HO660.out) (Kd.R_base ho0) hb); replace BK639 := wb BK639 hb; replace BK640 := wb BK640 hb; replace BK645 := wb BK645 hb; replace BK650 := wb BK650 hb; replace HB := wh hb; (try clear hb); (try clear hb2); (try clear hk); (try clear hi); (try clear ho0); replace HO660 := mk (Kd.R_mono (ok' := (fun k_ => some k_ ≠ (v662 : Value).ownBlock)) HO660.out (fun k_ hk => hk.2)); replace HO663 := mk (Kd.R_mono (ok' := (fun k_ => some k_ ≠ (v659 : Value).ownBlock)) HO663.out (fun k_ hk => hk.2)); clear HO_3; obtain ⟨Ao66, co66, eo66⟩ := Kd.R_slice HO660.out; subst eo66; obtain ⟨Ao67, co67, eo67⟩ := Kd.R_slice HO663.out; subst eo67) | (go_at_call 28; (with_reducible refine (laws_sameInts.calls k1 _ _ t658 _ _ t661 t664 _ ?side1 ?side2 ?side3 ?side4 A35.out).mono ?_); (case side1 => exact uc (Kd.R_reads' HO660.out).2.2); (case side2 => exact (Kd.R_reads' HO660.out).2.1); (case side3 => exact uc (Kd.R_reads' HO663.out).2.2); (case side4 => exact (Kd.R_reads' HO663.out).2.1); rintro e w' ⟨rfl, ⟨nd, rfl⟩⟩))
              go_ret
              exact ⟨by first | rfl | (simp [errW_none, errW_some] <;> rfl) | (simp [*, errW_none, errW_some] <;> rfl), bl⟩
             ·rw [if_neg c32] at H
              exact absurd H (by simp)
            ·rw [if_neg c31] at H
             exact absurd H (by simp)
           ·rw [if_neg c30] at H
            exact absurd H (by simp)
          ·rw [if_neg c28] at H
           exact absurd H (by simp)
         ·rw [if_neg c25] at H
          exact absurd H (by simp)
        ·rw [if_neg c24] at H
         exact absurd H (by simp)
       ·rw [if_neg c23] at H
        exact absurd H (by simp)
      ·rw [if_neg c22] at H
       exact absurd H (by simp)
  ·rw [if_neg c7] at H
   exact absurd H (by simp)

/-- THE ONE PURE STATEMENT of laws_FnMedians: yours. -/
def laws_FnMedians.Pure : Prop := ∀ (l0 : List Int), l0.length ≤ maxLen → l0.length * 1 ≤ 140737488351232 → (∀ x ∈ l0, (Lit.int .u8 x).wf = true) → ∃ k, laws_FnMedians.f k l0 = some true
theorem laws_FnMedians.walk (P : laws_FnMedians.Pure) (a0 : Option Addr) (len0 cap0 : Nat) (z0 : List Int) (w : World) (w0 : (a0 = none ∧ len0 = 0 ∧ cap0 = 0 ∧ z0 = []) ∨ ∃ x, a0 = some x ∧ len0 ≤ cap0 ∧ cap0 ≤ maxLen ∧ z0.length = cap0 ∧ (∀ i, i < z0.length → w.cell? (x.add i) = some (.int .u8 (z0.getD i 0))) ∧ ∀ n ∈ z0, (Lit.int .u8 n).wf = true) (y0 : len0 * 1 ≤ 140737488351232) :
  Calls Try.prog 4 #[.slice a0 len0 cap0] w fun e w' => e = .returned (.bool true) ∧ Below w.heap.size w w' := by
 obtain ⟨l0, rfl, hr0, hm0, hw0, hc0⟩ := ReadsInt.ofRowC w0
 obtain ⟨k, h⟩ := P l0 hm0 y0 hw0
 refine (laws_FnMedians.calls k _ _ l0 true w (Kd.C_of_reads (d := (0 : Int)) (h1 := fun _ => rfl) hr0) hc0 ⟨rfl⟩ h).mono ?_
 rintro e w' ⟨rfl, hd⟩
 exact ⟨rfl, hd⟩

end Go.Proofs.Ytlikcmonejefoac.PFnMedians
