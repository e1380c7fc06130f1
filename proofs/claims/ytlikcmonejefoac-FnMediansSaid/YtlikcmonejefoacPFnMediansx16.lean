-- printed by a program of this session, a turned copy of the print of the kit
import Derived.Test.YtlikcmonejefoacSq
import Derived.Test.YtlikcmonejefoacPFnMediansx0
import Derived.Test.YtlikcmonejefoacPFnMediansx3
import Derived.Test.YtlikcmonejefoacPFnMediansx5
import Derived.Test.YtlikcmonejefoacPFnMediansx15
namespace Go.Proofs.Ytlikcmonejefoac.PFnMedians
open Go.RowKit Go.Proofs.YtlikcmonejefoacW.PrintWords Go.Proofs.YtlikcmonejefoacW.PrintLast Go.Proofs.YtlikcmonejefoacW.PrintMore Go.Proofs.Ytlikcmonejefoac.Sq
attribute [local go_sem] max2_int min2_int max_two min_two max_three min_three max_four min_four Giv.cell_twice   -- for this text's walks alone
set_option linter.unusedVariables false
set_option linter.unusedSimpArgs false

/-! ### spec_IsSettings: function 48 -/
def spec_IsSettings.f (a0_0 : Int) (a0_1 : Int) (a0_2 : Int) : Option (Bool) := (spec_l1In.f a0_0 0 2).bind fun t574 => (if t574 = true then ((spec_l1In.f a0_1 1 64).bind fun t575 => (if t575 = true then ((spec_l1In.f a0_2 0 10006).bind fun t576 => (some t576)) else (some false))) else (some false))
set_option maxHeartbeats 8000000 in
set_option maxRecDepth 100000 in
theorem spec_IsSettings.calls (a0_0 : Int) (a0_1 : Int) (a0_2 : Int) (r : Bool) (w : World) (h : spec_IsSettings.f a0_0 a0_1 a0_2 = some r) :
    Calls Try.prog 48 #[.agg #[.int .i64 a0_0, .int .i64 a0_1, .int .i64 a0_2]] w fun e w' => e = .returned (.bool r) ∧ Below w.heap.size w w' := by
  have hu47 := Try.underlying47
  have HB := Aside0.mk (Below.refl w.heap.size w)
  have H : ((spec_l1In.f a0_0 0 2).bind fun t574 => (if t574 = true then ((spec_l1In.f a0_1 1 64).bind fun t575 => (if t575 = true then ((spec_l1In.f a0_2 0 10006).bind fun t576 => (some t576)) else (some false))) else (some false))) = some r := h
  clear h
  revert H; refine bo ?_; rintro t574 A2 H
  by_cases c3 : t574 = true
  · subst c3
    rw [if_pos rfl] at H
    revert H; refine bo ?_; rintro t575 A4 H
    by_cases c5 : t575 = true
    · subst c5
      rw [if_pos rfl] at H
      revert H; refine bo ?_; rintro t576 A6 H
      obtain rfl := Option.some.inj H
      go_enter Try.func48, Try.ntmps48
      go_wp2_with (first | ((with_reducible refine gate_dst (N := 1) rfl ?_); refine bx 1 #[.int .i64 a0_0, .int .i64 a0_1, .int .i64 a0_2] 47 ?_; intro gb573 hg w7 hbox hb; have BK573 := mk hbox; have GW573 := wg hg; have GE573 := wg hg; replace HB := wh hb; clear hb hbox hg; obtain ⟨hcz8_0, hcz8_1, hcz8_2, hfz8_0, hfz8_1, hfz8_2⟩ := bz3 BK573) | ((with_reducible refine gate_callee (f := 53) rfl ?_); refine gl (some 5) rfl Try.func53 #[.int .i64 a0_0, .int .i64 0, .int .i64 2] ?_; (with_reducible refine (spec_l1In.calls a0_0 0 2 true _ A2.out).mono ?_); rintro e w' ⟨rfl, ⟨nd, rfl⟩⟩; refine ⟨_, rfl, ?_⟩) | (go_at_call 53; (with_reducible refine (spec_l1In.calls a0_1 1 64 true _ A4.out).mono ?_); rintro e w' ⟨rfl, ⟨nd, rfl⟩⟩) | (go_at_call 53; (with_reducible refine (spec_l1In.calls a0_2 0 10006 t576 _ A6.out).mono ?_); rintro e w' ⟨rfl, ⟨nd, rfl⟩⟩))
      go_ret
      exact ⟨by first | rfl | (simp [errW_none, errW_some] <;> rfl) | (simp [*, errW_none, errW_some] <;> rfl), bl⟩
    · replace c5 := Bool.eq_false_iff.mpr c5
      subst c5
      rw [if_neg nf] at H
      obtain rfl := Option.some.inj H
      go_enter Try.func48, Try.ntmps48
      go_wp2_with (first | ((with_reducible refine gate_dst (N := 1) rfl ?_); refine bx 1 #[.int .i64 a0_0, .int .i64 a0_1, .int .i64 a0_2] 47 ?_; intro gb573 hg w9 hbox hb; have BK573 := mk hbox; have GW573 := wg hg; have GE573 := wg hg; replace HB := wh hb; clear hb hbox hg; obtain ⟨hcz10_0, hcz10_1, hcz10_2, hfz10_0, hfz10_1, hfz10_2⟩ := bz3 BK573) | ((with_reducible refine gate_callee (f := 53) rfl ?_); refine gl (some 5) rfl Try.func53 #[.int .i64 a0_0, .int .i64 0, .int .i64 2] ?_; (with_reducible refine (spec_l1In.calls a0_0 0 2 true _ A2.out).mono ?_); rintro e w' ⟨rfl, ⟨nd, rfl⟩⟩; refine ⟨_, rfl, ?_⟩) | (go_at_call 53; (with_reducible refine (spec_l1In.calls a0_1 1 64 false _ A4.out).mono ?_); rintro e w' ⟨rfl, ⟨nd, rfl⟩⟩))
      go_ret
      exact ⟨by first | rfl | (simp [errW_none, errW_some] <;> rfl) | (simp [*, errW_none, errW_some] <;> rfl), bl⟩
  · replace c3 := Bool.eq_false_iff.mpr c3
    subst c3
    rw [if_neg nf] at H
    obtain rfl := Option.some.inj H
    go_enter Try.func48, Try.ntmps48
    go_wp2_with (first | ((with_reducible refine gate_dst (N := 1) rfl ?_); refine bx 1 #[.int .i64 a0_0, .int .i64 a0_1, .int .i64 a0_2] 47 ?_; intro gb573 hg w11 hbox hb; have BK573 := mk hbox; have GW573 := wg hg; have GE573 := wg hg; replace HB := wh hb; clear hb hbox hg; obtain ⟨hcz12_0, hcz12_1, hcz12_2, hfz12_0, hfz12_1, hfz12_2⟩ := bz3 BK573) | ((with_reducible refine gate_callee (f := 53) rfl ?_); refine gl (some 5) rfl Try.func53 #[.int .i64 a0_0, .int .i64 0, .int .i64 2] ?_; (with_reducible refine (spec_l1In.calls a0_0 0 2 false _ A2.out).mono ?_); rintro e w' ⟨rfl, ⟨nd, rfl⟩⟩; refine ⟨_, rfl, ?_⟩))
    go_ret
    exact ⟨by first | rfl | (simp [errW_none, errW_some] <;> rfl) | (simp [*, errW_none, errW_some] <;> rfl), bl⟩

/-! ### spec_ChoosePivot: function 21 -/
def spec_ChoosePivot.j0 : Nat → Int → Int → Bool → List Int → List Int → List (S90) → Int → Int → Int → Option (Int × Int × Int × Int)
 | 0, _, _, _, _, _, _, _, _, _ => none
 | k + 1, x2, x3, x34, x578000, x578001, x578002, x579000, x579001, x579002 => if x34 = true then (some (0, x579000, x579001, x579002)) else (if x579000 = 2 then ((spec_NextSeed.f x579002).bind fun t583 => (if (wrap64 (x3 - x2)) = 0 then (none) else (if 0 ≤ (wrap64 (x2 + (Int.tmod t583 (wrap64 (x3 - x2))))) then (if (wrap64 (x2 + (Int.tmod t583 (wrap64 (x3 - x2))))) < (x578000.length : Int) then (some (rd x578000 (wrap64 (x2 + (Int.tmod t583 (wrap64 (x3 - x2))))), x579000, x579001, t583)) else (none)) else (none)))) else (if 0 ≤ x2 then (if x2 ≤ x3 then (if x3 ≤ (x578000.length : Int) then ((spec_MedianOf.f k ((x578000.take (x3 : Int).toNat).drop (x2 : Int).toNat)).bind fun t586 => (some (t586, x579000, x579001, x579002))) else (none)) else (none)) else (none)))
def spec_ChoosePivot.f (k : Nat) (l0_0 : List Int) (l0_1 : List Int) (l0_2 : List (S90)) (a1_0 : Int) (a1_1 : Int) (a1_2 : Int) (a2 : Int) (a3 : Int) : Option (Int × Int × Int × Int) := (spec_IsCracker.f k l0_0 l0_1 l0_2).bind fun t580 => (if t580 = true then ((spec_IsSettings.f a1_0 a1_1 a1_2).bind fun t581 => (if t581 = true then (if a2 < 0 then (spec_ChoosePivot.j0 k a2 a3 true l0_0 l0_1 l0_2 a1_0 a1_1 a1_2) else (if a2 ≥ a3 then (spec_ChoosePivot.j0 k a2 a3 true l0_0 l0_1 l0_2 a1_0 a1_1 a1_2) else (spec_ChoosePivot.j0 k a2 a3 (decide (a3 > (l0_0.length : Int))) l0_0 l0_1 l0_2 a1_0 a1_1 a1_2))) else (spec_ChoosePivot.j0 k a2 a3 true l0_0 l0_1 l0_2 a1_0 a1_1 a1_2))) else (spec_ChoosePivot.j0 k a2 a3 true l0_0 l0_1 l0_2 a1_0 a1_1 a1_2))
theorem spec_ChoosePivot.mono_l : ∀ k, (∀ y0 y1 y2 y3 y4 y5 y6 y7 y8, LeO (spec_ChoosePivot.j0 k y0 y1 y2 y3 y4 y5 y6 y7 y8) (spec_ChoosePivot.j0 (k + 1) y0 y1 y2 y3 y4 y5 y6 y7 y8))
 | 0 => fun _ _ _ _ _ _ _ _ _ r h => by simp [spec_ChoosePivot.j0] at h
 | k + 1 => by
  have ih0 := spec_ChoosePivot.mono_l k
  ·intro y0 y1 y2 y3 y4 y5 y6 y7 y8
   unfold spec_ChoosePivot.j0
   exact mo
theorem spec_ChoosePivot.mono : ∀ a0 a1 a2 a3 a4 a5 a6 a7 k, LeO (spec_ChoosePivot.f k a0 a1 a2 a3 a4 a5 a6 a7) (spec_ChoosePivot.f (k + 1) a0 a1 a2 a3 a4 a5 a6 a7) := by
 intro a0 a1 a2 a3 a4 a5 a6 a7 k
 have ih0 := spec_ChoosePivot.mono_l k
 unfold spec_ChoosePivot.f
 exact mo
instance spec_ChoosePivot.mi (a0 a1 a2 a3 a4 a5 a6 a7 k) : LeC (spec_ChoosePivot.f k a0 a1 a2 a3 a4 a5 a6 a7) (spec_ChoosePivot.f (k + 1) a0 a1 a2 a3 a4 a5 a6 a7) := ⟨spec_ChoosePivot.mono a0 a1 a2 a3 a4 a5 a6 a7 k⟩
def spec_ChoosePivot.T6 : Bool × List (List Nat × List Nat) := (true, [([], []), ([0], [0]), ([], []), ([], []), ([3], [3]), ([], []), ([], []), ([5, 6], [5, 6]), ([4, 7], [4, 7]), ([2, 8], [2, 8]), ([1, 9], [1, 9]), ([10], [10]), ([], []), ([11, 0, 1, 2, 3, 4, 5, 6, 7, 8, 9, 10, 11], [11]), ([12, 13, 0, 1, 2, 3, 4, 5, 6, 7, 8, 9, 10, 11, 12, 13], [12])])
def spec_ChoosePivot.B6 : List Nat := [0, 1, 0, 0, 8, 0, 0, 96, 248, 508, 1023, 2047, 0, 4095, 16383]
theorem spec_ChoosePivot.tab6 : rtab .any (opsOf Try.f21 6) = spec_ChoosePivot.T6 := by kernel_rfl
theorem spec_ChoosePivot.bits6 : waitsOk spec_ChoosePivot.T6.2 spec_ChoosePivot.B6 = true := by kernel_rfl
def spec_ChoosePivot.T7 : Bool × List (List Nat × List Nat) := (true, [([], []), ([0], [0]), ([], []), ([], []), ([1, 2, 3], [1, 2, 3]), ([4], [4]), ([], []), ([5, 5, 0, 1, 2, 3, 4, 5], [5]), ([6, 7, 0, 1, 2, 3, 4, 5, 6, 7], [6])])
def spec_ChoosePivot.B7 : List Nat := [0, 1, 0, 0, 15, 31, 0, 63, 255]
theorem spec_ChoosePivot.tab7 : rtab .any (opsOf Try.f21 7) = spec_ChoosePivot.T7 := by kernel_rfl
theorem spec_ChoosePivot.bits7 : waitsOk spec_ChoosePivot.T7.2 spec_ChoosePivot.B7 = true := by kernel_rfl
set_option maxHeartbeats 8000000 in
set_option maxRecDepth 100000 in
theorem spec_ChoosePivot.calls (k : Nat) (A0_0 : Option Addr) (c0_0 : Nat) (l0_0 : List Int) (A0_1 : Option Addr) (c0_1 : Nat) (l0_1 : List Int) (A0_2 : Option Addr) (c0_2 : Nat) (l0_2 : List (S90)) (a1_0 : Int) (a1_1 : Int) (a1_2 : Int) (a2 : Int) (a3 : Int) (r1 : Int) (r2 : Int) (r3 : Int) (r4 : Int) (w : World) (hr0_0 : Kd.C (Kd.int .i64) w A0_0 l0_0.length l0_0) (hc0_0 : l0_0.length ≤ c0_0) (hr0_1 : Kd.C (Kd.int .i64) w A0_1 l0_1.length l0_1) (hc0_1 : l0_1.length ≤ c0_1) (hr0_2 : Kd.C k90 w A0_2 l0_2.length l0_2) (hc0_2 : l0_2.length ≤ c0_2) (h : spec_ChoosePivot.f k l0_0 l0_1 l0_2 a1_0 a1_1 a1_2 a2 a3 = some (r1, r2, r3, r4)) :
  Calls Try.prog 21 #[.agg #[.slice A0_0 l0_0.length c0_0, .slice A0_1 l0_1.length c0_1, .slice A0_2 l0_2.length c0_2], .agg #[.int .i64 a1_0, .int .i64 a1_1, .int .i64 a1_2], .int .i64 a2, .int .i64 a3] w fun e w' => e = .returned (.tuple #[.int .i64 r1, .agg #[.int .i64 r2, .int .i64 r3, .int .i64 r4]]) ∧ Below w.heap.size w w' := by
 have hu45 := Try.underlying45
 have hu47 := Try.underlying47
 have HR0_0 := Aside0.mk hr0_0
 have HC0_0 := Aside0.mk hc0_0
 clear hr0_0 hc0_0
 have HR0_1 := Aside0.mk hr0_1
 have HC0_1 := Aside0.mk hc0_1
 clear hr0_1 hc0_1
 have HR0_2 := Aside0.mk hr0_2
 have HC0_2 := Aside0.mk hc0_2
 clear hr0_2 hc0_2
 have HB := Aside0.mk (Below.refl w.heap.size w)
 have H : ((spec_IsCracker.f k l0_0 l0_1 l0_2).bind fun t580 => (if t580 = true then ((spec_IsSettings.f a1_0 a1_1 a1_2).bind fun t581 => (if t581 = true then (if a2 < 0 then (spec_ChoosePivot.j0 k a2 a3 true l0_0 l0_1 l0_2 a1_0 a1_1 a1_2) else (if a2 ≥ a3 then (spec_ChoosePivot.j0 k a2 a3 true l0_0 l0_1 l0_2 a1_0 a1_1 a1_2) else (spec_ChoosePivot.j0 k a2 a3 (decide (a3 > (l0_0.length : Int))) l0_0 l0_1 l0_2 a1_0 a1_1 a1_2))) else (spec_ChoosePivot.j0 k a2 a3 true l0_0 l0_1 l0_2 a1_0 a1_1 a1_2))) else (spec_ChoosePivot.j0 k a2 a3 true l0_0 l0_1 l0_2 a1_0 a1_1 a1_2))) = some (r1, r2, r3, r4) := h
 clear h
 have HC5 := Aside0.mk H
 clear H
 go_enter Try.func21, Try.ntmps21
 go_upto_region 1 with (first | ((with_reducible refine gate_dst (N := 4) rfl ?_); (try (refine gate_guard (by rfl) ?_; dsimp only)); refine bx 4 #[.slice A0_0 l0_0.length c0_0, .slice A0_1 l0_1.length c0_1, .slice A0_2 l0_2.length c0_2] 45 ?_; intro gb577 hg w6 hbox hb; have BK577 := mk hbox; have GW577 := wg hg; have GE577 := wg hg; replace HB := wh hb; clear hb hbox hg) | ((with_reducible refine gate_dst (N := 5) rfl ?_); (try (refine gate_guard (by rfl) ?_; dsimp only)); refine bx 5 #[.int .i64 a1_0, .int .i64 a1_1, .int .i64 a1_2] 47 ?_; intro gb578 hg w7 hbox hb; have BK578 := mk hbox; have GW578 := wg hg; have GE578 := wg hg; replace HB := wh hb; have NB577_578 := nl BK577 hg; have NB578_577 := nr BK577 hg; replace BK577 := wb BK577 hb; clear hb hbox hg) | ((with_reducible refine gate_dst (N := 9) rfl ?_); (try (refine gate_guard (by rfl) ?_; dsimp only)); refine bx 9 #[.int .i64 0, .int .i64 0, .int .i64 0] 47 ?_; intro gb579 hg w8 hbox hb; have BK579 := mk hbox; have GW579 := wg hg; have GE579 := wg hg; replace HB := wh hb; have NB577_579 := nl BK577 hg; have NB579_577 := nr BK577 hg; replace BK577 := wb BK577 hb; have NB578_579 := nl BK578 hg; have NB579_578 := nr BK578 hg; replace BK578 := wb BK578 hb; clear hb hbox hg))
 (try simp only [Act.put, List.setIfInBounds_toArray, List.set_cons_zero, List.set_cons_succ])
 go_cut [34] (fun v34 wc => ∃ (kq : Nat) (x34_4 : Bool), v34 = .bool x34_4 ∧ Aside0 (spec_ChoosePivot.j0 kq a2 a3 x34_4 l0_0 l0_1 l0_2 a1_0 a1_1 a1_2 = some (r1, r2, r3, r4)) ∧ Aside0 (kq ≤ k) ∧ Aside0 (wc.heap[gb577]? = some (.cells #[(.slice A0_0 l0_0.length c0_0), (.slice A0_1 l0_1.length c0_1), (.slice A0_2 l0_2.length c0_2)] 45 (0, 0))) ∧ Aside0 (wc.heap[gb578]? = some (.cells #[.int .i64 a1_0, .int .i64 a1_1, .int .i64 a1_2] 47 (0, 0))) ∧ Aside0 (wc.heap[gb579]? = some (.cells #[.int .i64 0, .int .i64 0, .int .i64 0] 47 (0, 0))) ∧ Aside0 (Below w.heap.size w wc))
 case first =>
  have H := HC5.out
  clear HC5
  revert H; refine bo ?_; rintro t580 A9 H
  by_cases c10 : t580 = true
  ·subst c10
   rw [if_pos rfl] at H
   revert H; refine bo ?_; rintro t581 A11 H
   by_cases c12 : t581 = true
   ·subst c12
    rw [if_pos rfl] at H
    by_cases c13 : a2 < 0
    ·rw [if_pos c13] at H
     have c13b0 : decide (a2 < 0) = true := decide_eq_true c13
     clear c13
     (first | rw [c13b0] | (simp only [i64_w, i32_w]; rw [c13b0]) | skip)
     have H' := Aside0.mk H
     clear H
     have hnb14 := NB577_578.out
     have hnc14 := NB578_577.out
     have hnb15 := NB577_579.out
     have hnc15 := NB579_577.out
     obtain ⟨hcz16_0, hcz16_1, hcz16_2, hfz16_0, hfz16_1, hfz16_2⟩ := bz3 BK577
     go_wp2_with (first | ((with_reducible refine gate_callee (f := 47) rfl ?_); refine gl (some 12) rfl Try.func47 #[.agg #[.slice A0_0 l0_0.length c0_0, .slice A0_1 l0_1.length c0_1, .slice A0_2 l0_2.length c0_2]] ?_; (with_reducible refine (spec_IsCracker.calls k _ _ l0_0 _ _ l0_1 _ _ l0_2 true _ ?side1 ?side2 ?side3 ?side4 ?side5 ?side6 A9.out).mono ?_); (case side1 => exact uc (Kd.C_below HR0_0.out HB.out)); (case side2 => exact HC0_0.out); (case side3 => exact uc (Kd.C_below HR0_1.out HB.out)); (case side4 => exact HC0_1.out); (case side5 => exact uc (Kd.C_below HR0_2.out HB.out)); (case side6 => exact HC0_2.out); rintro e w17 ⟨rfl, hb⟩; refine ⟨_, rfl, ?_⟩; replace BK577 := wb BK577 hb; replace BK578 := wb BK578 hb; replace BK579 := wb BK579 hb; replace HB := wh hb; (try clear hb); (try clear hb2); (try clear hk); (try clear hi); have hnb18 := NB578_579.out; have hnc18 := NB579_578.out; obtain ⟨hcz19_0, hcz19_1, hcz19_2, hfz19_0, hfz19_1, hfz19_2⟩ := bz3 BK578) | (go_at_call 48; (with_reducible refine (spec_IsSettings.calls a1_0 a1_1 a1_2 true _ A11.out).mono ?_); rintro e w20 ⟨rfl, hb⟩; replace BK577 := wb BK577 hb; replace BK578 := wb BK578 hb; replace BK579 := wb BK579 hb; replace HB := wh hb; (try clear hb); (try clear hb2); (try clear hk); (try clear hi)))
     go_meet
     case rel => exact ⟨_, (true), (by first | rfl | (simp; done) | (simp [*]; done)), H', ⟨by first | omega | exact Nat.le_refl _⟩, ⟨ub BK577.out⟩, ⟨ub BK578.out⟩, ⟨ub BK579.out⟩, ⟨bl⟩⟩
    ·rw [if_neg c13] at H
     have c13b0 : decide (a2 < 0) = false := decide_eq_false c13
     clear c13
     (first | rw [c13b0] | (simp only [i64_w, i32_w]; rw [c13b0]) | skip)
     by_cases c21 : a2 ≥ a3
     ·rw [if_pos c21] at H
      have c21b0 : decide (a3 ≤ a2) = true := decide_eq_true c21
      clear c21
      have H' := Aside0.mk H
      clear H
      have hnb22 := NB577_578.out
      have hnc22 := NB578_577.out
      have hnb23 := NB577_579.out
      have hnc23 := NB579_577.out
      obtain ⟨hcz24_0, hcz24_1, hcz24_2, hfz24_0, hfz24_1, hfz24_2⟩ := bz3 BK577
      go_wp2_with (first | ((with_reducible refine gate_callee (f := 47) rfl ?_); refine gl (some 12) rfl Try.func47 #[.agg #[.slice A0_0 l0_0.length c0_0, .slice A0_1 l0_1.length c0_1, .slice A0_2 l0_2.length c0_2]] ?_; (with_reducible refine (spec_IsCracker.calls k _ _ l0_0 _ _ l0_1 _ _ l0_2 true _ ?side1 ?side2 ?side3 ?side4 ?side5 ?side6 A9.out).mono ?_); (case side1 => exact uc (Kd.C_below HR0_0.out HB.out)); (case side2 => exact HC0_0.out); (case side3 => exact uc (Kd.C_below HR0_1.out HB.out)); (case side4 => exact HC0_1.out); (case side5 => exact uc (Kd.C_below HR0_2.out HB.out)); (case side6 => exact HC0_2.out); rintro e w25 ⟨rfl, hb⟩; refine ⟨_, rfl, ?_⟩; replace BK577 := wb BK577 hb; replace BK578 := wb BK578 hb; replace BK579 := wb BK579 hb; replace HB := wh hb; (try clear hb); (try clear hb2); (try clear hk); (try clear hi); have hnb26 := NB578_579.out; have hnc26 := NB579_578.out; obtain ⟨hcz27_0, hcz27_1, hcz27_2, hfz27_0, hfz27_1, hfz27_2⟩ := bz3 BK578) | (go_at_call 48; (with_reducible refine (spec_IsSettings.calls a1_0 a1_1 a1_2 true _ A11.out).mono ?_); rintro e w28 ⟨rfl, hb⟩; replace BK577 := wb BK577 hb; replace BK578 := wb BK578 hb; replace BK579 := wb BK579 hb; replace HB := wh hb; (try clear hb); (try clear hb2); (try clear hk); (try clear hi)))
      go_meet
      case rel => exact ⟨_, (true), (by first | rfl | (simp; done) | (simp [*]; done)), H', ⟨by first | omega | exact Nat.le_refl _⟩, ⟨ub BK577.out⟩, ⟨ub BK578.out⟩, ⟨ub BK579.out⟩, ⟨bl⟩⟩
     ·rw [if_neg c21] at H
      have c21b0 : decide (a3 ≤ a2) = false := decide_eq_false c21
      clear c21
      have H' := Aside0.mk H
      clear H
      have hnb29 := NB577_578.out
      have hnc29 := NB578_577.out
      have hnb30 := NB577_579.out
      have hnc30 := NB579_577.out
      obtain ⟨hcz31_0, hcz31_1, hcz31_2, hfz31_0, hfz31_1, hfz31_2⟩ := bz3 BK577
      go_wp2_with (first | ((with_reducible refine gate_callee (f := 47) rfl ?_); refine gl (some 12) rfl Try.func47 #[.agg #[.slice A0_0 l0_0.length c0_0, .slice A0_1 l0_1.length c0_1, .slice A0_2 l0_2.length c0_2]] ?_; (with_reducible refine (spec_IsCracker.calls k _ _ l0_0 _ _ l0_1 _ _ l0_2 true _ ?side1 ?side2 ?side3 ?side4 ?side5 ?side6 A9.out).mono ?_); (case side1 => exact uc (Kd.C_below HR0_0.out HB.out)); (case side2 => exact HC0_0.out); (case side3 => exact uc (Kd.C_below HR0_1.out HB.out)); (case side4 => exact HC0_1.out); (case side5 => exact uc (Kd.C_below HR0_2.out HB.out)); (case side6 => exact HC0_2.out); rintro e w32 ⟨rfl, hb⟩; refine ⟨_, rfl, ?_⟩; replace BK577 := wb BK577 hb; replace BK578 := wb BK578 hb; replace BK579 := wb BK579 hb; replace HB := wh hb; (try clear hb); (try clear hb2); (try clear hk); (try clear hi); have hnb33 := NB578_579.out; have hnc33 := NB579_578.out; obtain ⟨hcz34_0, hcz34_1, hcz34_2, hfz34_0, hfz34_1, hfz34_2⟩ := bz3 BK578) | (go_at_call 48; (with_reducible refine (spec_IsSettings.calls a1_0 a1_1 a1_2 true _ A11.out).mono ?_); rintro e w35 ⟨rfl, hb⟩; replace BK577 := wb BK577 hb; replace BK578 := wb BK578 hb; replace BK579 := wb BK579 hb; replace HB := wh hb; (try clear hb); (try clear hb2); (try clear hk); (try clear hi); obtain ⟨hcz36_0, hcz36_1, hcz36_2, hfz36_0, hfz36_1, hfz36_2⟩ := bz3 BK577))
      go_meet
      case rel => exact ⟨_, (decide (a3 > (l0_0.length : Int))), (by first | rfl | (simp; done) | (simp [*]; done)), H', ⟨by first | omega | exact Nat.le_refl _⟩, ⟨ub BK577.out⟩, ⟨ub BK578.out⟩, ⟨ub BK579.out⟩, ⟨bl⟩⟩
   ·replace c12 := Bool.eq_false_iff.mpr c12
    subst c12
    rw [if_neg nf] at H
    have H' := Aside0.mk H
    clear H
    have hnb37 := NB577_578.out
    have hnc37 := NB578_577.out
    have hnb38 := NB577_579.out
    have hnc38 := NB579_577.out
    obtain ⟨hcz39_0, hcz39_1, hcz39_2, hfz39_0, hfz39_1, hfz39_2⟩ := bz3 BK577
    go_wp2_with (first | ((with_reducible refine gate_callee (f := 47) rfl ?_); refine gl (some 12) rfl Try.func47 #[.agg #[.slice A0_0 l0_0.length c0_0, .slice A0_1 l0_1.length c0_1, .slice A0_2 l0_2.length c0_2]] ?_; (with_reducible refine (spec_IsCracker.calls k _ _ l0_0 _ _ l0_1 _ _ l0_2 true _ ?side1 ?side2 ?side3 ?side4 ?side5 ?side6 A9.out).mono ?_); (case side1 => exact uc (Kd.C_below HR0_0.out HB.out)); (case side2 => exact HC0_0.out); (case side3 => exact uc (Kd.C_below HR0_1.out HB.out)); (case side4 => exact HC0_1.out); (case side5 => exact uc (Kd.C_below HR0_2.out HB.out)); (case side6 => exact HC0_2.out); rintro e w40 ⟨rfl, hb⟩; refine ⟨_, rfl, ?_⟩; replace BK577 := wb BK577 hb; replace BK578 := wb BK578 hb; replace BK579 := wb BK579 hb; replace HB := wh hb; (try clear hb); (try clear hb2); (try clear hk); (try clear hi); have hnb41 := NB578_579.out; have hnc41 := NB579_578.out; obtain ⟨hcz42_0, hcz42_1, hcz42_2, hfz42_0, hfz42_1, hfz42_2⟩ := bz3 BK578) | (go_at_call 48; (with_reducible refine (spec_IsSettings.calls a1_0 a1_1 a1_2 false _ A11.out).mono ?_); rintro e w43 ⟨rfl, hb⟩; replace BK577 := wb BK577 hb; replace BK578 := wb BK578 hb; replace BK579 := wb BK579 hb; replace HB := wh hb; (try clear hb); (try clear hb2); (try clear hk); (try clear hi)))
    go_meet
    case rel => exact ⟨_, (true), (by first | rfl | (simp; done) | (simp [*]; done)), H', ⟨by first | omega | exact Nat.le_refl _⟩, ⟨ub BK577.out⟩, ⟨ub BK578.out⟩, ⟨ub BK579.out⟩, ⟨bl⟩⟩
  ·replace c10 := Bool.eq_false_iff.mpr c10
   subst c10
   rw [if_neg nf] at H
   have H' := Aside0.mk H
   clear H
   have hnb44 := NB577_578.out
   have hnc44 := NB578_577.out
   have hnb45 := NB577_579.out
   have hnc45 := NB579_577.out
   obtain ⟨hcz46_0, hcz46_1, hcz46_2, hfz46_0, hfz46_1, hfz46_2⟩ := bz3 BK577
   go_wp2_with (first | ((with_reducible refine gate_callee (f := 47) rfl ?_); refine gl (some 12) rfl Try.func47 #[.agg #[.slice A0_0 l0_0.length c0_0, .slice A0_1 l0_1.length c0_1, .slice A0_2 l0_2.length c0_2]] ?_; (with_reducible refine (spec_IsCracker.calls k _ _ l0_0 _ _ l0_1 _ _ l0_2 false _ ?side1 ?side2 ?side3 ?side4 ?side5 ?side6 A9.out).mono ?_); (case side1 => exact uc (Kd.C_below HR0_0.out HB.out)); (case side2 => exact HC0_0.out); (case side3 => exact uc (Kd.C_below HR0_1.out HB.out)); (case side4 => exact HC0_1.out); (case side5 => exact uc (Kd.C_below HR0_2.out HB.out)); (case side6 => exact HC0_2.out); rintro e w47 ⟨rfl, hb⟩; refine ⟨_, rfl, ?_⟩; replace BK577 := wb BK577 hb; replace BK578 := wb BK578 hb; replace BK579 := wb BK579 hb; replace HB := wh hb; (try clear hb); (try clear hb2); (try clear hk); (try clear hi)))
   go_meet
   case rel => exact ⟨_, (true), (by first | rfl | (simp; done) | (simp [*]; done)), H', ⟨by first | omega | exact Nat.le_refl _⟩, ⟨ub BK577.out⟩, ⟨ub BK578.out⟩, ⟨ub BK579.out⟩, ⟨bl⟩⟩
 case rest =>
  clear HC5
  try clear c1
  try clear c2
  try clear p2
  try clear c3
  try clear c4
  try clear c10
  try clear c12
  try clear c13
  try clear c13b0
  try clear c14
  try clear c15
  try clear c18
  try clear c21
  try clear c21b0
  try clear c22
  try clear c23
  try clear c26
  try clear c29
  try clear c30
  try clear c33
  try clear c37
  try clear c38
  try clear c41
  try clear c44
  try clear c45
  try clear c47
  try clear hcz16_0
  try clear hcz16_1
  try clear hcz16_2
  try clear hcz19_0
  try clear hcz19_1
  try clear hcz19_2
  try clear hcz24_0
  try clear hcz24_1
  try clear hcz24_2
  try clear hcz27_0
  try clear hcz27_1
  try clear hcz27_2
  try clear hcz31_0
  try clear hcz31_1
  try clear hcz31_2
  try clear hcz34_0
  try clear hcz34_1
  try clear hcz34_2
  try clear hcz36_0
  try clear hcz36_1
  try clear hcz36_2
  try clear hcz39_0
  try clear hcz39_1
  try clear hcz39_2
  try clear hcz42_0
  try clear hcz42_1
  try clear hcz42_2
  try clear hcz46_0
  try clear hcz46_1
  try clear hcz46_2
  try clear hfz16_0
  try clear hfz16_1
  try clear hfz16_2
  try clear hfz19_0
  try clear hfz19_1
  try clear hfz19_2
  try clear hfz24_0
  try clear hfz24_1
  try clear hfz24_2
  try clear hfz27_0
  try clear hfz27_1
  try clear hfz27_2
  try clear hfz31_0
  try clear hfz31_1
  try clear hfz31_2
  try clear hfz34_0
  try clear hfz34_1
  try clear hfz34_2
  try clear hfz36_0
  try clear hfz36_1
  try clear hfz36_2
  try clear hfz39_0
  try clear hfz39_1
  try clear hfz39_2
  try clear hfz42_0
  try clear hfz42_1
  try clear hfz42_2
  try clear hfz46_0
  try clear hfz46_1
  try clear hfz46_2
  obtain ⟨kq, x34_4, rfl, HA, HJ4, BK577, BK578, BK579, HB⟩ := hcut
  cases kq with
  | zero => exact absurd HA.out (by simp [spec_ChoosePivot.j0])
  | succ kj4 =>
   have H := HA.out
   clear HA
   simp only [spec_ChoosePivot.j0] at H
   by_cases c48 : x34_4 = true
   ·subst c48
    rw [if_pos rfl] at H
    simp only [Option.some.injEq, Prod.mk.injEq] at H
    obtain ⟨rfl, rfl, rfl, rfl⟩ := H
    try go_wp2
    replace BK577 := wd BK577
    replace BK578 := wd BK578
    replace BK579 := wd BK579
    replace HB := mk (below_drew1 HB.out)
    refine start_ (n := 3) (S := fun w' => w'.cell? ⟨gb578, 0, none⟩ = some (.int .i64 a1_0) ∧ w'.cell? ⟨gb578, 1, none⟩ = some (.int .i64 a1_1) ∧ w'.cell? ⟨gb578, 2, none⟩ = some (.int .i64 a1_2)) (ds := []) #[F_, F_, F_] (by kernel_rfl) rfl rfl ⟨(blk_cell BK578.out 0).trans rfl, (blk_cell BK578.out 1).trans rfl, (blk_cell BK578.out 2).trans rfl⟩ (fun hHeld => ?_)
    generalize wc.drew = w49 at BK577 BK578 BK579 HB hHeld ⊢
    refine pu 1 8 #[F_,T_,F_] ?_
    refine tk 0 35 (tf 2 1) hHeld ?_
    refine one_ (i := 2) (N := none) #[T_, T_, T_] rfl rfl (by kernel_rfl) (by decide) (fun K hK => ?_)
    have hs50 : w49.cell? ⟨gb579, 0, none⟩ = some (.int .i64 0) := (blk_cell BK579.out 0).trans rfl
    have hfs50 := blk_frozen BK579.out 0
    have hns50_0 := NB577_579.out
    have hns50_1 := NB578_579.out
    have hms50_0 := NB579_577.out
    have hms50_1 := NB579_578.out
    have hs51 : w49.cell? ⟨gb579, 1, none⟩ = some (.int .i64 0) := (blk_cell BK579.out 1).trans rfl
    have hfs51 := blk_frozen BK579.out 1
    have hns51_0 := NB577_579.out
    have hns51_1 := NB578_579.out
    have hms51_0 := NB579_577.out
    have hms51_1 := NB579_578.out
    have hs52 : w49.cell? ⟨gb579, 2, none⟩ = some (.int .i64 0) := (blk_cell BK579.out 2).trans rfl
    have hfs52 := blk_frozen BK579.out 2
    have hns52_0 := NB577_579.out
    have hns52_1 := NB578_579.out
    have hms52_0 := NB579_577.out
    have hms52_1 := NB579_578.out
    refine skip_ (w1 := ?_) (by rfl) rfl ?_ ?_
    rotate_left
    ·go_simp
     rfl
    refine hK.out _ _ ⟨((cell_far (p := ⟨gb579, _, none⟩) NB578_579.out _).trans (((cell_far (p := ⟨gb579, _, none⟩) NB578_579.out _).trans (((cell_far (p := ⟨gb579, _, none⟩) NB578_579.out _).trans (hHeld.1)))))), ((cell_far (p := ⟨gb579, _, none⟩) NB578_579.out _).trans (((cell_far (p := ⟨gb579, _, none⟩) NB578_579.out _).trans (((cell_far (p := ⟨gb579, _, none⟩) NB578_579.out _).trans (hHeld.2.1)))))), ((cell_far (p := ⟨gb579, _, none⟩) NB578_579.out _).trans (((cell_far (p := ⟨gb579, _, none⟩) NB578_579.out _).trans (((cell_far (p := ⟨gb579, _, none⟩) NB578_579.out _).trans (hHeld.2.2))))))⟩ (fun hHeld => ?_)
    clear hK K
    refine done_ (by kernel_rfl) ?_
    try go_wp2
    refine bodyPost_ret (results_tc rfl _ _ gb579 47 #[.int .i64 a1_0, .int .i64 a1_1, .int .i64 a1_2] (0, 0) _ rfl bq Try.underlying47 rfl (by kernel_rfl)) rfl ?_
    exact ⟨by first | rfl | (simp [errW_none, errW_some] <;> rfl) | (simp [*, errW_none, errW_some] <;> rfl), bl⟩
   ·replace c48 := Bool.eq_false_iff.mpr c48
    subst c48
    rw [if_neg nf] at H
    by_cases c53 : a1_0 = 2
    ·rw [if_pos c53] at H
     have c53b0 : (a1_0 == 2) = true := beq_iff_eq.mpr c53
     have c53b1 : (a1_0 != 2) = false := bne_eq_false_iff_eq.mpr c53
     clear c53
     revert H; refine bo ?_; rintro t583 A54 H
     by_cases c55 : (wrap64 (a3 - a2)) = 0
     ·rw [if_pos c55] at H
      exact absurd H (by simp)
     ·rw [if_neg c55] at H
      have c55b0 : ((wrap64 (a3 - a2)) == 0) = false := beq_eq_false_iff_ne.mpr c55
      have c55b1 : ((wrap64 (a3 - a2)) != 0) = true := bne_iff_ne.mpr c55
      obtain ⟨ji56, hji56⟩ : ∃ j_ : Int, (wrap64 (a2 + (Int.tmod t583 (wrap64 (a3 - a2))))) = j_ := ⟨_, rfl⟩
      replace H : (if 0 ≤ (ji56) then (if (ji56) < (l0_0.length : Int) then (some (rd l0_0 (ji56), a1_0, a1_1, t583)) else (none)) else (none)) = some (r1, r2, r3, r4) := by first | (rw [hji56] at H; exact H) | (simp only [hji56] at H ⊢; exact H)
      (try rw [hji56] at A54)
      have hji56w : (IntKind.i64.wrap (a2 + (Int.tmod t583 (wrap64 (a3 - a2))))) = ji56 := (i64_w _).trans hji56
      by_cases c57 : 0 ≤ (ji56)
      ·rw [if_pos c57] at H
       have c57b0 : decide (0 ≤ (ji56)) = true := decide_eq_true c57
       clear c57
       by_cases c58 : (ji56) < (l0_0.length : Int)
       ·rw [if_pos c58] at H
        have c58b0 : decide ((ji56) < (l0_0.length : Int)) = true := decide_eq_true c58
        clear c58
        simp only [Option.some.injEq, Prod.mk.injEq] at H
        obtain ⟨rfl, rfl, rfl, rfl⟩ := H
        have hnb59 := NB578_577.out
        have hnc59 := NB577_578.out
        have hnb60 := NB578_579.out
        have hnc60 := NB579_578.out
        obtain ⟨hcz61_0, hcz61_1, hcz61_2, hfz61_0, hfz61_1, hfz61_2⟩ := bz3 BK578
        try go_wp2_with (first | ((with_reducible refine gate_dst (N := 10) rfl ?_); (try (refine gate_guard (by rfl) ?_; dsimp only)); refine bx 10 #[.int .i64 0, .int .i64 0, .int .i64 0] 47 ?_; intro gb582 hg w62 hbox hb; have BK582 := mk hbox; have GW582 := wg hg; have GE582 := wg hg; replace HB := wh hb; have NB577_582 := nl BK577 hg; have NB582_577 := nr BK577 hg; replace BK577 := wb BK577 hb; have NB578_582 := nl BK578 hg; have NB582_578 := nr BK578 hg; replace BK578 := wb BK578 hb; have NB579_582 := nl BK579 hg; have NB582_579 := nr BK579 hg; replace BK579 := wb BK579 hb; clear hb hbox hg; have hnb63 := NB582_577.out; have hnc63 := NB577_582.out; have hnb64 := NB582_578.out; have hnc64 := NB578_582.out; have hnb65 := NB582_579.out; have hnc65 := NB579_582.out; obtain ⟨hcz66_0, hcz66_1, hcz66_2, hfz66_0, hfz66_1, hfz66_2⟩ := bz3 BK582; obtain ⟨hcz67_0, hcz67_1, hcz67_2, hfz67_0, hfz67_1, hfz67_2⟩ := bz3 BK578) | ((with_reducible refine gate_callee (f := 27) rfl ?_); refine gl (some 42) rfl Try.func27 #[.int .i64 a1_2] ?_; (with_reducible refine (spec_NextSeed.calls a1_2 t583 _ A54.out).mono ?_); rintro e w' ⟨rfl, ⟨nd, rfl⟩⟩; refine ⟨_, rfl, ?_⟩))
        have n0_ : Aside0 ((((((w62.setCell ⟨gb582, 0, none⟩ (.int .i64 a1_0)).setCell ⟨gb582, 1, none⟩ (.int .i64 a1_1)).setCell ⟨gb582, 2, none⟩ (.int .i64 a1_2)).drewN nd).setCell ⟨gb582, 2, none⟩ (.int .i64 t583)).heap[gb577]? = some (.cells #[.slice A0_0 l0_0.length c0_0, .slice A0_1 l0_1.length c0_1, .slice A0_2 l0_2.length c0_2] 45 (0, 0))) := ⟨bq⟩
        have n1_ : Aside0 ((((((w62.setCell ⟨gb582, 0, none⟩ (.int .i64 a1_0)).setCell ⟨gb582, 1, none⟩ (.int .i64 a1_1)).setCell ⟨gb582, 2, none⟩ (.int .i64 a1_2)).drewN nd).setCell ⟨gb582, 2, none⟩ (.int .i64 t583)).heap[gb578]? = some (.cells #[.int .i64 a1_0, .int .i64 a1_1, .int .i64 a1_2] 47 (0, 0))) := ⟨bq⟩
        have n2_ : Aside0 ((((((w62.setCell ⟨gb582, 0, none⟩ (.int .i64 a1_0)).setCell ⟨gb582, 1, none⟩ (.int .i64 a1_1)).setCell ⟨gb582, 2, none⟩ (.int .i64 a1_2)).drewN nd).setCell ⟨gb582, 2, none⟩ (.int .i64 t583)).heap[gb579]? = some (.cells #[.int .i64 0, .int .i64 0, .int .i64 0] 47 (0, 0))) := ⟨bq⟩
        have n3_ : Aside0 ((((((w62.setCell ⟨gb582, 0, none⟩ (.int .i64 a1_0)).setCell ⟨gb582, 1, none⟩ (.int .i64 a1_1)).setCell ⟨gb582, 2, none⟩ (.int .i64 a1_2)).drewN nd).setCell ⟨gb582, 2, none⟩ (.int .i64 t583)).heap[gb582]? = some (.cells #[.int .i64 a1_0, .int .i64 a1_1, .int .i64 t583] 47 (0, 0))) := ⟨bq⟩
        have n4_ : Aside0 (Below w.heap.size w (((((w62.setCell ⟨gb582, 0, none⟩ (.int .i64 a1_0)).setCell ⟨gb582, 1, none⟩ (.int .i64 a1_1)).setCell ⟨gb582, 2, none⟩ (.int .i64 a1_2)).drewN nd).setCell ⟨gb582, 2, none⟩ (.int .i64 t583))) := ⟨bl⟩
        (try clear BK577)
        (try clear BK578)
        (try clear BK579)
        (try clear BK582)
        (try clear HB)
        generalize (((((w62.setCell ⟨gb582, 0, none⟩ (.int .i64 a1_0)).setCell ⟨gb582, 1, none⟩ (.int .i64 a1_1)).setCell ⟨gb582, 2, none⟩ (.int .i64 a1_2)).drewN nd).setCell ⟨gb582, 2, none⟩ (.int .i64 t583)) = w68 at n0_ n1_ n2_ n3_ n4_ ⊢
        have BK577 := n0_
        have BK578 := n1_
        have BK579 := n2_
        have BK582 := n3_
        have HB := n4_
        clear n0_ n1_ n2_ n3_ n4_
        (try (rw [drewN_self w68]; generalize hq_ : World.drewN w68 _ = w68; have n0_ : Aside0 (w68.heap[gb577]? = some (.cells #[.slice A0_0 l0_0.length c0_0, .slice A0_1 l0_1.length c0_1, .slice A0_2 l0_2.length c0_2] 45 (0, 0))) := ⟨by rw [← hq_]; exact (ub BK577.out)⟩; have n1_ : Aside0 (w68.heap[gb578]? = some (.cells #[.int .i64 a1_0, .int .i64 a1_1, .int .i64 a1_2] 47 (0, 0))) := ⟨by rw [← hq_]; exact (ub BK578.out)⟩; have n2_ : Aside0 (w68.heap[gb579]? = some (.cells #[.int .i64 0, .int .i64 0, .int .i64 0] 47 (0, 0))) := ⟨by rw [← hq_]; exact (ub BK579.out)⟩; have n3_ : Aside0 (w68.heap[gb582]? = some (.cells #[.int .i64 a1_0, .int .i64 a1_1, .int .i64 t583] 47 (0, 0))) := ⟨by rw [← hq_]; exact (ub BK582.out)⟩; have n4_ : Aside0 (Below w.heap.size w w68) := ⟨by rw [← hq_]; exact bl⟩; clear BK577 BK578 BK579 BK582 HB hq_; have BK577 := n0_; have BK578 := n1_; have BK579 := n2_; have BK582 := n3_; have HB := n4_; clear n0_ n1_ n2_ n3_ n4_))
        replace BK577 := wd BK577
        replace BK578 := wd BK578
        replace BK579 := wd BK579
        replace BK582 := wd BK582
        replace HB := mk (below_drew1 HB.out)
        have p584 : 0 ≤ ((ji56) : Int) := of_decide_eq_true (by first | (with_reducible assumption) | assumption)
        have q584 : (ji56) < (l0_0.length : Int) := of_decide_eq_true (by first | (with_reducible assumption) | assumption)
        obtain ⟨ad584, e584, hx584_0⟩ := Kd.at_int HR0_0.out (ji56) p584 q584
        have hw584_0 := hx584_0
        cases e584
        replace hx584_0 := (HB.out.cell (World.block_lt_of_cell? w _ hx584_0)).trans hx584_0
        replace p584 := eq_true p584
        replace q584 := eq_true q584
        refine start_ (n := 15) (S := fun w' => w'.cell? ⟨gb577, 0, none⟩ = some (.slice (some ad584) l0_0.length c0_0) ∧ w'.cell? ⟨gb577, 1, none⟩ = some (.slice A0_1 l0_1.length c0_1) ∧ w'.cell? ⟨gb577, 2, none⟩ = some (.slice A0_2 l0_2.length c0_2) ∧ w'.cell? ⟨gb582, 0, none⟩ = some (.int .i64 a1_0) ∧ w'.cell? ⟨gb582, 1, none⟩ = some (.int .i64 a1_1) ∧ w'.cell? ⟨gb582, 2, none⟩ = some (.int .i64 t583) ∧ w'.cell? (ad584.add ((ji56)).toNat) = some (.int .i64 (rd l0_0 (ji56)))) (ds := []) #[F_, F_, F_, F_, F_, F_, F_, F_, F_, F_, F_, F_, F_, F_, F_] (by kernel_rfl) rfl rfl ⟨(blk_cell BK577.out 0).trans rfl, (blk_cell BK577.out 1).trans rfl, (blk_cell BK577.out 2).trans rfl, (blk_cell BK582.out 0).trans rfl, (blk_cell BK582.out 1).trans rfl, (blk_cell BK582.out 2).trans rfl, ((HB.out.cell (World.block_lt_of_cell? w _ hw584_0)).trans hw584_0)⟩ (fun hHeld => ?_); refine with_tabW spec_ChoosePivot.tab6 spec_ChoosePivot.bits6 (fun HT_ HW_ => ?_)
        generalize w68.drew = w69 at BK577 BK578 BK579 BK582 HB hx584_0 hHeld ⊢
        refine pu 0 44 (tf 1 14) ?_
        refine pu 2 46 #[T_,F_,T_,F_,F_,F_,F_,F_,F_,F_,F_,F_,F_,F_,F_] ?_
        refine pu 3 47 #[T_,F_,T_,T_,F_,F_,F_,F_,F_,F_,F_,F_,F_,F_,F_] ?_
        refine pu 5 49 #[T_,F_,T_,T_,F_,T_,F_,F_,F_,F_,F_,F_,F_,F_,F_] ?_
        refine pu 6 50 #[T_,F_,T_,T_,F_,T_,T_,F_,F_,F_,F_,F_,F_,F_,F_] ?_
        refine pu 7 51 #[T_,F_,T_,T_,F_,T_,T_,T_,F_,F_,F_,F_,F_,F_,F_] ?_
        refine tk 1 45 #[T_,T_,T_,T_,F_,T_,T_,T_,F_,F_,F_,F_,F_,F_,F_] hHeld ?_
        refine tk 4 48 (tf 8 7) hHeld ?_
        refine pu 8 52 (tf 9 6) ?_
        refine pu 9 53 (tf 10 5) ?_
        refine pu 10 54 (tf 11 4) ?_
        refine tk 11 55 (tf 12 3) hHeld ?_
        refine pu 13 8 #[T_,T_,T_,T_,T_,T_,T_,T_,T_,T_,T_,T_,F_,T_,F_] ?_
        refine tk 12 56 (tf 14 1) hHeld ?_
        refine one_ (i := 14) (N := none) #[T_, T_, T_, T_, T_, T_, T_, T_, T_, T_, T_, T_, T_, T_, T_] rfl rfl (one_of HT_.out (by kernel_rfl)) (by decide) (fun K hK => ?_)
        have hs70 : w69.cell? ⟨gb579, 0, none⟩ = some (.int .i64 0) := (blk_cell BK579.out 0).trans rfl
        have hfs70 := blk_frozen BK579.out 0
        have hns70_0 := NB577_579.out
        have hns70_1 := NB578_579.out
        have hns70_3 := NB582_579.out
        have hms70_0 := NB579_577.out
        have hms70_1 := NB579_578.out
        have hms70_3 := NB579_582.out
        have hs71 : w69.cell? ⟨gb579, 1, none⟩ = some (.int .i64 0) := (blk_cell BK579.out 1).trans rfl
        have hfs71 := blk_frozen BK579.out 1
        have hns71_0 := NB577_579.out
        have hns71_1 := NB578_579.out
        have hns71_3 := NB582_579.out
        have hms71_0 := NB579_577.out
        have hms71_1 := NB579_578.out
        have hms71_3 := NB579_582.out
        have hs72 : w69.cell? ⟨gb579, 2, none⟩ = some (.int .i64 0) := (blk_cell BK579.out 2).trans rfl
        have hfs72 := blk_frozen BK579.out 2
        have hns72_0 := NB577_579.out
        have hns72_1 := NB578_579.out
        have hns72_3 := NB582_579.out
        have hms72_0 := NB579_577.out
        have hms72_1 := NB579_578.out
        have hms72_3 := NB579_582.out
        refine skip_ (w1 := ?_) (by rfl) rfl ?_ ?_
        rotate_left
        ·go_simp
         rfl
        refine hK.out _ _ ⟨((cell_far (p := ⟨gb579, _, none⟩) NB577_579.out _).trans (((cell_far (p := ⟨gb579, _, none⟩) NB577_579.out _).trans (((cell_far (p := ⟨gb579, _, none⟩) NB577_579.out _).trans (hHeld.1)))))), ((cell_far (p := ⟨gb579, _, none⟩) NB577_579.out _).trans (((cell_far (p := ⟨gb579, _, none⟩) NB577_579.out _).trans (((cell_far (p := ⟨gb579, _, none⟩) NB577_579.out _).trans (hHeld.2.1)))))), ((cell_far (p := ⟨gb579, _, none⟩) NB577_579.out _).trans (((cell_far (p := ⟨gb579, _, none⟩) NB577_579.out _).trans (((cell_far (p := ⟨gb579, _, none⟩) NB577_579.out _).trans (hHeld.2.2.1)))))), ((cell_far (p := ⟨gb579, _, none⟩) NB582_579.out _).trans (((cell_far (p := ⟨gb579, _, none⟩) NB582_579.out _).trans (((cell_far (p := ⟨gb579, _, none⟩) NB582_579.out _).trans (hHeld.2.2.2.1)))))), ((cell_far (p := ⟨gb579, _, none⟩) NB582_579.out _).trans (((cell_far (p := ⟨gb579, _, none⟩) NB582_579.out _).trans (((cell_far (p := ⟨gb579, _, none⟩) NB582_579.out _).trans (hHeld.2.2.2.2.1)))))), ((cell_far (p := ⟨gb579, _, none⟩) NB582_579.out _).trans (((cell_far (p := ⟨gb579, _, none⟩) NB582_579.out _).trans (((cell_far (p := ⟨gb579, _, none⟩) NB582_579.out _).trans (hHeld.2.2.2.2.2.1)))))), ((cell_far (p := ⟨gb579, _, none⟩) (by first | exact Nat.ne_of_lt (Nat.lt_of_lt_of_le (by have := World.block_lt_of_cell? _ _ hw584_0; first | rwa [add_block] at this | exact this) GW579.out) | (rw [add_block]; exact Nat.ne_of_lt (Nat.lt_of_lt_of_le (by have := World.block_lt_of_cell? _ _ hw584_0; first | rwa [add_block] at this | exact this) GW579.out)) | (show (Addr.add _ _).block ≠ _; rw [add_block]; exact Nat.ne_of_lt (Nat.lt_of_lt_of_le (by have := World.block_lt_of_cell? _ _ hw584_0; first | rwa [add_block] at this | exact this) GW579.out)) | (dsimp only; exact Nat.ne_of_lt (Nat.lt_of_lt_of_le (by have := World.block_lt_of_cell? _ _ hw584_0; first | rwa [add_block] at this | exact this) GW579.out))) _).trans (((cell_far (p := ⟨gb579, _, none⟩) (by first | exact Nat.ne_of_lt (Nat.lt_of_lt_of_le (by have := World.block_lt_of_cell? _ _ hw584_0; first | rwa [add_block] at this | exact this) GW579.out) | (rw [add_block]; exact Nat.ne_of_lt (Nat.lt_of_lt_of_le (by have := World.block_lt_of_cell? _ _ hw584_0; first | rwa [add_block] at this | exact this) GW579.out)) | (show (Addr.add _ _).block ≠ _; rw [add_block]; exact Nat.ne_of_lt (Nat.lt_of_lt_of_le (by have := World.block_lt_of_cell? _ _ hw584_0; first | rwa [add_block] at this | exact this) GW579.out)) | (dsimp only; exact Nat.ne_of_lt (Nat.lt_of_lt_of_le (by have := World.block_lt_of_cell? _ _ hw584_0; first | rwa [add_block] at this | exact this) GW579.out))) _).trans (((cell_far (p := ⟨gb579, _, none⟩) (by first | exact Nat.ne_of_lt (Nat.lt_of_lt_of_le (by have := World.block_lt_of_cell? _ _ hw584_0; first | rwa [add_block] at this | exact this) GW579.out) | (rw [add_block]; exact Nat.ne_of_lt (Nat.lt_of_lt_of_le (by have := World.block_lt_of_cell? _ _ hw584_0; first | rwa [add_block] at this | exact this) GW579.out)) | (show (Addr.add _ _).block ≠ _; rw [add_block]; exact Nat.ne_of_lt (Nat.lt_of_lt_of_le (by have := World.block_lt_of_cell? _ _ hw584_0; first | rwa [add_block] at this | exact this) GW579.out)) | (dsimp only; exact Nat.ne_of_lt (Nat.lt_of_lt_of_le (by have := World.block_lt_of_cell? _ _ hw584_0; first | rwa [add_block] at this | exact this) GW579.out))) _).trans (hHeld.2.2.2.2.2.2))))))⟩ (fun hHeld => ?_)
        clear hK K
        refine done_ (done_of HT_.out (by kernel_rfl)) ?_
        try go_wp2
        refine bodyPost_ret (results_tc rfl _ _ gb579 47 #[.int .i64 a1_0, .int .i64 a1_1, .int .i64 t583] (0, 0) _ rfl bq Try.underlying47 rfl (by kernel_rfl)) rfl ?_
        exact ⟨by first | rfl | (simp [errW_none, errW_some] <;> rfl) | (simp only [← hji56]; first | rfl | (simp [errW_none, errW_some] <;> rfl)) | (simp [*, errW_none, errW_some] <;> rfl), bl⟩
       ·rw [if_neg c58] at H
        exact absurd H (by simp)
      ·rw [if_neg c57] at H
       exact absurd H (by simp)
    ·rw [if_neg c53] at H
     have c53b0 : (a1_0 == 2) = false := beq_eq_false_iff_ne.mpr c53
     have c53b1 : (a1_0 != 2) = true := bne_iff_ne.mpr c53
     by_cases c73 : 0 ≤ a2
     ·rw [if_pos c73] at H
      have c73b0 := eq_true c73
      have c73b1 : decide (0 ≤ a2) = true := decide_eq_true c73
      clear c73
      by_cases c74 : a2 ≤ a3
      ·rw [if_pos c74] at H
       have c74b0 := eq_true c74
       have c74b1 : decide (a2 ≤ a3) = true := decide_eq_true c74
       clear c74
       by_cases c75 : a3 ≤ (l0_0.length : Int)
       ·rw [if_pos c75] at H
        have c75b0 := eq_true c75
        have c75b1 : decide (a3 ≤ (l0_0.length : Int)) = true := decide_eq_true c75
        clear c75
        revert H; refine bo ?_; rintro t586 A76 H
        simp only [Option.some.injEq, Prod.mk.injEq] at H
        obtain ⟨rfl, rfl, rfl, rfl⟩ := H
        have hnb77 := NB578_577.out
        have hnc77 := NB577_578.out
        have hnb78 := NB578_579.out
        have hnc78 := NB579_578.out
        obtain ⟨hcz79_0, hcz79_1, hcz79_2, hfz79_0, hfz79_1, hfz79_2⟩ := bz3 BK578
        try go_wp2_with (first | ((with_reducible refine gate_dst (N := 10) rfl ?_); (try (refine gate_guard (by rfl) ?_; dsimp only)); refine bx 10 #[.int .i64 0, .int .i64 0, .int .i64 0] 47 ?_; intro gb582 hg w80 hbox hb; have BK582 := mk hbox; have GW582 := wg hg; have GE582 := wg hg; replace HB := wh hb; have NB577_582 := nl BK577 hg; have NB582_577 := nr BK577 hg; replace BK577 := wb BK577 hb; have NB578_582 := nl BK578 hg; have NB582_578 := nr BK578 hg; replace BK578 := wb BK578 hb; have NB579_582 := nl BK579 hg; have NB582_579 := nr BK579 hg; replace BK579 := wb BK579 hb; clear hb hbox hg; have hnb81 := NB582_577.out; have hnc81 := NB577_582.out; have hnb82 := NB582_578.out; have hnc82 := NB578_582.out; have hnb83 := NB582_579.out; have hnc83 := NB579_582.out; obtain ⟨hcz84_0, hcz84_1, hcz84_2, hfz84_0, hfz84_1, hfz84_2⟩ := bz3 BK582; obtain ⟨hcz85_0, hcz85_1, hcz85_2, hfz85_0, hfz85_1, hfz85_2⟩ := bz3 BK578))
        have n0_ : Aside0 ((((w80.setCell ⟨gb582, 0, none⟩ (.int .i64 a1_0)).setCell ⟨gb582, 1, none⟩ (.int .i64 a1_1)).setCell ⟨gb582, 2, none⟩ (.int .i64 a1_2)).heap[gb577]? = some (.cells #[.slice A0_0 l0_0.length c0_0, .slice A0_1 l0_1.length c0_1, .slice A0_2 l0_2.length c0_2] 45 (0, 0))) := ⟨bq⟩
        have n1_ : Aside0 ((((w80.setCell ⟨gb582, 0, none⟩ (.int .i64 a1_0)).setCell ⟨gb582, 1, none⟩ (.int .i64 a1_1)).setCell ⟨gb582, 2, none⟩ (.int .i64 a1_2)).heap[gb578]? = some (.cells #[.int .i64 a1_0, .int .i64 a1_1, .int .i64 a1_2] 47 (0, 0))) := ⟨bq⟩
        have n2_ : Aside0 ((((w80.setCell ⟨gb582, 0, none⟩ (.int .i64 a1_0)).setCell ⟨gb582, 1, none⟩ (.int .i64 a1_1)).setCell ⟨gb582, 2, none⟩ (.int .i64 a1_2)).heap[gb579]? = some (.cells #[.int .i64 0, .int .i64 0, .int .i64 0] 47 (0, 0))) := ⟨bq⟩
        have n3_ : Aside0 ((((w80.setCell ⟨gb582, 0, none⟩ (.int .i64 a1_0)).setCell ⟨gb582, 1, none⟩ (.int .i64 a1_1)).setCell ⟨gb582, 2, none⟩ (.int .i64 a1_2)).heap[gb582]? = some (.cells #[.int .i64 a1_0, .int .i64 a1_1, .int .i64 a1_2] 47 (0, 0))) := ⟨bq⟩
        have n4_ : Aside0 (Below w.heap.size w (((w80.setCell ⟨gb582, 0, none⟩ (.int .i64 a1_0)).setCell ⟨gb582, 1, none⟩ (.int .i64 a1_1)).setCell ⟨gb582, 2, none⟩ (.int .i64 a1_2))) := ⟨bl⟩
        (try clear BK577)
        (try clear BK578)
        (try clear BK579)
        (try clear BK582)
        (try clear HB)
        generalize (((w80.setCell ⟨gb582, 0, none⟩ (.int .i64 a1_0)).setCell ⟨gb582, 1, none⟩ (.int .i64 a1_1)).setCell ⟨gb582, 2, none⟩ (.int .i64 a1_2)) = w86 at n0_ n1_ n2_ n3_ n4_ ⊢
        have BK577 := n0_
        have BK578 := n1_
        have BK579 := n2_
        have BK582 := n3_
        have HB := n4_
        clear n0_ n1_ n2_ n3_ n4_
        replace BK577 := wd BK577
        replace BK578 := wd BK578
        replace BK579 := wd BK579
        replace BK582 := wd BK582
        replace HB := mk (below_drew1 HB.out)
        obtain ⟨i088, hi088, _, hsz88, _⟩ := info_parts info3
        obtain ⟨A88, hcut88, hA88, hC88⟩ := print_mid_of (P := Try.prog) (Value.int .i64) 0 26 3 .i64 .i64 Try.underlying26 hi088 hsz88 A0_0 c0_0 l0_0 a2 a3 (of_decide_eq_true (by first | (with_reducible assumption) | assumption)) (by first | omega | exact of_decide_eq_true (by first | (with_reducible assumption) | assumption)) (of_decide_eq_true (by first | (with_reducible assumption) | assumption)) HC0_0.out
        have HR585 := Aside0.mk (Kd.C_of_reads (h1 := fun _ => rfl) (hA88 _ (Kd.reads_of_C HR0_0.out)))
        have HC585 := Aside0.mk hC88
        clear hA88 hC88 hi088 hsz88
        refine start_ (n := 9) (S := fun w' => w'.cell? ⟨gb577, 0, none⟩ = some (.slice A0_0 l0_0.length c0_0) ∧ w'.cell? ⟨gb577, 1, none⟩ = some (.slice A0_1 l0_1.length c0_1) ∧ w'.cell? ⟨gb577, 2, none⟩ = some (.slice A0_2 l0_2.length c0_2) ∧ w'.cell? ⟨gb582, 0, none⟩ = some (.int .i64 a1_0) ∧ w'.cell? ⟨gb582, 1, none⟩ = some (.int .i64 a1_1) ∧ w'.cell? ⟨gb582, 2, none⟩ = some (.int .i64 a1_2)) (ds := []) #[F_, F_, F_, F_, F_, F_, F_, F_, F_] (by kernel_rfl) rfl rfl ⟨(blk_cell BK577.out 0).trans rfl, (blk_cell BK577.out 1).trans rfl, (blk_cell BK577.out 2).trans rfl, (blk_cell BK582.out 0).trans rfl, (blk_cell BK582.out 1).trans rfl, (blk_cell BK582.out 2).trans rfl⟩ (fun hHeld => ?_); refine with_tabW spec_ChoosePivot.tab7 spec_ChoosePivot.bits7 (fun HT_ HW_ => ?_)
        generalize w86.drew = w87 at BK577 BK578 BK579 BK582 HB HR585 hHeld ⊢
        refine pu 0 57 (tf 1 8) ?_
        refine pu 2 59 #[T_,F_,T_,F_,F_,F_,F_,F_,F_] ?_
        refine pu 3 60 #[T_,F_,T_,T_,F_,F_,F_,F_,F_] ?_
        refine tk 1 58 (tf 4 5) hHeld ?_
        refine pu 4 61 (tf 5 4) ?_
        refine tk 6 63 #[T_,T_,T_,T_,T_,F_,T_,F_,F_] hHeld ?_
        refine on 5 62 (tf 7 2) (fun K hK => ?_)
        refine goes_ Try.func17 (by kernel_rfl) rfl #[.slice A88 ((l0_0.take (a3 : Int).toNat).drop (a2 : Int).toNat).length (c0_0 - a2.toNat)] (by rfl) rfl rfl (by (try simp only [List.map_toArray, List.map_cons, List.map_nil]); first | done | (rw [show ((l0_0.take (a3 : Int).toNat).drop (a2 : Int).toNat).length = (a3.toNat - a2.toNat) from (by rw [List.length_drop, List.length_take]; have h_ : (a3 : Int) ≤ (l0_0.length : Int) := of_decide_eq_true (by first | (with_reducible assumption) | assumption); omega)] <;> rfl) | rfl | (simp only [List.length_drop, List.length_take]; rfl)) ?_
        with_reducible refine (spec_MedianOf.calls kj4 _ _ ((l0_0.take (a3 : Int).toNat).drop (a2 : Int).toNat) t586 _ ?side1 ?side2 A76.out).mono ?_
        (case side1 => exact uc (Kd.C_below HR585.out HB.out))
        (case side2 => exact HC585.out)
        rintro e w89 ⟨rfl, hb⟩
        refine ⟨_, rfl, ?_⟩
        replace BK577 := wb BK577 hb
        replace BK578 := wb BK578 hb
        replace BK579 := wb BK579 hb
        replace BK582 := wb BK582 hb
        replace HB := wh hb
        (try clear hb)
        (try clear hb2)
        (try clear hk)
        (try clear hi)
        refine hK.out _ _ ⟨(blk_cell BK577.out 0).trans rfl, (blk_cell BK577.out 1).trans rfl, (blk_cell BK577.out 2).trans rfl, (blk_cell BK582.out 0).trans rfl, (blk_cell BK582.out 1).trans rfl, (blk_cell BK582.out 2).trans rfl⟩ (fun hHeld => ?_)
        clear hK K
        refine nm 62 ?_
        refine pu 7 8 (tf 8 1) ?_
        refine one_ (i := 8) (N := none) #[T_, T_, T_, T_, T_, T_, T_, T_, T_] rfl rfl (one_of HT_.out (by kernel_rfl)) (by decide) (fun K hK => ?_)
        have hs90 : w89.cell? ⟨gb579, 0, none⟩ = some (.int .i64 0) := (blk_cell BK579.out 0).trans rfl
        have hfs90 := blk_frozen BK579.out 0
        have hns90_0 := NB577_579.out
        have hns90_1 := NB578_579.out
        have hns90_3 := NB582_579.out
        have hms90_0 := NB579_577.out
        have hms90_1 := NB579_578.out
        have hms90_3 := NB579_582.out
        have hs91 : w89.cell? ⟨gb579, 1, none⟩ = some (.int .i64 0) := (blk_cell BK579.out 1).trans rfl
        have hfs91 := blk_frozen BK579.out 1
        have hns91_0 := NB577_579.out
        have hns91_1 := NB578_579.out
        have hns91_3 := NB582_579.out
        have hms91_0 := NB579_577.out
        have hms91_1 := NB579_578.out
        have hms91_3 := NB579_582.out
        have hs92 : w89.cell? ⟨gb579, 2, none⟩ = some (.int .i64 0) := (blk_cell BK579.out 2).trans rfl
        have hfs92 := blk_frozen BK579.out 2
        have hns92_0 := NB577_579.out
        have hns92_1 := NB578_579.out
        have hns92_3 := NB582_579.out
        have hms92_0 := NB579_577.out
        have hms92_1 := NB579_578.out
        have hms92_3 := NB579_582.out
        refine skip_ (w1 := ?_) (by rfl) rfl ?_ ?_
        rotate_left
        ·go_simp
         rfl
        refine hK.out _ _ ⟨((cell_far (p := ⟨gb579, _, none⟩) NB577_579.out _).trans (((cell_far (p := ⟨gb579, _, none⟩) NB577_579.out _).trans (((cell_far (p := ⟨gb579, _, none⟩) NB577_579.out _).trans (hHeld.1)))))), ((cell_far (p := ⟨gb579, _, none⟩) NB577_579.out _).trans (((cell_far (p := ⟨gb579, _, none⟩) NB577_579.out _).trans (((cell_far (p := ⟨gb579, _, none⟩) NB577_579.out _).trans (hHeld.2.1)))))), ((cell_far (p := ⟨gb579, _, none⟩) NB577_579.out _).trans (((cell_far (p := ⟨gb579, _, none⟩) NB577_579.out _).trans (((cell_far (p := ⟨gb579, _, none⟩) NB577_579.out _).trans (hHeld.2.2.1)))))), ((cell_far (p := ⟨gb579, _, none⟩) NB582_579.out _).trans (((cell_far (p := ⟨gb579, _, none⟩) NB582_579.out _).trans (((cell_far (p := ⟨gb579, _, none⟩) NB582_579.out _).trans (hHeld.2.2.2.1)))))), ((cell_far (p := ⟨gb579, _, none⟩) NB582_579.out _).trans (((cell_far (p := ⟨gb579, _, none⟩) NB582_579.out _).trans (((cell_far (p := ⟨gb579, _, none⟩) NB582_579.out _).trans (hHeld.2.2.2.2.1)))))), ((cell_far (p := ⟨gb579, _, none⟩) NB582_579.out _).trans (((cell_far (p := ⟨gb579, _, none⟩) NB582_579.out _).trans (((cell_far (p := ⟨gb579, _, none⟩) NB582_579.out _).trans (hHeld.2.2.2.2.2))))))⟩ (fun hHeld => ?_)
        clear hK K
        refine done_ (done_of HT_.out (by kernel_rfl)) ?_
        try go_wp2
        refine bodyPost_ret (results_tc rfl _ _ gb579 47 #[.int .i64 a1_0, .int .i64 a1_1, .int .i64 a1_2] (0, 0) _ rfl bq Try.underlying47 rfl (by kernel_rfl)) rfl ?_
        exact ⟨by first | rfl | (simp [errW_none, errW_some] <;> rfl) | (simp [*, errW_none, errW_some] <;> rfl), bl⟩
       ·rw [if_neg c75] at H
        exact absurd H (by simp)
      ·rw [if_neg c74] at H
       exact absurd H (by simp)
     ·rw [if_neg c73] at H
      exact absurd H (by simp)

end Go.Proofs.Ytlikcmonejefoac.PFnMedians
