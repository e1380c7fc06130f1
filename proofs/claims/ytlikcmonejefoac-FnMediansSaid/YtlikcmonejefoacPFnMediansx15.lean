-- printed by a program of this session, a turned copy of the print of the kit
import Derived.Test.YtlikcmonejefoacSq
import Derived.Test.YtlikcmonejefoacPFnMediansx0
import Derived.Test.YtlikcmonejefoacPFnMediansx2
import Derived.Test.YtlikcmonejefoacPFnMediansx13
import Derived.Test.YtlikcmonejefoacPFnMediansx14
namespace Go.Proofs.Ytlikcmonejefoac.PFnMedians
open Go.RowKit Go.Proofs.YtlikcmonejefoacW.PrintWords Go.Proofs.YtlikcmonejefoacW.PrintLast Go.Proofs.YtlikcmonejefoacW.PrintMore Go.Proofs.Ytlikcmonejefoac.Sq
attribute [local go_sem] max2_int min2_int max_two min_two max_three min_three max_four min_four Giv.cell_twice   -- for this text's walks alone
set_option linter.unusedVariables false
set_option linter.unusedSimpArgs false

/-! ### impl_IsSettings: function 46 -/
def impl_IsSettings.f (a0_0 : Int) (a0_1 : Int) (a0_2 : Int) : Option (Bool) := if a0_0 ≥ 0 then (if a0_0 ≤ 2 then (if a0_1 ≥ 1 then (if a0_1 ≤ 64 then (if a0_2 ≥ 0 then (some (decide (a0_2 ≤ 10006))) else (some false)) else (some false)) else (some false)) else (some false)) else (some false)
set_option maxHeartbeats 8000000 in
set_option maxRecDepth 100000 in
theorem impl_IsSettings.calls (a0_0 : Int) (a0_1 : Int) (a0_2 : Int) (r : Bool) (w : World) (h : impl_IsSettings.f a0_0 a0_1 a0_2 = some r) :
    Calls Try.prog 46 #[.agg #[.int .i64 a0_0, .int .i64 a0_1, .int .i64 a0_2]] w fun e w' => e = .returned (.bool r) ∧ Below w.heap.size w w' := by
  have hu47 := Try.underlying47
  have HB := Aside0.mk (Below.refl w.heap.size w)
  have H : (if a0_0 ≥ 0 then (if a0_0 ≤ 2 then (if a0_1 ≥ 1 then (if a0_1 ≤ 64 then (if a0_2 ≥ 0 then (some (decide (a0_2 ≤ 10006))) else (some false)) else (some false)) else (some false)) else (some false)) else (some false)) = some r := h
  clear h
  by_cases c2 : a0_0 ≥ 0
  · rw [if_pos c2] at H
    have c2b0 : decide (0 ≤ a0_0) = true := decide_eq_true c2
    clear c2
    by_cases c3 : a0_0 ≤ 2
    · rw [if_pos c3] at H
      have c3b0 : decide (a0_0 ≤ 2) = true := decide_eq_true c3
      clear c3
      by_cases c4 : a0_1 ≥ 1
      · rw [if_pos c4] at H
        have c4b0 : decide (1 ≤ a0_1) = true := decide_eq_true c4
        clear c4
        by_cases c5 : a0_1 ≤ 64
        · rw [if_pos c5] at H
          have c5b0 : decide (a0_1 ≤ 64) = true := decide_eq_true c5
          clear c5
          by_cases c6 : a0_2 ≥ 0
          · rw [if_pos c6] at H
            have c6b0 : decide (0 ≤ a0_2) = true := decide_eq_true c6
            clear c6
            obtain rfl := Option.some.inj H
            go_enter Try.func46, Try.ntmps46
            go_wp2_with (first | ((with_reducible refine gate_dst (N := 1) rfl ?_); refine bx 1 #[.int .i64 a0_0, .int .i64 a0_1, .int .i64 a0_2] 47 ?_; intro gb563 hg w7 hbox hb; have BK563 := mk hbox; have GW563 := wg hg; have GE563 := wg hg; replace HB := wh hb; clear hb hbox hg; obtain ⟨hcz8_0, hcz8_1, hcz8_2, hfz8_0, hfz8_1, hfz8_2⟩ := bz3 BK563))
            go_ret
            exact ⟨by first | rfl | (simp [errW_none, errW_some] <;> rfl) | (simp [*, errW_none, errW_some] <;> rfl), bl⟩
          · rw [if_neg c6] at H
            have c6b0 : decide (0 ≤ a0_2) = false := decide_eq_false c6
            clear c6
            obtain rfl := Option.some.inj H
            go_enter Try.func46, Try.ntmps46
            go_wp2_with (first | ((with_reducible refine gate_dst (N := 1) rfl ?_); refine bx 1 #[.int .i64 a0_0, .int .i64 a0_1, .int .i64 a0_2] 47 ?_; intro gb563 hg w9 hbox hb; have BK563 := mk hbox; have GW563 := wg hg; have GE563 := wg hg; replace HB := wh hb; clear hb hbox hg; obtain ⟨hcz10_0, hcz10_1, hcz10_2, hfz10_0, hfz10_1, hfz10_2⟩ := bz3 BK563))
            go_ret
            exact ⟨by first | rfl | (simp [errW_none, errW_some] <;> rfl) | (simp [*, errW_none, errW_some] <;> rfl), bl⟩
        · rw [if_neg c5] at H
          have c5b0 : decide (a0_1 ≤ 64) = false := decide_eq_false c5
          clear c5
          obtain rfl := Option.some.inj H
          go_enter Try.func46, Try.ntmps46
          go_wp2_with (first | ((with_reducible refine gate_dst (N := 1) rfl ?_); refine bx 1 #[.int .i64 a0_0, .int .i64 a0_1, .int .i64 a0_2] 47 ?_; intro gb563 hg w11 hbox hb; have BK563 := mk hbox; have GW563 := wg hg; have GE563 := wg hg; replace HB := wh hb; clear hb hbox hg; obtain ⟨hcz12_0, hcz12_1, hcz12_2, hfz12_0, hfz12_1, hfz12_2⟩ := bz3 BK563))
          go_ret
          exact ⟨by first | rfl | (simp [errW_none, errW_some] <;> rfl) | (simp [*, errW_none, errW_some] <;> rfl), bl⟩
      · rw [if_neg c4] at H
        have c4b0 : decide (1 ≤ a0_1) = false := decide_eq_false c4
        clear c4
        obtain rfl := Option.some.inj H
        go_enter Try.func46, Try.ntmps46
        go_wp2_with (first | ((with_reducible refine gate_dst (N := 1) rfl ?_); refine bx 1 #[.int .i64 a0_0, .int .i64 a0_1, .int .i64 a0_2] 47 ?_; intro gb563 hg w13 hbox hb; have BK563 := mk hbox; have GW563 := wg hg; have GE563 := wg hg; replace HB := wh hb; clear hb hbox hg; obtain ⟨hcz14_0, hcz14_1, hcz14_2, hfz14_0, hfz14_1, hfz14_2⟩ := bz3 BK563))
        go_ret
        exact ⟨by first | rfl | (simp [errW_none, errW_some] <;> rfl) | (simp [*, errW_none, errW_some] <;> rfl), bl⟩
    · rw [if_neg c3] at H
      have c3b0 : decide (a0_0 ≤ 2) = false := decide_eq_false c3
      clear c3
      obtain rfl := Option.some.inj H
      go_enter Try.func46, Try.ntmps46
      go_wp2_with (first | ((with_reducible refine gate_dst (N := 1) rfl ?_); refine bx 1 #[.int .i64 a0_0, .int .i64 a0_1, .int .i64 a0_2] 47 ?_; intro gb563 hg w15 hbox hb; have BK563 := mk hbox; have GW563 := wg hg; have GE563 := wg hg; replace HB := wh hb; clear hb hbox hg; obtain ⟨hcz16_0, hcz16_1, hcz16_2, hfz16_0, hfz16_1, hfz16_2⟩ := bz3 BK563))
      go_ret
      exact ⟨by first | rfl | (simp [errW_none, errW_some] <;> rfl) | (simp [*, errW_none, errW_some] <;> rfl), bl⟩
  · rw [if_neg c2] at H
    have c2b0 : decide (0 ≤ a0_0) = false := decide_eq_false c2
    clear c2
    obtain rfl := Option.some.inj H
    go_enter Try.func46, Try.ntmps46
    go_wp2_with (first | ((with_reducible refine gate_dst (N := 1) rfl ?_); refine bx 1 #[.int .i64 a0_0, .int .i64 a0_1, .int .i64 a0_2] 47 ?_; intro gb563 hg w17 hbox hb; have BK563 := mk hbox; have GW563 := wg hg; have GE563 := wg hg; replace HB := wh hb; clear hb hbox hg; obtain ⟨hcz18_0, hcz18_1, hcz18_2, hfz18_0, hfz18_1, hfz18_2⟩ := bz3 BK563))
    go_ret
    exact ⟨by first | rfl | (simp [errW_none, errW_some] <;> rfl) | (simp [*, errW_none, errW_some] <;> rfl), bl⟩

/-! ### impl_ChoosePivot: function 20 -/
def impl_ChoosePivot.j0 : Nat → Int → Int → Bool → List Int → List Int → List (S90) → Int → Int → Int → Option (Int × Int × Int × Int)
 | 0, _, _, _, _, _, _, _, _, _ => none
 | k + 1, x2, x3, x33, x565000, x565001, x565002, x566000, x566001, x566002 => if x33 = true then (some (0, x566000, x566001, x566002)) else (if x566000 = 2 then ((impl_NextSeed.f x566002).bind fun t569 => (if (wrap64 (x3 - x2)) = 0 then (none) else (if 0 ≤ (wrap64 (x2 + (Int.tmod t569 (wrap64 (x3 - x2))))) then (if (wrap64 (x2 + (Int.tmod t569 (wrap64 (x3 - x2))))) < (x565000.length : Int) then (some (rd x565000 (wrap64 (x2 + (Int.tmod t569 (wrap64 (x3 - x2))))), x566000, x566001, t569)) else (none)) else (none)))) else (if 0 ≤ x2 then (if x2 ≤ x3 then (if x3 ≤ (x565000.length : Int) then ((impl_MedianOf.f ((x565000.take (x3 : Int).toNat).drop (x2 : Int).toNat)).bind fun t572 => (some (t572, x566000, x566001, x566002))) else (none)) else (none)) else (none)))
def impl_ChoosePivot.f (k : Nat) (l0_0 : List Int) (l0_1 : List Int) (l0_2 : List (S90)) (a1_0 : Int) (a1_1 : Int) (a1_2 : Int) (a2 : Int) (a3 : Int) : Option (Int × Int × Int × Int) := (impl_IsCracker.f k l0_0 l0_1 l0_2).bind fun t567 => (if t567 = true then ((impl_IsSettings.f a1_0 a1_1 a1_2).bind fun t568 => (if t568 = true then (if a2 < 0 then (impl_ChoosePivot.j0 k a2 a3 true l0_0 l0_1 l0_2 a1_0 a1_1 a1_2) else (if a2 ≥ a3 then (impl_ChoosePivot.j0 k a2 a3 true l0_0 l0_1 l0_2 a1_0 a1_1 a1_2) else (impl_ChoosePivot.j0 k a2 a3 (decide (a3 > (l0_0.length : Int))) l0_0 l0_1 l0_2 a1_0 a1_1 a1_2))) else (impl_ChoosePivot.j0 k a2 a3 true l0_0 l0_1 l0_2 a1_0 a1_1 a1_2))) else (impl_ChoosePivot.j0 k a2 a3 true l0_0 l0_1 l0_2 a1_0 a1_1 a1_2))
theorem impl_ChoosePivot.mono_l : ∀ k, (∀ y0 y1 y2 y3 y4 y5 y6 y7 y8, LeO (impl_ChoosePivot.j0 k y0 y1 y2 y3 y4 y5 y6 y7 y8) (impl_ChoosePivot.j0 (k + 1) y0 y1 y2 y3 y4 y5 y6 y7 y8))
 | 0 => fun _ _ _ _ _ _ _ _ _ r h => by simp [impl_ChoosePivot.j0] at h
 | k + 1 => by
  have ih0 := impl_ChoosePivot.mono_l k
  ·intro y0 y1 y2 y3 y4 y5 y6 y7 y8
   unfold impl_ChoosePivot.j0
   exact mo
theorem impl_ChoosePivot.mono : ∀ a0 a1 a2 a3 a4 a5 a6 a7 k, LeO (impl_ChoosePivot.f k a0 a1 a2 a3 a4 a5 a6 a7) (impl_ChoosePivot.f (k + 1) a0 a1 a2 a3 a4 a5 a6 a7) := by
 intro a0 a1 a2 a3 a4 a5 a6 a7 k
 have ih0 := impl_ChoosePivot.mono_l k
 unfold impl_ChoosePivot.f
 exact mo
instance impl_ChoosePivot.mi (a0 a1 a2 a3 a4 a5 a6 a7 k) : LeC (impl_ChoosePivot.f k a0 a1 a2 a3 a4 a5 a6 a7) (impl_ChoosePivot.f (k + 1) a0 a1 a2 a3 a4 a5 a6 a7) := ⟨impl_ChoosePivot.mono a0 a1 a2 a3 a4 a5 a6 a7 k⟩
def impl_ChoosePivot.T5 : Bool × List (List Nat × List Nat) := (true, [([], []), ([0], [0]), ([], []), ([], []), ([3], [3]), ([], []), ([], []), ([5, 6], [5, 6]), ([4, 7], [4, 7]), ([2, 8], [2, 8]), ([1, 9], [1, 9]), ([10], [10]), ([], []), ([11, 0, 1, 2, 3, 4, 5, 6, 7, 8, 9, 10, 11], [11]), ([12, 13, 0, 1, 2, 3, 4, 5, 6, 7, 8, 9, 10, 11, 12, 13], [12])])
def impl_ChoosePivot.B5 : List Nat := [0, 1, 0, 0, 8, 0, 0, 96, 248, 508, 1023, 2047, 0, 4095, 16383]
theorem impl_ChoosePivot.tab5 : rtab .any (opsOf Try.f20 5) = impl_ChoosePivot.T5 := by kernel_rfl
theorem impl_ChoosePivot.bits5 : waitsOk impl_ChoosePivot.T5.2 impl_ChoosePivot.B5 = true := by kernel_rfl
def impl_ChoosePivot.T6 : Bool × List (List Nat × List Nat) := (true, [([], []), ([0], [0]), ([], []), ([], []), ([1, 2, 3], [1, 2, 3]), ([4], [4]), ([], []), ([5, 5, 0, 1, 2, 3, 4, 5], [5]), ([6, 7, 0, 1, 2, 3, 4, 5, 6, 7], [6])])
def impl_ChoosePivot.B6 : List Nat := [0, 1, 0, 0, 15, 31, 0, 63, 255]
theorem impl_ChoosePivot.tab6 : rtab .any (opsOf Try.f20 6) = impl_ChoosePivot.T6 := by kernel_rfl
theorem impl_ChoosePivot.bits6 : waitsOk impl_ChoosePivot.T6.2 impl_ChoosePivot.B6 = true := by kernel_rfl
set_option maxHeartbeats 8000000 in
set_option maxRecDepth 100000 in
theorem impl_ChoosePivot.calls (k : Nat) (A0_0 : Option Addr) (c0_0 : Nat) (l0_0 : List Int) (A0_1 : Option Addr) (c0_1 : Nat) (l0_1 : List Int) (A0_2 : Option Addr) (c0_2 : Nat) (l0_2 : List (S90)) (a1_0 : Int) (a1_1 : Int) (a1_2 : Int) (a2 : Int) (a3 : Int) (r1 : Int) (r2 : Int) (r3 : Int) (r4 : Int) (w : World) (hr0_0 : Kd.C (Kd.int .i64) w A0_0 l0_0.length l0_0) (hc0_0 : l0_0.length ≤ c0_0) (hr0_1 : Kd.C (Kd.int .i64) w A0_1 l0_1.length l0_1) (hc0_1 : l0_1.length ≤ c0_1) (hr0_2 : Kd.C k90 w A0_2 l0_2.length l0_2) (hc0_2 : l0_2.length ≤ c0_2) (h : impl_ChoosePivot.f k l0_0 l0_1 l0_2 a1_0 a1_1 a1_2 a2 a3 = some (r1, r2, r3, r4)) :
  Calls Try.prog 20 #[.agg #[.slice A0_0 l0_0.length c0_0, .slice A0_1 l0_1.length c0_1, .slice A0_2 l0_2.length c0_2], .agg #[.int .i64 a1_0, .int .i64 a1_1, .int .i64 a1_2], .int .i64 a2, .int .i64 a3] w fun e w' => e = .returned (.tuple #[.int .i64 r1, .agg #[.int .i64 r2, .int .i64 r3, .int .i64 r4]]) ∧ Below w.heap.size w w' := by
 have hu45 := Try.underlying45
 have hu47 := Try.underlying47
 have HR0_0 := Aside0.mk hr0_0
 have HC0_0 := Aside0.mk hc0_0
 clear hr0_0 hc0_0
 have HR0_1 := Aside0.mk hr0_1
 have HC0_1 := Aside0.mk hc0_1
 clear hr0_1 hc0_1
 have HR0_2 := Aside0.mk hr0_2
 have HC0_2 := Aside0.mk hc0_2
 clear hr0_2 hc0_2
 have HB := Aside0.mk (Below.refl w.heap.size w)
 have H : ((impl_IsCracker.f k l0_0 l0_1 l0_2).bind fun t567 => (if t567 = true then ((impl_IsSettings.f a1_0 a1_1 a1_2).bind fun t568 => (if t568 = true then (if a2 < 0 then (impl_ChoosePivot.j0 k a2 a3 true l0_0 l0_1 l0_2 a1_0 a1_1 a1_2) else (if a2 ≥ a3 then (impl_ChoosePivot.j0 k a2 a3 true l0_0 l0_1 l0_2 a1_0 a1_1 a1_2) else (impl_ChoosePivot.j0 k a2 a3 (decide (a3 > (l0_0.length : Int))) l0_0 l0_1 l0_2 a1_0 a1_1 a1_2))) else (impl_ChoosePivot.j0 k a2 a3 true l0_0 l0_1 l0_2 a1_0 a1_1 a1_2))) else (impl_ChoosePivot.j0 k a2 a3 true l0_0 l0_1 l0_2 a1_0 a1_1 a1_2))) = some (r1, r2, r3, r4) := h
 clear h
 have HC5 := Aside0.mk H
 clear H
 go_enter Try.func20, Try.ntmps20
 go_upto_region 1 with (first | ((with_reducible refine gate_dst (N := 4) rfl ?_); (try (refine gate_guard (by rfl) ?_; dsimp only)); refine bx 4 #[.slice A0_0 l0_0.length c0_0, .slice A0_1 l0_1.length c0_1, .slice A0_2 l0_2.length c0_2] 45 ?_; intro gb564 hg w6 hbox hb; have BK564 := mk hbox; have GW564 := wg hg; have GE564 := wg hg; replace HB := wh hb; clear hb hbox hg) | ((with_reducible refine gate_dst (N := 5) rfl ?_); (try (refine gate_guard (by rfl) ?_; dsimp only)); refine bx 5 #[.int .i64 a1_0, .int .i64 a1_1, .int .i64 a1_2] 47 ?_; intro gb565 hg w7 hbox hb; have BK565 := mk hbox; have GW565 := wg hg; have GE565 := wg hg; replace HB := wh hb; have NB564_565 := nl BK564 hg; have NB565_564 := nr BK564 hg; replace BK564 := wb BK564 hb; clear hb hbox hg) | ((with_reducible refine gate_dst (N := 9) rfl ?_); (try (refine gate_guard (by rfl) ?_; dsimp only)); refine bx 9 #[.int .i64 0, .int .i64 0, .int .i64 0] 47 ?_; intro gb566 hg w8 hbox hb; have BK566 := mk hbox; have GW566 := wg hg; have GE566 := wg hg; replace HB := wh hb; have NB564_566 := nl BK564 hg; have NB566_564 := nr BK564 hg; replace BK564 := wb BK564 hb; have NB565_566 := nl BK565 hg; have NB566_565 := nr BK565 hg; replace BK565 := wb BK565 hb; clear hb hbox hg))
 (try simp only [Act.put, List.setIfInBounds_toArray, List.set_cons_zero, List.set_cons_succ])
 go_cut [33] (fun v33 wc => ∃ (kq : Nat) (x33_4 : Bool), v33 = .bool x33_4 ∧ Aside0 (impl_ChoosePivot.j0 kq a2 a3 x33_4 l0_0 l0_1 l0_2 a1_0 a1_1 a1_2 = some (r1, r2, r3, r4)) ∧ Aside0 (kq ≤ k) ∧ Aside0 (wc.heap[gb564]? = some (.cells #[(.slice A0_0 l0_0.length c0_0), (.slice A0_1 l0_1.length c0_1), (.slice A0_2 l0_2.length c0_2)] 45 (0, 0))) ∧ Aside0 (wc.heap[gb565]? = some (.cells #[.int .i64 a1_0, .int .i64 a1_1, .int .i64 a1_2] 47 (0, 0))) ∧ Aside0 (wc.heap[gb566]? = some (.cells #[.int .i64 0, .int .i64 0, .int .i64 0] 47 (0, 0))) ∧ Aside0 (Below w.heap.size w wc))
 case first =>
  have H := HC5.out
  clear HC5
  revert H; refine bo ?_; rintro t567 A9 H
  by_cases c10 : t567 = true
  ·subst c10
   rw [if_pos rfl] at H
   revert H; refine bo ?_; rintro t568 A11 H
   by_cases c12 : t568 = true
   ·subst c12
    rw [if_pos rfl] at H
    by_cases c13 : a2 < 0
    ·rw [if_pos c13] at H
     have c13b0 : decide (a2 < 0) = true := decide_eq_true c13
     clear c13
     (first | rw [c13b0] | (simp only [i64_w, i32_w]; rw [c13b0]) | skip)
     have H' := Aside0.mk H
     clear H
     have hnb14 := NB564_565.out
     have hnc14 := NB565_564.out
     have hnb15 := NB564_566.out
     have hnc15 := NB566_564.out
     obtain ⟨hcz16_0, hcz16_1, hcz16_2, hfz16_0, hfz16_1, hfz16_2⟩ := bz3 BK564
     go_wp2_with (first | ((with_reducible refine gate_callee (f := 45) rfl ?_); refine gl (some 11) rfl Try.func45 #[.agg #[.slice A0_0 l0_0.length c0_0, .slice A0_1 l0_1.length c0_1, .slice A0_2 l0_2.length c0_2]] ?_; (with_reducible refine (impl_IsCracker.calls k _ _ l0_0 _ _ l0_1 _ _ l0_2 true _ ?side1 ?side2 ?side3 ?side4 ?side5 ?side6 A9.out).mono ?_); (case side1 => exact uc (Kd.C_below HR0_0.out HB.out)); (case side2 => exact HC0_0.out); (case side3 => exact uc (Kd.C_below HR0_1.out HB.out)); (case side4 => exact HC0_1.out); (case side5 => exact uc (Kd.C_below HR0_2.out HB.out)); (case side6 => exact HC0_2.out); rintro e w17 ⟨rfl, hb⟩; refine ⟨_, rfl, ?_⟩; replace BK564 := wb BK564 hb; replace BK565 := wb BK565 hb; replace BK566 := wb BK566 hb; replace HB := wh hb; (try clear hb); (try clear hb2); (try clear hk); (try clear hi); have hnb18 := NB565_566.out; have hnc18 := NB566_565.out; obtain ⟨hcz19_0, hcz19_1, hcz19_2, hfz19_0, hfz19_1, hfz19_2⟩ := bz3 BK565) | (go_at_call 46; (with_reducible refine (impl_IsSettings.calls a1_0 a1_1 a1_2 true _ A11.out).mono ?_); rintro e w20 ⟨rfl, hb⟩; replace BK564 := wb BK564 hb; replace BK565 := wb BK565 hb; replace BK566 := wb BK566 hb; replace HB := wh hb; (try clear hb); (try clear hb2); (try clear hk); (try clear hi)))
     go_meet
     case rel => exact ⟨_, (true), (by first | rfl | (simp; done) | (simp [*]; done)), H', ⟨by first | omega | exact Nat.le_refl _⟩, ⟨ub BK564.out⟩, ⟨ub BK565.out⟩, ⟨ub BK566.out⟩, ⟨bl⟩⟩
    ·rw [if_neg c13] at H
     have c13b0 : decide (a2 < 0) = false := decide_eq_false c13
     clear c13
     (first | rw [c13b0] | (simp only [i64_w, i32_w]; rw [c13b0]) | skip)
     by_cases c21 : a2 ≥ a3
     ·rw [if_pos c21] at H
      have c21b0 : decide (a3 ≤ a2) = true := decide_eq_true c21
      clear c21
      have H' := Aside0.mk H
      clear H
      have hnb22 := NB564_565.out
      have hnc22 := NB565_564.out
      have hnb23 := NB564_566.out
      have hnc23 := NB566_564.out
      obtain ⟨hcz24_0, hcz24_1, hcz24_2, hfz24_0, hfz24_1, hfz24_2⟩ := bz3 BK564
      go_wp2_with (first | ((with_reducible refine gate_callee (f := 45) rfl ?_); refine gl (some 11) rfl Try.func45 #[.agg #[.slice A0_0 l0_0.length c0_0, .slice A0_1 l0_1.length c0_1, .slice A0_2 l0_2.length c0_2]] ?_; (with_reducible refine (impl_IsCracker.calls k _ _ l0_0 _ _ l0_1 _ _ l0_2 true _ ?side1 ?side2 ?side3 ?side4 ?side5 ?side6 A9.out).mono ?_); (case side1 => exact uc (Kd.C_below HR0_0.out HB.out)); (case side2 => exact HC0_0.out); (case side3 => exact uc (Kd.C_below HR0_1.out HB.out)); (case side4 => exact HC0_1.out); (case side5 => exact uc (Kd.C_below HR0_2.out HB.out)); (case side6 => exact HC0_2.out); rintro e w25 ⟨rfl, hb⟩; refine ⟨_, rfl, ?_⟩; replace BK564 := wb BK564 hb; replace BK565 := wb BK565 hb; replace BK566 := wb BK566 hb; replace HB := wh hb; (try clear hb); (try clear hb2); (try clear hk); (try clear hi); have hnb26 := NB565_566.out; have hnc26 := NB566_565.out; obtain ⟨hcz27_0, hcz27_1, hcz27_2, hfz27_0, hfz27_1, hfz27_2⟩ := bz3 BK565) | (go_at_call 46; (with_reducible refine (impl_IsSettings.calls a1_0 a1_1 a1_2 true _ A11.out).mono ?_); rintro e w28 ⟨rfl, hb⟩; replace BK564 := wb BK564 hb; replace BK565 := wb BK565 hb; replace BK566 := wb BK566 hb; replace HB := wh hb; (try clear hb); (try clear hb2); (try clear hk); (try clear hi)))
      go_meet
      case rel => exact ⟨_, (true), (by first | rfl | (simp; done) | (simp [*]; done)), H', ⟨by first | omega | exact Nat.le_refl _⟩, ⟨ub BK564.out⟩, ⟨ub BK565.out⟩, ⟨ub BK566.out⟩, ⟨bl⟩⟩
     ·rw [if_neg c21] at H
      have c21b0 : decide (a3 ≤ a2) = false := decide_eq_false c21
      clear c21
      have H' := Aside0.mk H
      clear H
      have hnb29 := NB564_565.out
      have hnc29 := NB565_564.out
      have hnb30 := NB564_566.out
      have hnc30 := NB566_564.out
      obtain ⟨hcz31_0, hcz31_1, hcz31_2, hfz31_0, hfz31_1, hfz31_2⟩ := bz3 BK564
      go_wp2_with (first | ((with_reducible refine gate_callee (f := 45) rfl ?_); refine gl (some 11) rfl Try.func45 #[.agg #[.slice A0_0 l0_0.length c0_0, .slice A0_1 l0_1.length c0_1, .slice A0_2 l0_2.length c0_2]] ?_; (with_reducible refine (impl_IsCracker.calls k _ _ l0_0 _ _ l0_1 _ _ l0_2 true _ ?side1 ?side2 ?side3 ?side4 ?side5 ?side6 A9.out).mono ?_); (case side1 => exact uc (Kd.C_below HR0_0.out HB.out)); (case side2 => exact HC0_0.out); (case side3 => exact uc (Kd.C_below HR0_1.out HB.out)); (case side4 => exact HC0_1.out); (case side5 => exact uc (Kd.C_below HR0_2.out HB.out)); (case side6 => exact HC0_2.out); rintro e w32 ⟨rfl, hb⟩; refine ⟨_, rfl, ?_⟩; replace BK564 := wb BK564 hb; replace BK565 := wb BK565 hb; replace BK566 := wb BK566 hb; replace HB := wh hb; (try clear hb); (try clear hb2); (try clear hk); (try clear hi); have hnb33 := NB565_566.out; have hnc33 := NB566_565.out; obtain ⟨hcz34_0, hcz34_1, hcz34_2, hfz34_0, hfz34_1, hfz34_2⟩ := bz3 BK565) | (go_at_call 46; (with_reducible refine (impl_IsSettings.calls a1_0 a1_1 a1_2 true _ A11.out).mono ?_); rintro e w35 ⟨rfl, hb⟩; replace BK564 := wb BK564 hb; replace BK565 := wb BK565 hb; replace BK566 := wb BK566 hb; replace HB := wh hb; (try clear hb); (try clear hb2); (try clear hk); (try clear hi); obtain ⟨hcz36_0, hcz36_1, hcz36_2, hfz36_0, hfz36_1, hfz36_2⟩ := bz3 BK564))
      go_meet
      case rel => exact ⟨_, (decide (a3 > (l0_0.length : Int))), (by first | rfl | (simp; done) | (simp [*]; done)), H', ⟨by first | omega | exact Nat.le_refl _⟩, ⟨ub BK564.out⟩, ⟨ub BK565.out⟩, ⟨ub BK566.out⟩, ⟨bl⟩⟩
   ·replace c12 := Bool.eq_false_iff.mpr c12
    subst c12
    rw [if_neg nf] at H
    have H' := Aside0.mk H
    clear H
    have hnb37 := NB564_565.out
    have hnc37 := NB565_564.out
    have hnb38 := NB564_566.out
    have hnc38 := NB566_564.out
    obtain ⟨hcz39_0, hcz39_1, hcz39_2, hfz39_0, hfz39_1, hfz39_2⟩ := bz3 BK564
    go_wp2_with (first | ((with_reducible refine gate_callee (f := 45) rfl ?_); refine gl (some 11) rfl Try.func45 #[.agg #[.slice A0_0 l0_0.length c0_0, .slice A0_1 l0_1.length c0_1, .slice A0_2 l0_2.length c0_2]] ?_; (with_reducible refine (impl_IsCracker.calls k _ _ l0_0 _ _ l0_1 _ _ l0_2 true _ ?side1 ?side2 ?side3 ?side4 ?side5 ?side6 A9.out).mono ?_); (case side1 => exact uc (Kd.C_below HR0_0.out HB.out)); (case side2 => exact HC0_0.out); (case side3 => exact uc (Kd.C_below HR0_1.out HB.out)); (case side4 => exact HC0_1.out); (case side5 => exact uc (Kd.C_below HR0_2.out HB.out)); (case side6 => exact HC0_2.out); rintro e w40 ⟨rfl, hb⟩; refine ⟨_, rfl, ?_⟩; replace BK564 := wb BK564 hb; replace BK565 := wb BK565 hb; replace BK566 := wb BK566 hb; replace HB := wh hb; (try clear hb); (try clear hb2); (try clear hk); (try clear hi); have hnb41 := NB565_566.out; have hnc41 := NB566_565.out; obtain ⟨hcz42_0, hcz42_1, hcz42_2, hfz42_0, hfz42_1, hfz42_2⟩ := bz3 BK565) | (go_at_call 46; (with_reducible refine (impl_IsSettings.calls a1_0 a1_1 a1_2 false _ A11.out).mono ?_); rintro e w43 ⟨rfl, hb⟩; replace BK564 := wb BK564 hb; replace BK565 := wb BK565 hb; replace BK566 := wb BK566 hb; replace HB := wh hb; (try clear hb); (try clear hb2); (try clear hk); (try clear hi)))
    go_meet
    case rel => exact ⟨_, (true), (by first | rfl | (simp; done) | (simp [*]; done)), H', ⟨by first | omega | exact Nat.le_refl _⟩, ⟨ub BK564.out⟩, ⟨ub BK565.out⟩, ⟨ub BK566.out⟩, ⟨bl⟩⟩
  ·replace c10 := Bool.eq_false_iff.mpr c10
   subst c10
   rw [if_neg nf] at H
   have H' := Aside0.mk H
   clear H
   have hnb44 := NB564_565.out
   have hnc44 := NB565_564.out
   have hnb45 := NB564_566.out
   have hnc45 := NB566_564.out
   obtain ⟨hcz46_0, hcz46_1, hcz46_2, hfz46_0, hfz46_1, hfz46_2⟩ := bz3 BK564
   go_wp2_with (first | ((with_reducible refine gate_callee (f := 45) rfl ?_); refine gl (some 11) rfl Try.func45 #[.agg #[.slice A0_0 l0_0.length c0_0, .slice A0_1 l0_1.length c0_1, .slice A0_2 l0_2.length c0_2]] ?_; (with_reducible refine (impl_IsCracker.calls k _ _ l0_0 _ _ l0_1 _ _ l0_2 false _ ?side1 ?side2 ?side3 ?side4 ?side5 ?side6 A9.out).mono ?_); (case side1 => exact uc (Kd.C_below HR0_0.out HB.out)); (case side2 => exact HC0_0.out); (case side3 => exact uc (Kd.C_below HR0_1.out HB.out)); (case side4 => exact HC0_1.out); (case side5 => exact uc (Kd.C_below HR0_2.out HB.out)); (case side6 => exact HC0_2.out); rintro e w47 ⟨rfl, hb⟩; refine ⟨_, rfl, ?_⟩; replace BK564 := wb BK564 hb; replace BK565 := wb BK565 hb; replace BK566 := wb BK566 hb; replace HB := wh hb; (try clear hb); (try clear hb2); (try clear hk); (try clear hi)))
   go_meet
   case rel => exact ⟨_, (true), (by first | rfl | (simp; done) | (simp [*]; done)), H', ⟨by first | omega | exact Nat.le_refl _⟩, ⟨ub BK564.out⟩, ⟨ub BK565.out⟩, ⟨ub BK566.out⟩, ⟨bl⟩⟩
 case rest =>
  clear HC5
  try clear c1
  try clear c2
  try clear p2
  try clear c3
  try clear c4
  try clear c10
  try clear c12
  try clear c13
  try clear c13b0
  try clear c14
  try clear c15
  try clear c18
  try clear c20
  try clear c21
  try clear c21b0
  try clear c22
  try clear c23
  try clear c26
  try clear c29
  try clear c30
  try clear c33
  try clear c37
  try clear c38
  try clear c41
  try clear c44
  try clear c45
  try clear hcz16_0
  try clear hcz16_1
  try clear hcz16_2
  try clear hcz19_0
  try clear hcz19_1
  try clear hcz19_2
  try clear hcz24_0
  try clear hcz24_1
  try clear hcz24_2
  try clear hcz27_0
  try clear hcz27_1
  try clear hcz27_2
  try clear hcz31_0
  try clear hcz31_1
  try clear hcz31_2
  try clear hcz34_0
  try clear hcz34_1
  try clear hcz34_2
  try clear hcz36_0
  try clear hcz36_1
  try clear hcz36_2
  try clear hcz39_0
  try clear hcz39_1
  try clear hcz39_2
  try clear hcz42_0
  try clear hcz42_1
  try clear hcz42_2
  try clear hcz46_0
  try clear hcz46_1
  try clear hcz46_2
  try clear hfz16_0
  try clear hfz16_1
  try clear hfz16_2
  try clear hfz19_0
  try clear hfz19_1
  try clear hfz19_2
  try clear hfz24_0
  try clear hfz24_1
  try clear hfz24_2
  try clear hfz27_0
  try clear hfz27_1
  try clear hfz27_2
  try clear hfz31_0
  try clear hfz31_1
  try clear hfz31_2
  try clear hfz34_0
  try clear hfz34_1
  try clear hfz34_2
  try clear hfz36_0
  try clear hfz36_1
  try clear hfz36_2
  try clear hfz39_0
  try clear hfz39_1
  try clear hfz39_2
  try clear hfz42_0
  try clear hfz42_1
  try clear hfz42_2
  try clear hfz46_0
  try clear hfz46_1
  try clear hfz46_2
  obtain ⟨kq, x33_4, rfl, HA, HJ4, BK564, BK565, BK566, HB⟩ := hcut
  cases kq with
  | zero => exact absurd HA.out (by simp [impl_ChoosePivot.j0])
  | succ kj4 =>
   have H := HA.out
   clear HA
   simp only [impl_ChoosePivot.j0] at H
   by_cases c48 : x33_4 = true
   ·subst c48
    rw [if_pos rfl] at H
    simp only [Option.some.injEq, Prod.mk.injEq] at H
    obtain ⟨rfl, rfl, rfl, rfl⟩ := H
    try go_wp2
    replace BK564 := wd BK564
    replace BK565 := wd BK565
    replace BK566 := wd BK566
    replace HB := mk (below_drew1 HB.out)
    refine start_ (n := 3) (S := fun w' => w'.cell? ⟨gb565, 0, none⟩ = some (.int .i64 a1_0) ∧ w'.cell? ⟨gb565, 1, none⟩ = some (.int .i64 a1_1) ∧ w'.cell? ⟨gb565, 2, none⟩ = some (.int .i64 a1_2)) (ds := []) #[F_, F_, F_] (by kernel_rfl) rfl rfl ⟨(blk_cell BK565.out 0).trans rfl, (blk_cell BK565.out 1).trans rfl, (blk_cell BK565.out 2).trans rfl⟩ (fun hHeld => ?_)
    generalize wc.drew = w49 at BK564 BK565 BK566 HB hHeld ⊢
    refine pu 1 8 #[F_,T_,F_] ?_
    refine tk 0 34 (tf 2 1) hHeld ?_
    refine one_ (i := 2) (N := none) #[T_, T_, T_] rfl rfl (by kernel_rfl) (by decide) (fun K hK => ?_)
    have hs50 : w49.cell? ⟨gb566, 0, none⟩ = some (.int .i64 0) := (blk_cell BK566.out 0).trans rfl
    have hfs50 := blk_frozen BK566.out 0
    have hns50_0 := NB564_566.out
    have hns50_1 := NB565_566.out
    have hms50_0 := NB566_564.out
    have hms50_1 := NB566_565.out
    have hs51 : w49.cell? ⟨gb566, 1, none⟩ = some (.int .i64 0) := (blk_cell BK566.out 1).trans rfl
    have hfs51 := blk_frozen BK566.out 1
    have hns51_0 := NB564_566.out
    have hns51_1 := NB565_566.out
    have hms51_0 := NB566_564.out
    have hms51_1 := NB566_565.out
    have hs52 : w49.cell? ⟨gb566, 2, none⟩ = some (.int .i64 0) := (blk_cell BK566.out 2).trans rfl
    have hfs52 := blk_frozen BK566.out 2
    have hns52_0 := NB564_566.out
    have hns52_1 := NB565_566.out
    have hms52_0 := NB566_564.out
    have hms52_1 := NB566_565.out
    refine skip_ (w1 := ?_) (by rfl) rfl ?_ ?_
    rotate_left
    ·go_simp
     rfl
    refine hK.out _ _ ⟨((cell_far (p := ⟨gb566, _, none⟩) NB565_566.out _).trans (((cell_far (p := ⟨gb566, _, none⟩) NB565_566.out _).trans (((cell_far (p := ⟨gb566, _, none⟩) NB565_566.out _).trans (hHeld.1)))))), ((cell_far (p := ⟨gb566, _, none⟩) NB565_566.out _).trans (((cell_far (p := ⟨gb566, _, none⟩) NB565_566.out _).trans (((cell_far (p := ⟨gb566, _, none⟩) NB565_566.out _).trans (hHeld.2.1)))))), ((cell_far (p := ⟨gb566, _, none⟩) NB565_566.out _).trans (((cell_far (p := ⟨gb566, _, none⟩) NB565_566.out _).trans (((cell_far (p := ⟨gb566, _, none⟩) NB565_566.out _).trans (hHeld.2.2))))))⟩ (fun hHeld => ?_)
    clear hK K
    refine done_ (by kernel_rfl) ?_
    try go_wp2
    refine bodyPost_ret (results_tc rfl _ _ gb566 47 #[.int .i64 a1_0, .int .i64 a1_1, .int .i64 a1_2] (0, 0) _ rfl bq Try.underlying47 rfl (by kernel_rfl)) rfl ?_
    exact ⟨by first | rfl | (simp [errW_none, errW_some] <;> rfl) | (simp [*, errW_none, errW_some] <;> rfl), bl⟩
   ·replace c48 := Bool.eq_false_iff.mpr c48
    subst c48
    rw [if_neg nf] at H
    by_cases c53 : a1_0 = 2
    ·rw [if_pos c53] at H
     have c53b0 : (a1_0 == 2) = true := beq_iff_eq.mpr c53
     have c53b1 : (a1_0 != 2) = false := bne_eq_false_iff_eq.mpr c53
     clear c53
     revert H; refine bo ?_; rintro t569 A54 H
     by_cases c55 : (wrap64 (a3 - a2)) = 0
     ·rw [if_pos c55] at H
      exact absurd H (by simp)
     ·rw [if_neg c55] at H
      have c55b0 : ((wrap64 (a3 - a2)) == 0) = false := beq_eq_false_iff_ne.mpr c55
      have c55b1 : ((wrap64 (a3 - a2)) != 0) = true := bne_iff_ne.mpr c55
      obtain ⟨ji56, hji56⟩ : ∃ j_ : Int, (wrap64 (a2 + (Int.tmod t569 (wrap64 (a3 - a2))))) = j_ := ⟨_, rfl⟩
      replace H : (if 0 ≤ (ji56) then (if (ji56) < (l0_0.length : Int) then (some (rd l0_0 (ji56), a1_0, a1_1, t569)) else (none)) else (none)) = some (r1, r2, r3, r4) := by first | (rw [hji56] at H; exact H) | (simp only [hji56] at H ⊢; exact H)
      (try rw [hji56] at A54)
      have hji56w : (IntKind.i64.wrap (a2 + (Int.tmod t569 (wrap64 (a3 - a2))))) = ji56 := (i64_w _).trans hji56
      by_cases c57 : 0 ≤ (ji56)
      ·rw [if_pos c57] at H
       have c57b0 : decide (0 ≤ (ji56)) = true := decide_eq_true c57
       clear c57
       by_cases c58 : (ji56) < (l0_0.length : Int)
       ·rw [if_pos c58] at H
        have c58b0 : decide ((ji56) < (l0_0.length : Int)) = true := decide_eq_true c58
        clear c58
        simp only [Option.some.injEq, Prod.mk.injEq] at H
        obtain ⟨rfl, rfl, rfl, rfl⟩ := H
        have hnb59 := NB565_564.out
        have hnc59 := NB564_565.out
        have hnb60 := NB565_566.out
        have hnc60 := NB566_565.out
        obtain ⟨hcz61_0, hcz61_1, hcz61_2, hfz61_0, hfz61_1, hfz61_2⟩ := bz3 BK565
        try go_wp2_with (first | ((with_reducible refine gate_callee (f := 24) rfl ?_); refine gl (some 40) rfl Try.func24 #[.int .i64 a1_2] ?_; (with_reducible refine (impl_NextSeed.calls a1_2 t569 _ A54.out).mono ?_); rintro e w' ⟨rfl, ⟨nd, rfl⟩⟩; refine ⟨_, rfl, ?_⟩; (try (rw [drewN_self wc]; generalize hq_ : World.drewN wc _ = wc; have n0_ : Aside0 (wc.heap[gb564]? = some (.cells #[.slice A0_0 l0_0.length c0_0, .slice A0_1 l0_1.length c0_1, .slice A0_2 l0_2.length c0_2] 45 (0, 0))) := ⟨by rw [← hq_]; exact (ub BK564.out)⟩; have n1_ : Aside0 (wc.heap[gb565]? = some (.cells #[.int .i64 a1_0, .int .i64 a1_1, .int .i64 a1_2] 47 (0, 0))) := ⟨by rw [← hq_]; exact (ub BK565.out)⟩; have n2_ : Aside0 (wc.heap[gb566]? = some (.cells #[.int .i64 0, .int .i64 0, .int .i64 0] 47 (0, 0))) := ⟨by rw [← hq_]; exact (ub BK566.out)⟩; have n3_ : Aside0 (Below w.heap.size w wc) := ⟨by rw [← hq_]; exact bl⟩; clear BK564 BK565 BK566 HB hq_; have BK564 := n0_; have BK565 := n1_; have BK566 := n2_; have HB := n3_; clear n0_ n1_ n2_ n3_; obtain ⟨hcz61_0, hcz61_1, hcz61_2, hfz61_0, hfz61_1, hfz61_2⟩ := bz3 BK565))))
        have n0_ : Aside0 ((wc.setCell ⟨gb565, 2, none⟩ (.int .i64 t569)).heap[gb564]? = some (.cells #[.slice A0_0 l0_0.length c0_0, .slice A0_1 l0_1.length c0_1, .slice A0_2 l0_2.length c0_2] 45 (0, 0))) := ⟨bq⟩
        have n1_ : Aside0 ((wc.setCell ⟨gb565, 2, none⟩ (.int .i64 t569)).heap[gb565]? = some (.cells #[.int .i64 a1_0, .int .i64 a1_1, .int .i64 t569] 47 (0, 0))) := ⟨bq⟩
        have n2_ : Aside0 ((wc.setCell ⟨gb565, 2, none⟩ (.int .i64 t569)).heap[gb566]? = some (.cells #[.int .i64 0, .int .i64 0, .int .i64 0] 47 (0, 0))) := ⟨bq⟩
        have n3_ : Aside0 (Below w.heap.size w (wc.setCell ⟨gb565, 2, none⟩ (.int .i64 t569))) := ⟨bl⟩
        (try clear BK564)
        (try clear BK565)
        (try clear BK566)
        (try clear HB)
        generalize (wc.setCell ⟨gb565, 2, none⟩ (.int .i64 t569)) = w62 at n0_ n1_ n2_ n3_ ⊢
        have BK564 := n0_
        have BK565 := n1_
        have BK566 := n2_
        have HB := n3_
        clear n0_ n1_ n2_ n3_
        replace BK564 := wd BK564
        replace BK565 := wd BK565
        replace BK566 := wd BK566
        replace HB := mk (below_drew1 HB.out)
        have p570 : 0 ≤ ((ji56) : Int) := of_decide_eq_true (by first | (with_reducible assumption) | assumption)
        have q570 : (ji56) < (l0_0.length : Int) := of_decide_eq_true (by first | (with_reducible assumption) | assumption)
        obtain ⟨ad570, e570, hx570_0⟩ := Kd.at_int HR0_0.out (ji56) p570 q570
        have hw570_0 := hx570_0
        cases e570
        replace hx570_0 := (HB.out.cell (World.block_lt_of_cell? w _ hx570_0)).trans hx570_0
        replace p570 := eq_true p570
        replace q570 := eq_true q570
        refine start_ (n := 15) (S := fun w' => w'.cell? ⟨gb564, 0, none⟩ = some (.slice (some ad570) l0_0.length c0_0) ∧ w'.cell? ⟨gb564, 1, none⟩ = some (.slice A0_1 l0_1.length c0_1) ∧ w'.cell? ⟨gb564, 2, none⟩ = some (.slice A0_2 l0_2.length c0_2) ∧ w'.cell? ⟨gb565, 0, none⟩ = some (.int .i64 a1_0) ∧ w'.cell? ⟨gb565, 1, none⟩ = some (.int .i64 a1_1) ∧ w'.cell? ⟨gb565, 2, none⟩ = some (.int .i64 t569) ∧ w'.cell? (ad570.add ((ji56)).toNat) = some (.int .i64 (rd l0_0 (ji56)))) (ds := []) #[F_, F_, F_, F_, F_, F_, F_, F_, F_, F_, F_, F_, F_, F_, F_] (by kernel_rfl) rfl rfl ⟨(blk_cell BK564.out 0).trans rfl, (blk_cell BK564.out 1).trans rfl, (blk_cell BK564.out 2).trans rfl, (blk_cell BK565.out 0).trans rfl, (blk_cell BK565.out 1).trans rfl, (blk_cell BK565.out 2).trans rfl, ((HB.out.cell (World.block_lt_of_cell? w _ hw570_0)).trans hw570_0)⟩ (fun hHeld => ?_); refine with_tabW impl_ChoosePivot.tab5 impl_ChoosePivot.bits5 (fun HT_ HW_ => ?_)
        generalize w62.drew = w63 at BK564 BK565 BK566 HB hx570_0 hHeld ⊢
        refine pu 0 42 (tf 1 14) ?_
        refine pu 2 44 #[T_,F_,T_,F_,F_,F_,F_,F_,F_,F_,F_,F_,F_,F_,F_] ?_
        refine pu 3 45 #[T_,F_,T_,T_,F_,F_,F_,F_,F_,F_,F_,F_,F_,F_,F_] ?_
        refine pu 5 47 #[T_,F_,T_,T_,F_,T_,F_,F_,F_,F_,F_,F_,F_,F_,F_] ?_
        refine pu 6 48 #[T_,F_,T_,T_,F_,T_,T_,F_,F_,F_,F_,F_,F_,F_,F_] ?_
        refine pu 7 49 #[T_,F_,T_,T_,F_,T_,T_,T_,F_,F_,F_,F_,F_,F_,F_] ?_
        refine tk 1 43 #[T_,T_,T_,T_,F_,T_,T_,T_,F_,F_,F_,F_,F_,F_,F_] hHeld ?_
        refine tk 4 46 (tf 8 7) hHeld ?_
        refine pu 8 50 (tf 9 6) ?_
        refine pu 9 51 (tf 10 5) ?_
        refine pu 10 52 (tf 11 4) ?_
        refine tk 11 53 (tf 12 3) hHeld ?_
        refine pu 13 8 #[T_,T_,T_,T_,T_,T_,T_,T_,T_,T_,T_,T_,F_,T_,F_] ?_
        refine tk 12 54 (tf 14 1) hHeld ?_
        refine one_ (i := 14) (N := none) #[T_, T_, T_, T_, T_, T_, T_, T_, T_, T_, T_, T_, T_, T_, T_] rfl rfl (one_of HT_.out (by kernel_rfl)) (by decide) (fun K hK => ?_)
        have hs64 : w63.cell? ⟨gb566, 0, none⟩ = some (.int .i64 0) := (blk_cell BK566.out 0).trans rfl
        have hfs64 := blk_frozen BK566.out 0
        have hns64_0 := NB564_566.out
        have hns64_1 := NB565_566.out
        have hms64_0 := NB566_564.out
        have hms64_1 := NB566_565.out
        have hs65 : w63.cell? ⟨gb566, 1, none⟩ = some (.int .i64 0) := (blk_cell BK566.out 1).trans rfl
        have hfs65 := blk_frozen BK566.out 1
        have hns65_0 := NB564_566.out
        have hns65_1 := NB565_566.out
        have hms65_0 := NB566_564.out
        have hms65_1 := NB566_565.out
        have hs66 : w63.cell? ⟨gb566, 2, none⟩ = some (.int .i64 0) := (blk_cell BK566.out 2).trans rfl
        have hfs66 := blk_frozen BK566.out 2
        have hns66_0 := NB564_566.out
        have hns66_1 := NB565_566.out
        have hms66_0 := NB566_564.out
        have hms66_1 := NB566_565.out
        refine skip_ (w1 := ?_) (by rfl) rfl ?_ ?_
        rotate_left
        ·go_simp
         rfl
        refine hK.out _ _ ⟨((cell_far (p := ⟨gb566, _, none⟩) NB564_566.out _).trans (((cell_far (p := ⟨gb566, _, none⟩) NB564_566.out _).trans (((cell_far (p := ⟨gb566, _, none⟩) NB564_566.out _).trans (hHeld.1)))))), ((cell_far (p := ⟨gb566, _, none⟩) NB564_566.out _).trans (((cell_far (p := ⟨gb566, _, none⟩) NB564_566.out _).trans (((cell_far (p := ⟨gb566, _, none⟩) NB564_566.out _).trans (hHeld.2.1)))))), ((cell_far (p := ⟨gb566, _, none⟩) NB564_566.out _).trans (((cell_far (p := ⟨gb566, _, none⟩) NB564_566.out _).trans (((cell_far (p := ⟨gb566, _, none⟩) NB564_566.out _).trans (hHeld.2.2.1)))))), ((cell_far (p := ⟨gb566, _, none⟩) NB565_566.out _).trans (((cell_far (p := ⟨gb566, _, none⟩) NB565_566.out _).trans (((cell_far (p := ⟨gb566, _, none⟩) NB565_566.out _).trans (hHeld.2.2.2.1)))))), ((cell_far (p := ⟨gb566, _, none⟩) NB565_566.out _).trans (((cell_far (p := ⟨gb566, _, none⟩) NB565_566.out _).trans (((cell_far (p := ⟨gb566, _, none⟩) NB565_566.out _).trans (hHeld.2.2.2.2.1)))))), ((cell_far (p := ⟨gb566, _, none⟩) NB565_566.out _).trans (((cell_far (p := ⟨gb566, _, none⟩) NB565_566.out _).trans (((cell_far (p := ⟨gb566, _, none⟩) NB565_566.out _).trans (hHeld.2.2.2.2.2.1)))))), ((cell_far (p := ⟨gb566, _, none⟩) (by first | exact Nat.ne_of_lt (Nat.lt_of_lt_of_le (by have := World.block_lt_of_cell? _ _ hw570_0; first | rwa [add_block] at this | exact this) GW566.out) | (rw [add_block]; exact Nat.ne_of_lt (Nat.lt_of_lt_of_le (by have := World.block_lt_of_cell? _ _ hw570_0; first | rwa [add_block] at this | exact this) GW566.out)) | (show (Addr.add _ _).block ≠ _; rw [add_block]; exact Nat.ne_of_lt (Nat.lt_of_lt_of_le (by have := World.block_lt_of_cell? _ _ hw570_0; first | rwa [add_block] at this | exact this) GW566.out)) | (dsimp only; exact Nat.ne_of_lt (Nat.lt_of_lt_of_le (by have := World.block_lt_of_cell? _ _ hw570_0; first | rwa [add_block] at this | exact this) GW566.out))) _).trans (((cell_far (p := ⟨gb566, _, none⟩) (by first | exact Nat.ne_of_lt (Nat.lt_of_lt_of_le (by have := World.block_lt_of_cell? _ _ hw570_0; first | rwa [add_block] at this | exact this) GW566.out) | (rw [add_block]; exact Nat.ne_of_lt (Nat.lt_of_lt_of_le (by have := World.block_lt_of_cell? _ _ hw570_0; first | rwa [add_block] at this | exact this) GW566.out)) | (show (Addr.add _ _).block ≠ _; rw [add_block]; exact Nat.ne_of_lt (Nat.lt_of_lt_of_le (by have := World.block_lt_of_cell? _ _ hw570_0; first | rwa [add_block] at this | exact this) GW566.out)) | (dsimp only; exact Nat.ne_of_lt (Nat.lt_of_lt_of_le (by have := World.block_lt_of_cell? _ _ hw570_0; first | rwa [add_block] at this | exact this) GW566.out))) _).trans (((cell_far (p := ⟨gb566, _, none⟩) (by first | exact Nat.ne_of_lt (Nat.lt_of_lt_of_le (by have := World.block_lt_of_cell? _ _ hw570_0; first | rwa [add_block] at this | exact this) GW566.out) | (rw [add_block]; exact Nat.ne_of_lt (Nat.lt_of_lt_of_le (by have := World.block_lt_of_cell? _ _ hw570_0; first | rwa [add_block] at this | exact this) GW566.out)) | (show (Addr.add _ _).block ≠ _; rw [add_block]; exact Nat.ne_of_lt (Nat.lt_of_lt_of_le (by have := World.block_lt_of_cell? _ _ hw570_0; first | rwa [add_block] at this | exact this) GW566.out)) | (dsimp only; exact Nat.ne_of_lt (Nat.lt_of_lt_of_le (by have := World.block_lt_of_cell? _ _ hw570_0; first | rwa [add_block] at this | exact this) GW566.out))) _).trans (hHeld.2.2.2.2.2.2))))))⟩ (fun hHeld => ?_)
        clear hK K
        refine done_ (done_of HT_.out (by kernel_rfl)) ?_
        try go_wp2
        refine bodyPost_ret (results_tc rfl _ _ gb566 47 #[.int .i64 a1_0, .int .i64 a1_1, .int .i64 t569] (0, 0) _ rfl bq Try.underlying47 rfl (by kernel_rfl)) rfl ?_
        exact ⟨by first | rfl | (simp [errW_none, errW_some] <;> rfl) | (simp only [← hji56]; first | rfl | (simp [errW_none, errW_some] <;> rfl)) | (simp [*, errW_none, errW_some] <;> rfl), bl⟩
       ·rw [if_neg c58] at H
        exact absurd H (by simp)
      ·rw [if_neg c57] at H
       exact absurd H (by simp)
    ·rw [if_neg c53] at H
     have c53b0 : (a1_0 == 2) = false := beq_eq_false_iff_ne.mpr c53
     have c53b1 : (a1_0 != 2) = true := bne_iff_ne.mpr c53
     by_cases c67 : 0 ≤ a2
     ·rw [if_pos c67] at H
      have c67b0 := eq_true c67
      have c67b1 : decide (0 ≤ a2) = true := decide_eq_true c67
      clear c67
      by_cases c68 : a2 ≤ a3
      ·rw [if_pos c68] at H
       have c68b0 := eq_true c68
       have c68b1 : decide (a2 ≤ a3) = true := decide_eq_true c68
       clear c68
       by_cases c69 : a3 ≤ (l0_0.length : Int)
       ·rw [if_pos c69] at H
        have c69b0 := eq_true c69
        have c69b1 : decide (a3 ≤ (l0_0.length : Int)) = true := decide_eq_true c69
        clear c69
        revert H; refine bo ?_; rintro t572 A70 H
        simp only [Option.some.injEq, Prod.mk.injEq] at H
        obtain ⟨rfl, rfl, rfl, rfl⟩ := H
        have hnb71 := NB565_564.out
        have hnc71 := NB564_565.out
        have hnb72 := NB565_566.out
        have hnc72 := NB566_565.out
        obtain ⟨hcz73_0, hcz73_1, hcz73_2, hfz73_0, hfz73_1, hfz73_2⟩ := bz3 BK565
        try go_wp2
        replace BK564 := wd BK564
        replace BK565 := wd BK565
        replace BK566 := wd BK566
        replace HB := mk (below_drew1 HB.out)
        obtain ⟨i075, hi075, _, hsz75, _⟩ := info_parts info3
        obtain ⟨A75, hcut75, hA75, hC75⟩ := print_mid_of (P := Try.prog) (Value.int .i64) 0 26 3 .i64 .i64 Try.underlying26 hi075 hsz75 A0_0 c0_0 l0_0 a2 a3 (of_decide_eq_true (by first | (with_reducible assumption) | assumption)) (by first | omega | exact of_decide_eq_true (by first | (with_reducible assumption) | assumption)) (of_decide_eq_true (by first | (with_reducible assumption) | assumption)) HC0_0.out
        have HR571 := Aside0.mk (Kd.C_of_reads (h1 := fun _ => rfl) (hA75 _ (Kd.reads_of_C HR0_0.out)))
        have HC571 := Aside0.mk hC75
        clear hA75 hC75 hi075 hsz75
        refine start_ (n := 9) (S := fun w' => w'.cell? ⟨gb564, 0, none⟩ = some (.slice A0_0 l0_0.length c0_0) ∧ w'.cell? ⟨gb564, 1, none⟩ = some (.slice A0_1 l0_1.length c0_1) ∧ w'.cell? ⟨gb564, 2, none⟩ = some (.slice A0_2 l0_2.length c0_2) ∧ w'.cell? ⟨gb565, 0, none⟩ = some (.int .i64 a1_0) ∧ w'.cell? ⟨gb565, 1, none⟩ = some (.int .i64 a1_1) ∧ w'.cell? ⟨gb565, 2, none⟩ = some (.int .i64 a1_2)) (ds := []) #[F_, F_, F_, F_, F_, F_, F_, F_, F_] (by kernel_rfl) rfl rfl ⟨(blk_cell BK564.out 0).trans rfl, (blk_cell BK564.out 1).trans rfl, (blk_cell BK564.out 2).trans rfl, (blk_cell BK565.out 0).trans rfl, (blk_cell BK565.out 1).trans rfl, (blk_cell BK565.out 2).trans rfl⟩ (fun hHeld => ?_); refine with_tabW impl_ChoosePivot.tab6 impl_ChoosePivot.bits6 (fun HT_ HW_ => ?_)
        generalize wc.drew = w74 at BK564 BK565 BK566 HB HR571 hHeld ⊢
        refine pu 0 55 (tf 1 8) ?_
        refine pu 2 57 #[T_,F_,T_,F_,F_,F_,F_,F_,F_] ?_
        refine pu 3 58 #[T_,F_,T_,T_,F_,F_,F_,F_,F_] ?_
        refine tk 1 56 (tf 4 5) hHeld ?_
        refine pu 4 59 (tf 5 4) ?_
        refine tk 6 61 #[T_,T_,T_,T_,T_,F_,T_,F_,F_] hHeld ?_
        refine on 5 60 (tf 7 2) (fun K hK => ?_)
        refine goes_ Try.func16 (by kernel_rfl) rfl #[.slice A75 ((l0_0.take (a3 : Int).toNat).drop (a2 : Int).toNat).length (c0_0 - a2.toNat)] (by rfl) rfl rfl (by (try simp only [List.map_toArray, List.map_cons, List.map_nil]); first | done | (rw [show ((l0_0.take (a3 : Int).toNat).drop (a2 : Int).toNat).length = (a3.toNat - a2.toNat) from (by rw [List.length_drop, List.length_take]; have h_ : (a3 : Int) ≤ (l0_0.length : Int) := of_decide_eq_true (by first | (with_reducible assumption) | assumption); omega)] <;> rfl) | rfl | (simp only [List.length_drop, List.length_take]; rfl)) ?_
        with_reducible refine (impl_MedianOf.calls _ _ ((l0_0.take (a3 : Int).toNat).drop (a2 : Int).toNat) t572 _ ?side1 ?side2 A70.out).mono ?_
        (case side1 => exact uc (Kd.C_below HR571.out HB.out))
        (case side2 => exact HC571.out)
        rintro e w76 ⟨rfl, hb⟩
        refine ⟨_, rfl, ?_⟩
        replace BK564 := wb BK564 hb
        replace BK565 := wb BK565 hb
        replace BK566 := wb BK566 hb
        replace HB := wh hb
        (try clear hb)
        (try clear hb2)
        (try clear hk)
        (try clear hi)
        refine hK.out _ _ ⟨(blk_cell BK564.out 0).trans rfl, (blk_cell BK564.out 1).trans rfl, (blk_cell BK564.out 2).trans rfl, (blk_cell BK565.out 0).trans rfl, (blk_cell BK565.out 1).trans rfl, (blk_cell BK565.out 2).trans rfl⟩ (fun hHeld => ?_)
        clear hK K
        refine nm 60 ?_
        refine pu 7 8 (tf 8 1) ?_
        refine one_ (i := 8) (N := none) #[T_, T_, T_, T_, T_, T_, T_, T_, T_] rfl rfl (one_of HT_.out (by kernel_rfl)) (by decide) (fun K hK => ?_)
        have hs77 : w76.cell? ⟨gb566, 0, none⟩ = some (.int .i64 0) := (blk_cell BK566.out 0).trans rfl
        have hfs77 := blk_frozen BK566.out 0
        have hns77_0 := NB564_566.out
        have hns77_1 := NB565_566.out
        have hms77_0 := NB566_564.out
        have hms77_1 := NB566_565.out
        have hs78 : w76.cell? ⟨gb566, 1, none⟩ = some (.int .i64 0) := (blk_cell BK566.out 1).trans rfl
        have hfs78 := blk_frozen BK566.out 1
        have hns78_0 := NB564_566.out
        have hns78_1 := NB565_566.out
        have hms78_0 := NB566_564.out
        have hms78_1 := NB566_565.out
        have hs79 : w76.cell? ⟨gb566, 2, none⟩ = some (.int .i64 0) := (blk_cell BK566.out 2).trans rfl
        have hfs79 := blk_frozen BK566.out 2
        have hns79_0 := NB564_566.out
        have hns79_1 := NB565_566.out
        have hms79_0 := NB566_564.out
        have hms79_1 := NB566_565.out
        refine skip_ (w1 := ?_) (by rfl) rfl ?_ ?_
        rotate_left
        ·go_simp
         rfl
        refine hK.out _ _ ⟨((cell_far (p := ⟨gb566, _, none⟩) NB564_566.out _).trans (((cell_far (p := ⟨gb566, _, none⟩) NB564_566.out _).trans (((cell_far (p := ⟨gb566, _, none⟩) NB564_566.out _).trans (hHeld.1)))))), ((cell_far (p := ⟨gb566, _, none⟩) NB564_566.out _).trans (((cell_far (p := ⟨gb566, _, none⟩) NB564_566.out _).trans (((cell_far (p := ⟨gb566, _, none⟩) NB564_566.out _).trans (hHeld.2.1)))))), ((cell_far (p := ⟨gb566, _, none⟩) NB564_566.out _).trans (((cell_far (p := ⟨gb566, _, none⟩) NB564_566.out _).trans (((cell_far (p := ⟨gb566, _, none⟩) NB564_566.out _).trans (hHeld.2.2.1)))))), ((cell_far (p := ⟨gb566, _, none⟩) NB565_566.out _).trans (((cell_far (p := ⟨gb566, _, none⟩) NB565_566.out _).trans (((cell_far (p := ⟨gb566, _, none⟩) NB565_566.out _).trans (hHeld.2.2.2.1)))))), ((cell_far (p := ⟨gb566, _, none⟩) NB565_566.out _).trans (((cell_far (p := ⟨gb566, _, none⟩) NB565_566.out _).trans (((cell_far (p := ⟨gb566, _, none⟩) NB565_566.out _).trans (hHeld.2.2.2.2.1)))))), ((cell_far (p := ⟨gb566, _, none⟩) NB565_566.out _).trans (((cell_far (p := ⟨gb566, _, none⟩) NB565_566.out _).trans (((cell_far (p := ⟨gb566, _, none⟩) NB565_566.out _).trans (hHeld.2.2.2.2.2))))))⟩ (fun hHeld => ?_)
        clear hK K
        refine done_ (done_of HT_.out (by kernel_rfl)) ?_
        try go_wp2
        refine bodyPost_ret (results_tc rfl _ _ gb566 47 #[.int .i64 a1_0, .int .i64 a1_1, .int .i64 a1_2] (0, 0) _ rfl bq Try.underlying47 rfl (by kernel_rfl)) rfl ?_
        exact ⟨by first | rfl | (simp [errW_none, errW_some] <;> rfl) | (simp [*, errW_none, errW_some] <;> rfl), bl⟩
       ·rw [if_neg c69] at H
        exact absurd H (by simp)
      ·rw [if_neg c68] at H
       exact absurd H (by simp)
     ·rw [if_neg c67] at H
      exact absurd H (by simp)

/-! ### spec_NextSeed: function 27 -/
def spec_NextSeed.f (a0 : Int) : Option (Int) := some (Int.tmod (wrap64 ((wrap64 ((Int.tmod (wrap64 ((Int.tmod a0 10007) + 10007)) 10007) * 1103)) + 2345)) 10007)
set_option maxHeartbeats 8000000 in
set_option maxRecDepth 100000 in
theorem spec_NextSeed.calls (a0 : Int) (r : Int) (w : World) (h : spec_NextSeed.f a0 = some r) :
    Calls Try.prog 27 #[.int .i64 a0] w fun e w' => e = .returned (.int .i64 r) ∧ Drawn0 w w' := by
  have H : (some (Int.tmod (wrap64 ((wrap64 ((Int.tmod (wrap64 ((Int.tmod a0 10007) + 10007)) 10007) * 1103)) + 2345)) 10007)) = some r := h
  clear h
  obtain rfl := Option.some.inj H
  go_enter Try.func27, Try.ntmps27
  go_wp2
  go_ret
  exact ⟨by first | rfl | (simp; done) | (simp [*]; done), by repeat (first | exact Drawn0.refl _ | apply Drawn0.step)⟩

end Go.Proofs.Ytlikcmonejefoac.PFnMedians
