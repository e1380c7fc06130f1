-- printed by a program of this session, a turned copy of the print of the kit
import Derived.Test.YtmliclopdbkbeaaSq
import Derived.Test.YtmliclopdbkbeaaPFnExactAddPivotx0
import Derived.Test.YtmliclopdbkbeaaPFnExactAddPivotx8
namespace Go.Proofs.Ytmliclopdbkbeaa.PFnExactAddPivot
open Go.RowKit Go.Proofs.YtmliclopdbkbeaaW.PrintWords Go.Proofs.YtmliclopdbkbeaaW.PrintLast Go.Proofs.YtmliclopdbkbeaaW.PrintMore Go.Proofs.Ytmliclopdbkbeaa.Sq
attribute [local go_sem] max2_int min2_int max_two min_two max_three min_three max_four min_four Giv.cell_twice   -- for this text's walks alone
set_option linter.unusedVariables false
set_option linter.unusedSimpArgs false

/-! ### impl_IsCracker: function 19 -/
mutual
def impl_IsCracker.j0 : Nat → Bool → List Int → List Int → List (S35) → Option (Bool)
 | 0, _, _, _, _ => none
 | k + 1, x33, x260000, x260001, x260002 => if x33 = true then (some false) else (impl_IsCracker.l0 k x260001 (x260001.length : Int) 0 x260000 x260001 x260002)
def impl_IsCracker.l0 : Nat → List Int → Int → Int → List Int → List Int → List (S35) → Option (Bool)
 | 0, _, _, _, _, _, _ => none
 | k + 1, x35, x36, x37, x260000, x260001, x260002 => if x37 < x36 then (if 0 ≤ x37 then (if x37 < (x35.length : Int) then (if x37 ≤ (x260001.length : Int) then ((slices_Contains_int_int.f k (x260001.take (x37 : Int).toNat) (rd x35 x37)).bind fun t264 => (if t264 = true then (some false) else (impl_IsCracker.l0 k x35 x36 (wrap64 (x37 + 1)) x260000 x260001 x260002))) else (none)) else (none)) else (none)) else (impl_IsCracker.l1 k x260002 (x260002.length : Int) 0 x260000 x260001 x260002)
def impl_IsCracker.l1 : Nat → List (S35) → Int → Int → List Int → List Int → List (S35) → Option (Bool)
 | 0, _, _, _, _, _, _ => none
 | k + 1, x50, x51, x52, x260000, x260001, x260002 => if x52 < x51 then (if 0 ≤ x52 then (if x52 < (x50.length : Int) then ((impl_bound.f ((rd_T35 x50 x52).f0)).bind fun t267 => (if t267 = true then (if ((rd_T35 x50 x52).f1) < 0 then (impl_IsCracker.j3 k x50 x51 x52 true x260000 x260001 x260002 ((rd_T35 x50 x52).f0) ((rd_T35 x50 x52).f1)) else (if ((rd_T35 x50 x52).f1) > (x260000.length : Int) then (impl_IsCracker.j3 k x50 x51 x52 true x260000 x260001 x260002 ((rd_T35 x50 x52).f0) ((rd_T35 x50 x52).f1)) else (if x52 > 0 then (if 0 ≤ (wrap64 (x52 - 1)) then (if (wrap64 (x52 - 1)) < (x260002.length : Int) then (if ((rd_T35 x50 x52).f0) ≤ ((rd_T35 x260002 (wrap64 (x52 - 1))).f0) then (impl_IsCracker.j3 k x50 x51 x52 true x260000 x260001 x260002 ((rd_T35 x50 x52).f0) ((rd_T35 x50 x52).f1)) else (impl_IsCracker.j3 k x50 x51 x52 (decide (((rd_T35 x50 x52).f1) < ((rd_T35 x260002 (wrap64 (x52 - 1))).f1))) x260000 x260001 x260002 ((rd_T35 x50 x52).f0) ((rd_T35 x50 x52).f1))) else (none)) else (none)) else (impl_IsCracker.j3 k x50 x51 x52 false x260000 x260001 x260002 ((rd_T35 x50 x52).f0) ((rd_T35 x50 x52).f1))))) else (impl_IsCracker.j3 k x50 x51 x52 true x260000 x260001 x260002 ((rd_T35 x50 x52).f0) ((rd_T35 x50 x52).f1)))) else (none)) else (none)) else (some true)
def impl_IsCracker.j3 : Nat → List (S35) → Int → Int → Bool → List Int → List Int → List (S35) → Int → Int → Option (Bool)
 | 0, _, _, _, _, _, _, _, _, _ => none
 | k + 1, x50, x51, x52, x101, x260000, x260001, x260002, x267000, x267001 => if x101 = true then (some false) else (impl_IsCracker.l2 k x50 x51 x52 x260000 (x260000.length : Int) 0 x260000 x260001 x260002 x267000 x267001)
def impl_IsCracker.l2 : Nat → List (S35) → Int → Int → List Int → Int → Int → List Int → List Int → List (S35) → Int → Int → Option (Bool)
 | 0, _, _, _, _, _, _, _, _, _, _, _ => none
 | k + 1, x50, x51, x52, x103, x104, x105, x260000, x260001, x260002, x267000, x267001 => if x105 < x104 then (if 0 ≤ x105 then (if x105 < (x103.length : Int) then (if ((decide ((rd x103 x105) < x267000)) != (decide (x105 < x267001))) = true then (some false) else (impl_IsCracker.l2 k x50 x51 x52 x103 x104 (wrap64 (x105 + 1)) x260000 x260001 x260002 x267000 x267001)) else (none)) else (none)) else (impl_IsCracker.l1 k x50 x51 (wrap64 (x52 + 1)) x260000 x260001 x260002)
end
def impl_IsCracker.f (k : Nat) (l0_0 : List Int) (l0_1 : List Int) (l0_2 : List (S35)) : Option (Bool) := (impl_AreValues.f l0_0).bind fun t260 => (if t260 = true then (if (l0_1.length : Int) = (l0_0.length : Int) then ((impl_within.f l0_1 0 999).bind fun t261 => (if t261 = true then (impl_IsCracker.j0 k (decide ((l0_2.length : Int) > 2001)) l0_0 l0_1 l0_2) else (impl_IsCracker.j0 k true l0_0 l0_1 l0_2))) else (impl_IsCracker.j0 k true l0_0 l0_1 l0_2)) else (impl_IsCracker.j0 k true l0_0 l0_1 l0_2))
theorem impl_IsCracker.mono_l : ∀ k, (∀ y0 y1 y2 y3, LeO (impl_IsCracker.j0 k y0 y1 y2 y3) (impl_IsCracker.j0 (k + 1) y0 y1 y2 y3)) ∧ (∀ y0 y1 y2 y3 y4 y5, LeO (impl_IsCracker.l0 k y0 y1 y2 y3 y4 y5) (impl_IsCracker.l0 (k + 1) y0 y1 y2 y3 y4 y5)) ∧ (∀ y0 y1 y2 y3 y4 y5, LeO (impl_IsCracker.l1 k y0 y1 y2 y3 y4 y5) (impl_IsCracker.l1 (k + 1) y0 y1 y2 y3 y4 y5)) ∧ (∀ y0 y1 y2 y3 y4 y5 y6 y7 y8, LeO (impl_IsCracker.j3 k y0 y1 y2 y3 y4 y5 y6 y7 y8) (impl_IsCracker.j3 (k + 1) y0 y1 y2 y3 y4 y5 y6 y7 y8)) ∧ (∀ y0 y1 y2 y3 y4 y5 y6 y7 y8 y9 y10, LeO (impl_IsCracker.l2 k y0 y1 y2 y3 y4 y5 y6 y7 y8 y9 y10) (impl_IsCracker.l2 (k + 1) y0 y1 y2 y3 y4 y5 y6 y7 y8 y9 y10))
 | 0 => ⟨fun _ _ _ _ r h => by simp [impl_IsCracker.j0] at h, fun _ _ _ _ _ _ r h => by simp [impl_IsCracker.l0] at h, fun _ _ _ _ _ _ r h => by simp [impl_IsCracker.l1] at h, fun _ _ _ _ _ _ _ _ _ r h => by simp [impl_IsCracker.j3] at h, fun _ _ _ _ _ _ _ _ _ _ _ r h => by simp [impl_IsCracker.l2] at h⟩
 | k + 1 => by
  obtain ⟨ih0, ih1, ih2, ih3, ih4⟩ := impl_IsCracker.mono_l k
  refine ⟨?_, ?_, ?_, ?_, ?_⟩
  ·intro y0 y1 y2 y3
   unfold impl_IsCracker.j0
   exact mo
  ·intro y0 y1 y2 y3 y4 y5
   unfold impl_IsCracker.l0
   exact mo
  ·intro y0 y1 y2 y3 y4 y5
   unfold impl_IsCracker.l1
   exact mo
  ·intro y0 y1 y2 y3 y4 y5 y6 y7 y8
   unfold impl_IsCracker.j3
   exact mo
  ·intro y0 y1 y2 y3 y4 y5 y6 y7 y8 y9 y10
   unfold impl_IsCracker.l2
   exact mo
theorem impl_IsCracker.mono : ∀ a0 a1 a2 k, LeO (impl_IsCracker.f k a0 a1 a2) (impl_IsCracker.f (k + 1) a0 a1 a2) := by
 intro a0 a1 a2 k
 obtain ⟨ih0, ih1, ih2, ih3, ih4⟩ := impl_IsCracker.mono_l k
 unfold impl_IsCracker.f
 exact mo
instance impl_IsCracker.mi (a0 a1 a2 k) : LeC (impl_IsCracker.f k a0 a1 a2) (impl_IsCracker.f (k + 1) a0 a1 a2) := ⟨impl_IsCracker.mono a0 a1 a2 k⟩
def impl_IsCracker.T12 : Bool × List (List Nat × List Nat) := (true, [([], []), ([0], [0]), ([1], [1]), ([2], [2]), ([3, 2], [3]), ([4], [4]), ([5, 4], [4, 5]), ([6, 4], [4, 6]), ([4, 7], [4, 7]), ([8, 4], [8]), ([9], [9]), ([10, 9], [9, 10]), ([9], [9]), ([12, 9], [9, 12]), ([13, 9], [9, 13]), ([11, 14, 9], [9, 11, 14]), ([9, 15], [9, 15]), ([16, 9], [16]), ([17], [17]), ([18, 17], [17, 18]), ([19, 17, 17], [17, 19]), ([20], [20]), ([21, 20], [20, 21]), ([20], [20]), ([23, 20], [20, 23]), ([20], [20]), ([25, 20], [20, 25]), ([24, 26, 20], [20, 24, 26]), ([27, 20], [20, 27]), ([28, 20], [20, 28]), ([22, 29, 20], [20, 22, 29]), ([30, 20, 20], [20, 30]), ([31], [31]), ([32, 31], [31, 32]), ([31], [31]), ([34, 31], [31, 34]), ([31], [31]), ([36, 31], [31, 36]), ([35, 37, 31], [31, 35, 37]), ([38, 31], [31, 38]), ([39, 31], [31, 39]), ([33, 40, 31], [31, 33, 40]), ([31, 41, 20], [20, 31, 41]), ([20, 42, 17], [17, 20, 42]), ([17, 43], [17, 43])])
def impl_IsCracker.B12 : List Nat := [0, 1, 3, 7, 15, 31, 63, 127, 255, 511, 1023, 2047, 1023, 5119, 13311, 32767, 65535, 131071, 262143, 524287, 1048575, 2097151, 4194303, 2097151, 10485759, 2097151, 35651583, 127926271, 262143999, 530579455, 1073741823, 2147483647, 4294967295, 8589934591, 4294967295, 21474836479, 4294967295, 73014444031, 261993005055, 536870911999, 1086626725887, 2199023255551, 4398046511103, 8796093022207, 17592186044415]
theorem impl_IsCracker.tab12 : rtab .any (opsOf Try.f19 12) = impl_IsCracker.T12 := by kernel_rfl
theorem impl_IsCracker.bits12 : waitsOk impl_IsCracker.T12.2 impl_IsCracker.B12 = true := by kernel_rfl
set_option maxHeartbeats 8000000 in
set_option maxRecDepth 100000 in
theorem impl_IsCracker.calls (k : Nat) (A0_0 : Option Addr) (c0_0 : Nat) (l0_0 : List Int) (A0_1 : Option Addr) (c0_1 : Nat) (l0_1 : List Int) (A0_2 : Option Addr) (c0_2 : Nat) (l0_2 : List (S35)) (r : Bool) (w : World) (hr0_0 : Kd.C (Kd.int .i64) w A0_0 l0_0.length l0_0) (hc0_0 : l0_0.length ≤ c0_0) (hr0_1 : Kd.C (Kd.int .i64) w A0_1 l0_1.length l0_1) (hc0_1 : l0_1.length ≤ c0_1) (hr0_2 : Kd.C k35 w A0_2 l0_2.length l0_2) (hc0_2 : l0_2.length ≤ c0_2) (h : impl_IsCracker.f k l0_0 l0_1 l0_2 = some r) :
  Calls Try.prog 19 #[.agg #[.slice A0_0 l0_0.length c0_0, .slice A0_1 l0_1.length c0_1, .slice A0_2 l0_2.length c0_2]] w fun e w' => e = .returned (.bool r) ∧ Below w.heap.size w w' := by
 have hu31 := Try.underlying31
 have hu35 := Try.underlying35
 have HR0_0 := Aside0.mk hr0_0
 have HC0_0 := Aside0.mk hc0_0
 clear hr0_0 hc0_0
 have HR0_1 := Aside0.mk hr0_1
 have HC0_1 := Aside0.mk hc0_1
 clear hr0_1 hc0_1
 have HR0_2 := Aside0.mk hr0_2
 have HC0_2 := Aside0.mk hc0_2
 clear hr0_2 hc0_2
 have HB := Aside0.mk (Below.refl w.heap.size w)
 have H : ((impl_AreValues.f l0_0).bind fun t260 => (if t260 = true then (if (l0_1.length : Int) = (l0_0.length : Int) then ((impl_within.f l0_1 0 999).bind fun t261 => (if t261 = true then (impl_IsCracker.j0 k (decide ((l0_2.length : Int) > 2001)) l0_0 l0_1 l0_2) else (impl_IsCracker.j0 k true l0_0 l0_1 l0_2))) else (impl_IsCracker.j0 k true l0_0 l0_1 l0_2)) else (impl_IsCracker.j0 k true l0_0 l0_1 l0_2))) = some r := h
 clear h
 have HC2 := Aside0.mk H
 clear H
 go_enter Try.func19, Try.ntmps19
 go_upto_region 1 with (first | ((with_reducible refine gate_dst (N := 1) rfl ?_); (try (refine gate_guard (by rfl) ?_; dsimp only)); refine bx 1 #[.slice A0_0 l0_0.length c0_0, .slice A0_1 l0_1.length c0_1, .slice A0_2 l0_2.length c0_2] 31 ?_; intro gb259 hg w3 hbox hb; have BK259 := mk hbox; have GW259 := wg hg; have GE259 := wg hg; replace HB := wh hb; clear hb hbox hg))
 (try simp only [Act.put, List.setIfInBounds_toArray, List.set_cons_zero, List.set_cons_succ])
 go_cut [33] (fun v33 wc => ∃ (kq : Nat) (x33_1 : Bool), v33 = .bool x33_1 ∧ Aside0 (impl_IsCracker.j0 kq x33_1 l0_0 l0_1 l0_2 = some r) ∧ Aside0 (kq ≤ k) ∧ Aside0 (wc.heap[gb259]? = some (.cells #[(.slice A0_0 l0_0.length c0_0), (.slice A0_1 l0_1.length c0_1), (.slice A0_2 l0_2.length c0_2)] 31 (0, 0))) ∧ Aside0 (Below w.heap.size w wc))
 case first =>
  have H := HC2.out
  clear HC2
  revert H; refine bo ?_; rintro t260 A4 H
  by_cases c5 : t260 = true
  ·subst c5
   rw [if_pos rfl] at H
   by_cases c6 : (l0_1.length : Int) = (l0_0.length : Int)
   ·rw [if_pos c6] at H
    have c6b0 : ((l0_1.length : Int) == (l0_0.length : Int)) = true := beq_iff_eq.mpr c6
    have c6b1 : ((l0_1.length : Int) != (l0_0.length : Int)) = false := bne_eq_false_iff_eq.mpr c6
    have c6b2 : (l0_1.length == l0_0.length) = true := by first | simpa using c6 | (simp at c6 ⊢; omega)
    clear c6
    (first | rw [c6b0] | (simp only [i64_w, i32_w]; rw [c6b0]) | skip)
    revert H; refine bo ?_; rintro t261 A7 H
    by_cases c8 : t261 = true
    ·subst c8
     rw [if_pos rfl] at H
     have H' := Aside0.mk H
     clear H
     obtain ⟨hcz9_0, hcz9_1, hcz9_2, hfz9_0, hfz9_1, hfz9_2⟩ := bz3 BK259
     go_wp2_with (first | ((with_reducible refine gate_callee (f := 34) rfl ?_); refine gl (some 11) rfl Try.func34 #[.slice A0_0 l0_0.length c0_0] ?_; (with_reducible refine (impl_AreValues.calls _ _ l0_0 true _ ?side1 ?side2 A4.out).mono ?_); (case side1 => exact uc (Kd.C_below HR0_0.out HB.out)); (case side2 => exact HC0_0.out); rintro e w10 ⟨rfl, hb⟩; refine ⟨_, rfl, ?_⟩; replace BK259 := wb BK259 hb; replace HB := wh hb; (try clear hb); (try clear hb2); (try clear hk); (try clear hi); obtain ⟨hcz11_0, hcz11_1, hcz11_2, hfz11_0, hfz11_1, hfz11_2⟩ := bz3 BK259) | (go_at_call 35; (with_reducible refine (impl_within.calls _ _ l0_1 0 999 true _ ?side1 ?side2 A7.out).mono ?_); (case side1 => exact uc (Kd.C_below HR0_1.out HB.out)); (case side2 => exact HC0_1.out); rintro e w12 ⟨rfl, hb⟩; replace BK259 := wb BK259 hb; replace HB := wh hb; (try clear hb); (try clear hb2); (try clear hk); (try clear hi); obtain ⟨hcz13_0, hcz13_1, hcz13_2, hfz13_0, hfz13_1, hfz13_2⟩ := bz3 BK259))
     go_meet
     case rel => exact ⟨_, (decide ((l0_2.length : Int) > 2001)), (by first | rfl | (simp; done) | (simp [*]; done)), H', ⟨by first | omega | exact Nat.le_refl _⟩, ⟨ub BK259.out⟩, ⟨bl⟩⟩
    ·replace c8 := Bool.eq_false_iff.mpr c8
     subst c8
     rw [if_neg nf] at H
     have H' := Aside0.mk H
     clear H
     obtain ⟨hcz14_0, hcz14_1, hcz14_2, hfz14_0, hfz14_1, hfz14_2⟩ := bz3 BK259
     go_wp2_with (first | ((with_reducible refine gate_callee (f := 34) rfl ?_); refine gl (some 11) rfl Try.func34 #[.slice A0_0 l0_0.length c0_0] ?_; (with_reducible refine (impl_AreValues.calls _ _ l0_0 true _ ?side1 ?side2 A4.out).mono ?_); (case side1 => exact uc (Kd.C_below HR0_0.out HB.out)); (case side2 => exact HC0_0.out); rintro e w15 ⟨rfl, hb⟩; refine ⟨_, rfl, ?_⟩; replace BK259 := wb BK259 hb; replace HB := wh hb; (try clear hb); (try clear hb2); (try clear hk); (try clear hi); obtain ⟨hcz16_0, hcz16_1, hcz16_2, hfz16_0, hfz16_1, hfz16_2⟩ := bz3 BK259) | (go_at_call 35; (with_reducible refine (impl_within.calls _ _ l0_1 0 999 false _ ?side1 ?side2 A7.out).mono ?_); (case side1 => exact uc (Kd.C_below HR0_1.out HB.out)); (case side2 => exact HC0_1.out); rintro e w17 ⟨rfl, hb⟩; replace BK259 := wb BK259 hb; replace HB := wh hb; (try clear hb); (try clear hb2); (try clear hk); (try clear hi)))
     go_meet
     case rel => exact ⟨_, (true), (by first | rfl | (simp; done) | (simp [*]; done)), H', ⟨by first | omega | exact Nat.le_refl _⟩, ⟨ub BK259.out⟩, ⟨bl⟩⟩
   ·rw [if_neg c6] at H
    have c6b0 : ((l0_1.length : Int) == (l0_0.length : Int)) = false := beq_eq_false_iff_ne.mpr c6
    have c6b1 : ((l0_1.length : Int) != (l0_0.length : Int)) = true := bne_iff_ne.mpr c6
    have c6b2 : (l0_1.length == l0_0.length) = false := by first | simpa using c6 | (simp at c6 ⊢; omega)
    (first | rw [c6b0] | (simp only [i64_w, i32_w]; rw [c6b0]) | skip)
    have H' := Aside0.mk H
    clear H
    obtain ⟨hcz18_0, hcz18_1, hcz18_2, hfz18_0, hfz18_1, hfz18_2⟩ := bz3 BK259
    go_wp2_with (first | ((with_reducible refine gate_callee (f := 34) rfl ?_); refine gl (some 11) rfl Try.func34 #[.slice A0_0 l0_0.length c0_0] ?_; (with_reducible refine (impl_AreValues.calls _ _ l0_0 true _ ?side1 ?side2 A4.out).mono ?_); (case side1 => exact uc (Kd.C_below HR0_0.out HB.out)); (case side2 => exact HC0_0.out); rintro e w19 ⟨rfl, hb⟩; refine ⟨_, rfl, ?_⟩; replace BK259 := wb BK259 hb; replace HB := wh hb; (try clear hb); (try clear hb2); (try clear hk); (try clear hi); obtain ⟨hcz20_0, hcz20_1, hcz20_2, hfz20_0, hfz20_1, hfz20_2⟩ := bz3 BK259))
    go_meet
    case rel => exact ⟨_, (true), (by first | rfl | (simp; done) | (simp [*]; done)), H', ⟨by first | omega | exact Nat.le_refl _⟩, ⟨ub BK259.out⟩, ⟨bl⟩⟩
  ·replace c5 := Bool.eq_false_iff.mpr c5
   subst c5
   rw [if_neg nf] at H
   have H' := Aside0.mk H
   clear H
   obtain ⟨hcz21_0, hcz21_1, hcz21_2, hfz21_0, hfz21_1, hfz21_2⟩ := bz3 BK259
   go_wp2_with (first | ((with_reducible refine gate_callee (f := 34) rfl ?_); refine gl (some 11) rfl Try.func34 #[.slice A0_0 l0_0.length c0_0] ?_; (with_reducible refine (impl_AreValues.calls _ _ l0_0 false _ ?side1 ?side2 A4.out).mono ?_); (case side1 => exact uc (Kd.C_below HR0_0.out HB.out)); (case side2 => exact HC0_0.out); rintro e w22 ⟨rfl, hb⟩; refine ⟨_, rfl, ?_⟩; replace BK259 := wb BK259 hb; replace HB := wh hb; (try clear hb); (try clear hb2); (try clear hk); (try clear hi)))
   go_meet
   case rel => exact ⟨_, (true), (by first | rfl | (simp; done) | (simp [*]; done)), H', ⟨by first | omega | exact Nat.le_refl _⟩, ⟨ub BK259.out⟩, ⟨bl⟩⟩
 case rest =>
  clear HC2
  try clear c1
  try clear p2
  try clear c3
  try clear c5
  try clear c6
  try clear c6b0
  try clear c6b1
  try clear c6b2
  try clear c8
  try clear c19
  try clear hcz11_0
  try clear hcz11_1
  try clear hcz11_2
  try clear hcz13_0
  try clear hcz13_1
  try clear hcz13_2
  try clear hcz14_0
  try clear hcz14_1
  try clear hcz14_2
  try clear hcz16_0
  try clear hcz16_1
  try clear hcz16_2
  try clear hcz18_0
  try clear hcz18_1
  try clear hcz18_2
  try clear hcz20_0
  try clear hcz20_1
  try clear hcz20_2
  try clear hcz21_0
  try clear hcz21_1
  try clear hcz21_2
  try clear hcz9_0
  try clear hcz9_1
  try clear hcz9_2
  try clear hfz11_0
  try clear hfz11_1
  try clear hfz11_2
  try clear hfz13_0
  try clear hfz13_1
  try clear hfz13_2
  try clear hfz14_0
  try clear hfz14_1
  try clear hfz14_2
  try clear hfz16_0
  try clear hfz16_1
  try clear hfz16_2
  try clear hfz18_0
  try clear hfz18_1
  try clear hfz18_2
  try clear hfz20_0
  try clear hfz20_1
  try clear hfz20_2
  try clear hfz21_0
  try clear hfz21_1
  try clear hfz21_2
  try clear hfz9_0
  try clear hfz9_1
  try clear hfz9_2
  obtain ⟨kq, x33_1, rfl, HA, HJ1, BK259, HB⟩ := hcut
  cases kq with
  | zero => exact absurd HA.out (by simp [impl_IsCracker.j0])
  | succ kj1 =>
   have H := HA.out
   clear HA
   simp only [impl_IsCracker.j0] at H
   by_cases c23 : x33_1 = true
   ·subst c23
    rw [if_pos rfl] at H
    obtain rfl := Option.some.inj H
    go_wp2
    go_ret
    exact ⟨by first | rfl | (simp [errW_none, errW_some] <;> rfl) | (simp [*, errW_none, errW_some] <;> rfl), bl⟩
   ·replace c23 := Bool.eq_false_iff.mpr c23
    subst c23
    rw [if_neg nf] at H
    have H' := Aside0.mk H
    clear H
    obtain ⟨hcz24_0, hcz24_1, hcz24_2, hfz24_0, hfz24_1, hfz24_2⟩ := bz3 BK259
    go_wp2
    go_loopg [37] kj1 (fun kq v37 w' => ∃ (x37_2 : Int), v37 = .int .i64 x37_2 ∧ Aside0 (impl_IsCracker.l0 kq l0_1 (l0_1.length : Int) x37_2 l0_0 l0_1 l0_2 = some r) ∧ Aside0 (kq ≤ kj1) ∧ Aside0 (w'.heap[gb259]? = some (.cells #[(.slice A0_0 l0_0.length c0_0), (.slice A0_1 l0_1.length c0_1), (.slice A0_2 l0_2.length c0_2)] 31 (0, 0))) ∧ Aside0 (Below w.heap.size w w'))
    case atStart => exact ⟨(0), (by first | rfl | (simp; done) | (simp [*]; done)), H', ⟨Nat.le_refl _⟩, ⟨ub BK259.out⟩, ⟨bl⟩⟩
    case round =>
     clear H'
     try clear c1
     try clear c2
     try clear p2
     try clear c3
     try clear c5
     try clear c6
     try clear c6b0
     try clear c6b1
     try clear c6b2
     try clear c8
     try clear c19
     try clear c23
     try clear hcz11_0
     try clear hcz11_1
     try clear hcz11_2
     try clear hcz13_0
     try clear hcz13_1
     try clear hcz13_2
     try clear hcz14_0
     try clear hcz14_1
     try clear hcz14_2
     try clear hcz16_0
     try clear hcz16_1
     try clear hcz16_2
     try clear hcz18_0
     try clear hcz18_1
     try clear hcz18_2
     try clear hcz20_0
     try clear hcz20_1
     try clear hcz20_2
     try clear hcz21_0
     try clear hcz21_1
     try clear hcz21_2
     try clear hcz24_0
     try clear hcz24_1
     try clear hcz24_2
     try clear hcz9_0
     try clear hcz9_1
     try clear hcz9_2
     try clear hfz11_0
     try clear hfz11_1
     try clear hfz11_2
     try clear hfz13_0
     try clear hfz13_1
     try clear hfz13_2
     try clear hfz14_0
     try clear hfz14_1
     try clear hfz14_2
     try clear hfz16_0
     try clear hfz16_1
     try clear hfz16_2
     try clear hfz18_0
     try clear hfz18_1
     try clear hfz18_2
     try clear hfz20_0
     try clear hfz20_1
     try clear hfz20_2
     try clear hfz21_0
     try clear hfz21_1
     try clear hfz21_2
     try clear hfz24_0
     try clear hfz24_1
     try clear hfz24_2
     try clear hfz9_0
     try clear hfz9_1
     try clear hfz9_2
     try clear p2
     obtain ⟨x37_2, rfl, HA, HK2, BK259, HB⟩ := hrel
     cases gk with
     | zero => exact absurd HA.out (by simp [impl_IsCracker.l0])
     | succ k2 =>
      have H := HA.out
      clear HA
      simp only [impl_IsCracker.l0] at H
      by_cases c25 : x37_2 < (l0_1.length : Int)
      ·rw [if_pos c25] at H
       have c25b0 : decide (x37_2 < (l0_1.length : Int)) = true := decide_eq_true c25
       clear c25
       by_cases c26 : 0 ≤ x37_2
       ·rw [if_pos c26] at H
        have c26b0 : decide (0 ≤ x37_2) = true := decide_eq_true c26
        clear c26
        by_cases c27 : x37_2 < (l0_1.length : Int)
        ·rw [if_pos c27] at H
         have c27b0 : decide (x37_2 < (l0_1.length : Int)) = true := decide_eq_true c27
         clear c27
         have c28b0 := eq_true (dt : 0 ≤ x37_2)
         by_cases c29 : x37_2 ≤ (l0_1.length : Int)
         ·rw [if_pos c29] at H
          have c29b0 := eq_true c29
          have c29b1 : decide (x37_2 ≤ (l0_1.length : Int)) = true := decide_eq_true c29
          clear c29
          revert H; refine bo ?_; rintro t264 A30 H
          by_cases c31 : t264 = true
          ·subst c31
           rw [if_pos rfl] at H
           obtain rfl := Option.some.inj H
           have p262 : 0 ≤ (x37_2 : Int) := dt
           have q262 : x37_2 < (l0_1.length : Int) := dt
           obtain ⟨ad262, e262, hx262_0⟩ := Kd.at_int HR0_1.out x37_2 p262 q262
           cases e262
           replace hx262_0 := (HB.out.cell (World.block_lt_of_cell? w _ hx262_0)).trans hx262_0
           replace p262 := eq_true p262
           replace q262 := eq_true q262
           obtain ⟨hcz32_0, hcz32_1, hcz32_2, hfz32_0, hfz32_1, hfz32_2⟩ := bz3 BK259
           obtain ⟨i033, hi033, _, hsz33, _⟩ := info_parts info3
           obtain ⟨hcut33, hA33, hC33⟩ := print_take_of (P := Try.prog) (Value.int .i64) 0 22 3 .i64 Try.underlying22 hi033 hsz33 (some ad262) c0_1 l0_1 x37_2 dt dt HC0_1.out
           have HR263 := Aside0.mk (Kd.C_of_reads (h1 := fun _ => rfl) (hA33 _ (Kd.reads_of_C HR0_1.out)))
           have HC263 := Aside0.mk hC33
           clear hA33 hC33 hi033 hsz33
           go_wp2_with (first | ((with_reducible refine gate_callee (f := 36) rfl ?_); refine goesL_ (some 47) rfl rfl Try.func36 (by kernel_rfl) rfl #[.slice (some ad262) (l0_1.take (x37_2 : Int).toNat).length c0_1, .int .i64 (rd l0_1 x37_2)] rfl (by (try simp only [List.map_toArray, List.map_cons, List.map_nil]); first | done | (rw [show (l0_1.take (x37_2 : Int).toNat).length = x37_2.toNat from (by rw [List.length_take]; have h_ : (x37_2 : Int) ≤ (l0_1.length : Int) := dt; omega)] <;> rfl) | rfl | (simp only [List.length_drop, List.length_take]; rfl)) ?_; (with_reducible refine (slices_Contains_int_int.calls k2 _ _ (l0_1.take (x37_2 : Int).toNat) (rd l0_1 x37_2) true _ ?side1 ?side2 A30.out).mono ?_); (case side1 => exact uc (Kd.C_below HR263.out HB.out)); (case side2 => exact HC263.out); rintro e w' ⟨rfl, ⟨nd, rfl⟩⟩; refine ⟨_, rfl, ?_⟩))
           go_ret
           exact ⟨by first | rfl | (simp [errW_none, errW_some] <;> rfl) | (simp [*, errW_none, errW_some] <;> rfl), bl⟩
          ·replace c31 := Bool.eq_false_iff.mpr c31
           subst c31
           rw [if_neg nf] at H
           have H' := Aside0.mk H
           clear H
           have p262 : 0 ≤ (x37_2 : Int) := dt
           have q262 : x37_2 < (l0_1.length : Int) := dt
           obtain ⟨ad262, e262, hx262_0⟩ := Kd.at_int HR0_1.out x37_2 p262 q262
           cases e262
           replace hx262_0 := (HB.out.cell (World.block_lt_of_cell? w _ hx262_0)).trans hx262_0
           replace p262 := eq_true p262
           replace q262 := eq_true q262
           obtain ⟨hcz34_0, hcz34_1, hcz34_2, hfz34_0, hfz34_1, hfz34_2⟩ := bz3 BK259
           obtain ⟨i035, hi035, _, hsz35, _⟩ := info_parts info3
           obtain ⟨hcut35, hA35, hC35⟩ := print_take_of (P := Try.prog) (Value.int .i64) 0 22 3 .i64 Try.underlying22 hi035 hsz35 (some ad262) c0_1 l0_1 x37_2 dt dt HC0_1.out
           have HR263 := Aside0.mk (Kd.C_of_reads (h1 := fun _ => rfl) (hA35 _ (Kd.reads_of_C HR0_1.out)))
           have HC263 := Aside0.mk hC35
           clear hA35 hC35 hi035 hsz35
           go_wp2_with (first | ((with_reducible refine gate_callee (f := 36) rfl ?_); refine goesL_ (some 47) rfl rfl Try.func36 (by kernel_rfl) rfl #[.slice (some ad262) (l0_1.take (x37_2 : Int).toNat).length c0_1, .int .i64 (rd l0_1 x37_2)] rfl (by (try simp only [List.map_toArray, List.map_cons, List.map_nil]); first | done | (rw [show (l0_1.take (x37_2 : Int).toNat).length = x37_2.toNat from (by rw [List.length_take]; have h_ : (x37_2 : Int) ≤ (l0_1.length : Int) := dt; omega)] <;> rfl) | rfl | (simp only [List.length_drop, List.length_take]; rfl)) ?_; (with_reducible refine (slices_Contains_int_int.calls k2 _ _ (l0_1.take (x37_2 : Int).toNat) (rd l0_1 x37_2) false _ ?side1 ?side2 A30.out).mono ?_); (case side1 => exact uc (Kd.C_below HR263.out HB.out)); (case side2 => exact HC263.out); rintro e w' ⟨rfl, ⟨nd, rfl⟩⟩; refine ⟨_, rfl, ?_⟩))
           go_roundg k2
           case measure => have := HJ1.out; have := HK2.out; omega
           case rel => exact ⟨(wrap64 (x37_2 + 1)), (by first | rfl | (simp; done) | (simp [*]; done)), H', ⟨by have := HJ1.out; have := HK2.out; omega⟩, ⟨ub BK259.out⟩, ⟨bl⟩⟩
         ·rw [if_neg c29] at H
          exact absurd H (by simp)
        ·rw [if_neg c27] at H
         exact absurd H (by simp)
       ·rw [if_neg c26] at H
        exact absurd H (by simp)
      ·rw [if_neg c25] at H
       have c25b0 : decide (x37_2 < (l0_1.length : Int)) = false := decide_eq_false c25
       clear c25
       have H' := Aside0.mk H
       clear H
       obtain ⟨hcz36_0, hcz36_1, hcz36_2, hfz36_0, hfz36_1, hfz36_2⟩ := bz3 BK259
       go_wp2
       go_loopg [52] k2 (fun kq v52 w' => ∃ (x52_3 : Int), v52 = .int .i64 x52_3 ∧ Aside0 (impl_IsCracker.l1 kq l0_2 (l0_2.length : Int) x52_3 l0_0 l0_1 l0_2 = some r) ∧ Aside0 (kq ≤ k2) ∧ Aside0 (w'.heap[gb259]? = some (.cells #[(.slice A0_0 l0_0.length c0_0), (.slice A0_1 l0_1.length c0_1), (.slice A0_2 l0_2.length c0_2)] 31 (0, 0))) ∧ Aside0 (Below w.heap.size w w'))
       case atStart => exact ⟨(0), (by first | rfl | (simp; done) | (simp [*]; done)), H', ⟨Nat.le_refl _⟩, ⟨ub BK259.out⟩, ⟨bl⟩⟩
       case round =>
        clear H'
        try clear c1
        try clear c2
        try clear p2
        try clear q2
        try clear hx2
        try clear c3
        try clear c5
        try clear c6
        try clear c6b0
        try clear c6b1
        try clear c6b2
        try clear p6
        try clear c8
        try clear c19
        try clear c23
        try clear c25
        try clear c25b0
        try clear c26
        try clear c26b0
        try clear p26
        try clear q26
        try clear hx26
        try clear c27
        try clear c27b0
        try clear c28
        try clear c28b0
        try clear c29
        try clear c29b0
        try clear c29b1
        try clear c31
        try clear c34
        try clear c36
        try clear hcz11_0
        try clear hcz11_1
        try clear hcz11_2
        try clear hcz13_0
        try clear hcz13_1
        try clear hcz13_2
        try clear hcz14_0
        try clear hcz14_1
        try clear hcz14_2
        try clear hcz16_0
        try clear hcz16_1
        try clear hcz16_2
        try clear hcz18_0
        try clear hcz18_1
        try clear hcz18_2
        try clear hcz20_0
        try clear hcz20_1
        try clear hcz20_2
        try clear hcz21_0
        try clear hcz21_1
        try clear hcz21_2
        try clear hcz24_0
        try clear hcz24_1
        try clear hcz24_2
        try clear hcz32_0
        try clear hcz32_1
        try clear hcz32_2
        try clear hcz34_0
        try clear hcz34_1
        try clear hcz34_2
        try clear hcz36_0
        try clear hcz36_1
        try clear hcz36_2
        try clear hcz9_0
        try clear hcz9_1
        try clear hcz9_2
        try clear hfz11_0
        try clear hfz11_1
        try clear hfz11_2
        try clear hfz13_0
        try clear hfz13_1
        try clear hfz13_2
        try clear hfz14_0
        try clear hfz14_1
        try clear hfz14_2
        try clear hfz16_0
        try clear hfz16_1
        try clear hfz16_2
        try clear hfz18_0
        try clear hfz18_1
        try clear hfz18_2
        try clear hfz20_0
        try clear hfz20_1
        try clear hfz20_2
        try clear hfz21_0
        try clear hfz21_1
        try clear hfz21_2
        try clear hfz24_0
        try clear hfz24_1
        try clear hfz24_2
        try clear hfz32_0
        try clear hfz32_1
        try clear hfz32_2
        try clear hfz34_0
        try clear hfz34_1
        try clear hfz34_2
        try clear hfz36_0
        try clear hfz36_1
        try clear hfz36_2
        try clear hfz9_0
        try clear hfz9_1
        try clear hfz9_2
        try clear hx262_0
        try clear p2
        try clear p262
        try clear q262
        obtain ⟨x52_3, rfl, HA, HK3, BK259, HB⟩ := hrel
        cases gk with
        | zero => exact absurd HA.out (by simp [impl_IsCracker.l1])
        | succ k3 =>
         have H := HA.out
         clear HA
         simp only [impl_IsCracker.l1] at H
         by_cases c37 : x52_3 < (l0_2.length : Int)
         ·rw [if_pos c37] at H
          have c37b0 : decide (x52_3 < (l0_2.length : Int)) = true := decide_eq_true c37
          clear c37
          by_cases c38 : 0 ≤ x52_3
          ·rw [if_pos c38] at H
           have c38b0 : decide (0 ≤ x52_3) = true := decide_eq_true c38
           clear c38
           by_cases c39 : x52_3 < (l0_2.length : Int)
           ·rw [if_pos c39] at H
            have c39b0 : decide (x52_3 < (l0_2.length : Int)) = true := decide_eq_true c39
            clear c39
            have HC40 := Aside0.mk H
            clear H
            have p265 : 0 ≤ (x52_3 : Int) := dt
            have q265 : x52_3 < (l0_2.length : Int) := dt
            obtain ⟨ad265, e265, hx265_0, hx265_1⟩ := at_T35 HR0_2.out x52_3 p265 q265
            cases e265
            replace hx265_0 := (HB.out.cell (World.block_lt_of_cell? w _ hx265_0)).trans hx265_0
            replace hx265_1 := (HB.out.cell (World.block_lt_of_cell? w _ hx265_1)).trans hx265_1
            replace p265 := eq_true p265
            replace q265 := eq_true q265
            go_upto_region 12 with (first | ((with_reducible refine gate_dst (N := 6) rfl ?_); (try (refine gate_guard (by rfl) ?_; dsimp only)); refine bx 6 #[.int .i64 0, .int .i64 0] 35 ?_; intro gb266 hg w41 hbox hb; have BK266 := mk hbox; have GW266 := wg hg; have GE266 := wg hg; replace HB := wh hb; have NB259_266 := nl BK259 hg; have NB266_259 := nr BK259 hg; replace BK259 := wb BK259 hb; clear hb hbox hg; have hnb42 := NB266_259.out; have hnc42 := NB259_266.out; obtain ⟨hcz43_0, hcz43_1, hfz43_0, hfz43_1⟩ := bz2 BK266))
            (try simp only [Act.put, List.setIfInBounds_toArray, List.set_cons_zero, List.set_cons_succ])
            go_cut [101] (fun v101 wc => ∃ (kq : Nat) (x101_39 : Bool), v101 = .bool x101_39 ∧ Aside0 (impl_IsCracker.j3 kq l0_2 (l0_2.length : Int) x52_3 x101_39 l0_0 l0_1 l0_2 ((rd_T35 l0_2 x52_3).f0) ((rd_T35 l0_2 x52_3).f1) = some r) ∧ Aside0 (kq ≤ k3) ∧ Aside0 (wc.heap[gb259]? = some (.cells #[(.slice A0_0 l0_0.length c0_0), (.slice A0_1 l0_1.length c0_1), (.slice (some ad265) l0_2.length c0_2)] 31 (0, 0))) ∧ Aside0 (wc.heap[gb266]? = some (.cells #[.int .i64 ((rd_T35 l0_2 x52_3).f0), .int .i64 ((rd_T35 l0_2 x52_3).f1)] 35 (0, 0))) ∧ Aside0 (Below w.heap.size w wc))
            case first =>
             have H := HC40.out
             clear HC40
             revert H; refine bo ?_; rintro t267 A44 H
             by_cases c45 : t267 = true
             ·subst c45
              rw [if_pos rfl] at H
              by_cases c46 : ((rd_T35 l0_2 x52_3).f1) < 0
              ·rw [if_pos c46] at H
               have c46b0 : decide (((rd_T35 l0_2 x52_3).f1) < 0) = true := decide_eq_true c46
               clear c46
               (first | rw [c46b0] | (simp only [i64_w, i32_w]; rw [c46b0]) | skip)
               have H' := Aside0.mk H
               clear H
               try go_wp2
               have n0_ : Aside0 (((w41.setCell ⟨gb266, 0, none⟩ (.int .i64 ((rd_T35 l0_2 x52_3).f0))).setCell ⟨gb266, 1, none⟩ (.int .i64 ((rd_T35 l0_2 x52_3).f1))).heap[gb259]? = some (.cells #[.slice A0_0 l0_0.length c0_0, .slice A0_1 l0_1.length c0_1, .slice (some ad265) l0_2.length c0_2] 31 (0, 0))) := ⟨bq⟩
               have n1_ : Aside0 (((w41.setCell ⟨gb266, 0, none⟩ (.int .i64 ((rd_T35 l0_2 x52_3).f0))).setCell ⟨gb266, 1, none⟩ (.int .i64 ((rd_T35 l0_2 x52_3).f1))).heap[gb266]? = some (.cells #[.int .i64 ((rd_T35 l0_2 x52_3).f0), .int .i64 ((rd_T35 l0_2 x52_3).f1)] 35 (0, 0))) := ⟨bq⟩
               have n2_ : Aside0 (Below w.heap.size w ((w41.setCell ⟨gb266, 0, none⟩ (.int .i64 ((rd_T35 l0_2 x52_3).f0))).setCell ⟨gb266, 1, none⟩ (.int .i64 ((rd_T35 l0_2 x52_3).f1)))) := ⟨bl⟩
               (try clear BK259)
               (try clear BK266)
               (try clear HB)
               generalize ((w41.setCell ⟨gb266, 0, none⟩ (.int .i64 ((rd_T35 l0_2 x52_3).f0))).setCell ⟨gb266, 1, none⟩ (.int .i64 ((rd_T35 l0_2 x52_3).f1))) = w47 at n0_ n1_ n2_ ⊢
               have BK259 := n0_
               have BK266 := n1_
               have HB := n2_
               clear n0_ n1_ n2_
               replace BK259 := wd BK259
               replace BK266 := wd BK266
               replace HB := mk (below_drew1 HB.out)
               refine start_ (n := 45) (S := fun w' => w'.cell? ⟨gb266, 0, none⟩ = some (.int .i64 ((rd_T35 l0_2 x52_3).f0)) ∧ w'.cell? ⟨gb266, 1, none⟩ = some (.int .i64 ((rd_T35 l0_2 x52_3).f1))) (ds := []) #[F_, F_, F_, F_, F_, F_, F_, F_, F_, F_, F_, F_, F_, F_, F_, F_, F_, F_, F_, F_, F_, F_, F_, F_, F_, F_, F_, F_, F_, F_, F_, F_, F_, F_, F_, F_, F_, F_, F_, F_, F_, F_, F_, F_, F_] (by kernel_rfl) rfl rfl ⟨bc BK266 0, bc BK266 1⟩ (fun hHeld => ?_); refine with_tabW impl_IsCracker.tab12 impl_IsCracker.bits12 (fun HT_ HW_ => ?_)
               generalize w47.drew = w48 at BK259 BK266 HB hHeld ⊢
               refine pu 0 57 (tf 1 44) ?_
               refine tk 1 58 (tf 2 43) hHeld ?_
               refine on 2 59 (tf 3 42) (fun K hK => ?_)
               refine gs Try.func37 #[.int .i64 ((rd_T35 l0_2 x52_3).f0)] ?_
               with_reducible refine (impl_bound.calls ((rd_T35 l0_2 x52_3).f0) true _ A44.out).mono ?_
               rintro e w' ⟨rfl, ⟨nd, rfl⟩⟩
               refine ⟨_, rfl, ?_⟩
               refine hK.out _ _ ⟨bc BK266 0, bc BK266 1⟩ (fun hHeld => ?_)
               clear hK K
               refine nm 59 ?_
               refine pu 3 60 (tf 4 41) ?_
               refine pu 4 61 (tf 5 40) ?_
               refine pu 5 62 (tf 6 39) ?_
               refine tk 6 63 (tf 7 38) hHeld ?_
               refine pu 7 64 (tf 8 37) ?_
               refine pu 8 65 (tf 9 36) ?_
               refine pu 9 66 (tf 10 35) ?_
               refine pn 10 67 (tf 11 34) ?_
               refine pn 11 68 (tf 12 33) ?_
               refine pn 12 69 (tf 13 32) ?_
               refine pn 13 70 (tf 14 31) ?_
               refine pn 14 71 (tf 15 30) ?_
               refine pn 15 72 (tf 16 29) ?_
               refine pu 16 73 (tf 17 28) ?_
               refine pu 17 74 (tf 18 27) ?_
               refine pn 18 75 (tf 19 26) ?_
               refine pn 19 76 (tf 20 25) ?_
               refine pn 20 77 (tf 21 24) ?_
               refine pn 21 78 (tf 22 23) ?_
               refine pn 22 79 (tf 23 22) ?_
               refine pn 23 80 (tf 24 21) ?_
               refine pn 24 81 (tf 25 20) ?_
               refine pn 25 82 (tf 26 19) ?_
               refine pn 26 83 (tf 27 18) ?_
               refine pn 27 84 (tf 28 17) ?_
               refine pn 28 85 (tf 29 16) ?_
               refine pn 29 86 (tf 30 15) ?_
               refine pn 30 87 (tf 31 14) ?_
               refine pn 31 88 (tf 32 13) ?_
               refine pn 32 89 (tf 33 12) ?_
               refine pn 33 90 (tf 34 11) ?_
               refine pn 34 91 (tf 35 10) ?_
               refine pn 35 92 (tf 36 9) ?_
               refine pn 36 93 (tf 37 8) ?_
               refine pn 37 94 (tf 38 7) ?_
               refine pn 38 95 (tf 39 6) ?_
               refine pn 39 96 (tf 40 5) ?_
               refine pn 40 97 (tf 41 4) ?_
               refine pn 41 98 (tf 42 3) ?_
               refine pn 42 99 (tf 43 2) ?_
               refine pn 43 100 (tf 44 1) ?_
               refine pu 44 101 (tf 45 0) ?_
               refine done_ (done_of HT_.out (by kernel_rfl)) ?_
               try go_wp2
               go_meet
               case rel => exact ⟨_, (true), (by first | rfl | (simp; done) | (simp [*]; done)), H', ⟨by have := HJ1.out; have := HK2.out; have := HK3.out; first | omega | exact Nat.le_refl _⟩, ⟨ub BK259.out⟩, ⟨ub BK266.out⟩, ⟨bl⟩⟩
              ·rw [if_neg c46] at H
               have c46b0 : decide (((rd_T35 l0_2 x52_3).f1) < 0) = false := decide_eq_false c46
               clear c46
               (first | rw [c46b0] | (simp only [i64_w, i32_w]; rw [c46b0]) | skip)
               by_cases c49 : ((rd_T35 l0_2 x52_3).f1) > (l0_0.length : Int)
               ·rw [if_pos c49] at H
                have c49b0 : decide ((l0_0.length : Int) < ((rd_T35 l0_2 x52_3).f1)) = true := decide_eq_true c49
                clear c49
                have H' := Aside0.mk H
                clear H
                try go_wp2
                have n0_ : Aside0 (((w41.setCell ⟨gb266, 0, none⟩ (.int .i64 ((rd_T35 l0_2 x52_3).f0))).setCell ⟨gb266, 1, none⟩ (.int .i64 ((rd_T35 l0_2 x52_3).f1))).heap[gb259]? = some (.cells #[.slice A0_0 l0_0.length c0_0, .slice A0_1 l0_1.length c0_1, .slice (some ad265) l0_2.length c0_2] 31 (0, 0))) := ⟨bq⟩
                have n1_ : Aside0 (((w41.setCell ⟨gb266, 0, none⟩ (.int .i64 ((rd_T35 l0_2 x52_3).f0))).setCell ⟨gb266, 1, none⟩ (.int .i64 ((rd_T35 l0_2 x52_3).f1))).heap[gb266]? = some (.cells #[.int .i64 ((rd_T35 l0_2 x52_3).f0), .int .i64 ((rd_T35 l0_2 x52_3).f1)] 35 (0, 0))) := ⟨bq⟩
                have n2_ : Aside0 (Below w.heap.size w ((w41.setCell ⟨gb266, 0, none⟩ (.int .i64 ((rd_T35 l0_2 x52_3).f0))).setCell ⟨gb266, 1, none⟩ (.int .i64 ((rd_T35 l0_2 x52_3).f1)))) := ⟨bl⟩
                (try clear BK259)
                (try clear BK266)
                (try clear HB)
                generalize ((w41.setCell ⟨gb266, 0, none⟩ (.int .i64 ((rd_T35 l0_2 x52_3).f0))).setCell ⟨gb266, 1, none⟩ (.int .i64 ((rd_T35 l0_2 x52_3).f1))) = w50 at n0_ n1_ n2_ ⊢
                have BK259 := n0_
                have BK266 := n1_
                have HB := n2_
                clear n0_ n1_ n2_
                replace BK259 := wd BK259
                replace BK266 := wd BK266
                replace HB := mk (below_drew1 HB.out)
                refine start_ (n := 45) (S := fun w' => w'.cell? ⟨gb266, 0, none⟩ = some (.int .i64 ((rd_T35 l0_2 x52_3).f0)) ∧ w'.cell? ⟨gb266, 1, none⟩ = some (.int .i64 ((rd_T35 l0_2 x52_3).f1)) ∧ w'.cell? ⟨gb259, 0, none⟩ = some (.slice A0_0 l0_0.length c0_0) ∧ w'.cell? ⟨gb259, 1, none⟩ = some (.slice A0_1 l0_1.length c0_1) ∧ w'.cell? ⟨gb259, 2, none⟩ = some (.slice (some ad265) l0_2.length c0_2)) (ds := []) #[F_, F_, F_, F_, F_, F_, F_, F_, F_, F_, F_, F_, F_, F_, F_, F_, F_, F_, F_, F_, F_, F_, F_, F_, F_, F_, F_, F_, F_, F_, F_, F_, F_, F_, F_, F_, F_, F_, F_, F_, F_, F_, F_, F_, F_] (by kernel_rfl) rfl rfl ⟨bc BK266 0, bc BK266 1, bc BK259 0, bc BK259 1, bc BK259 2⟩ (fun hHeld => ?_); refine with_tabW impl_IsCracker.tab12 impl_IsCracker.bits12 (fun HT_ HW_ => ?_)
                generalize w50.drew = w51 at BK259 BK266 HB hHeld ⊢
                refine pu 0 57 (tf 1 44) ?_
                refine tk 1 58 (tf 2 43) hHeld ?_
                refine on 2 59 (tf 3 42) (fun K hK => ?_)
                refine gs Try.func37 #[.int .i64 ((rd_T35 l0_2 x52_3).f0)] ?_
                with_reducible refine (impl_bound.calls ((rd_T35 l0_2 x52_3).f0) true _ A44.out).mono ?_
                rintro e w' ⟨rfl, ⟨nd, rfl⟩⟩
                refine ⟨_, rfl, ?_⟩
                refine hK.out _ _ ⟨bc BK266 0, bc BK266 1, bc BK259 0, bc BK259 1, bc BK259 2⟩ (fun hHeld => ?_)
                clear hK K
                refine nm 59 ?_
                refine pu 3 60 (tf 4 41) ?_
                refine pu 4 61 (tf 5 40) ?_
                refine pu 5 62 (tf 6 39) ?_
                refine tk 6 63 (tf 7 38) hHeld ?_
                refine pu 7 64 (tf 8 37) ?_
                refine pu 8 65 (tf 9 36) ?_
                refine pu 9 66 (tf 10 35) ?_
                refine pu 10 67 (tf 11 34) ?_
                refine pu 12 69 #[T_,T_,T_,T_,T_,T_,T_,T_,T_,T_,T_,F_,T_,F_,F_,F_,F_,F_,F_,F_,F_,F_,F_,F_,F_,F_,F_,F_,F_,F_,F_,F_,F_,F_,F_,F_,F_,F_,F_,F_,F_,F_,F_,F_,F_] ?_
                refine tk 11 68 (tf 13 32) hHeld ?_
                refine tk 13 70 (tf 14 31) hHeld ?_
                refine pu 14 71 (tf 15 30) ?_
                refine pu 15 72 (tf 16 29) ?_
                refine pu 16 73 (tf 17 28) ?_
                refine pu 17 74 (tf 18 27) ?_
                refine pn 18 75 (tf 19 26) ?_
                refine pn 19 76 (tf 20 25) ?_
                refine pn 20 77 (tf 21 24) ?_
                refine pn 21 78 (tf 22 23) ?_
                refine pn 22 79 (tf 23 22) ?_
                refine pn 23 80 (tf 24 21) ?_
                refine pn 24 81 (tf 25 20) ?_
                refine pn 25 82 (tf 26 19) ?_
                refine pn 26 83 (tf 27 18) ?_
                refine pn 27 84 (tf 28 17) ?_
                refine pn 28 85 (tf 29 16) ?_
                refine pn 29 86 (tf 30 15) ?_
                refine pn 30 87 (tf 31 14) ?_
                refine pn 31 88 (tf 32 13) ?_
                refine pn 32 89 (tf 33 12) ?_
                refine pn 33 90 (tf 34 11) ?_
                refine pn 34 91 (tf 35 10) ?_
                refine pn 35 92 (tf 36 9) ?_
                refine pn 36 93 (tf 37 8) ?_
                refine pn 37 94 (tf 38 7) ?_
                refine pn 38 95 (tf 39 6) ?_
                refine pn 39 96 (tf 40 5) ?_
                refine pn 40 97 (tf 41 4) ?_
                refine pn 41 98 (tf 42 3) ?_
                refine pn 42 99 (tf 43 2) ?_
                refine pn 43 100 (tf 44 1) ?_
                refine pu 44 101 (tf 45 0) ?_
                refine done_ (done_of HT_.out (by kernel_rfl)) ?_
                try go_wp2
                go_meet
                case rel => exact ⟨_, (true), (by first | rfl | (simp; done) | (simp [*]; done)), H', ⟨by have := HJ1.out; have := HK2.out; have := HK3.out; first | omega | exact Nat.le_refl _⟩, ⟨ub BK259.out⟩, ⟨ub BK266.out⟩, ⟨bl⟩⟩
               ·rw [if_neg c49] at H
                have c49b0 : decide ((l0_0.length : Int) < ((rd_T35 l0_2 x52_3).f1)) = false := decide_eq_false c49
                clear c49
                by_cases c52 : x52_3 > 0
                ·rw [if_pos c52] at H
                 have c52b0 : decide (0 < x52_3) = true := decide_eq_true c52
                 clear c52
                 obtain ⟨ji53, hji53⟩ : ∃ j_ : Int, (wrap64 (x52_3 - 1)) = j_ := ⟨_, rfl⟩
                 replace H : (if 0 ≤ (ji53) then (if (ji53) < (l0_2.length : Int) then (if ((rd_T35 l0_2 x52_3).f0) ≤ ((rd_T35 l0_2 (ji53)).f0) then (impl_IsCracker.j3 k3 l0_2 (l0_2.length : Int) x52_3 true l0_0 l0_1 l0_2 ((rd_T35 l0_2 x52_3).f0) ((rd_T35 l0_2 x52_3).f1)) else (impl_IsCracker.j3 k3 l0_2 (l0_2.length : Int) x52_3 (decide (((rd_T35 l0_2 x52_3).f1) < ((rd_T35 l0_2 (ji53)).f1))) l0_0 l0_1 l0_2 ((rd_T35 l0_2 x52_3).f0) ((rd_T35 l0_2 x52_3).f1))) else (none)) else (none)) = some r := by first | (rw [hji53] at H; exact H) | (simp only [hji53] at H ⊢; exact H)
                 (try rw [hji53] at A44)
                 have hji53w : (IntKind.i64.wrap (x52_3 - 1)) = ji53 := (i64_w _).trans hji53
                 by_cases c54 : 0 ≤ (ji53)
                 ·rw [if_pos c54] at H
                  have c54b0 : decide (0 ≤ (ji53)) = true := decide_eq_true c54
                  clear c54
                  by_cases c55 : (ji53) < (l0_2.length : Int)
                  ·rw [if_pos c55] at H
                   have c55b0 : decide ((ji53) < (l0_2.length : Int)) = true := decide_eq_true c55
                   clear c55
                   by_cases c56 : ((rd_T35 l0_2 x52_3).f0) ≤ ((rd_T35 l0_2 (ji53)).f0)
                   ·rw [if_pos c56] at H
                    have c56b0 : decide (((rd_T35 l0_2 x52_3).f0) ≤ ((rd_T35 l0_2 (ji53)).f0)) = true := decide_eq_true c56
                    clear c56
                    have H' := Aside0.mk H
                    clear H
                    try go_wp2
                    have n0_ : Aside0 (((w41.setCell ⟨gb266, 0, none⟩ (.int .i64 ((rd_T35 l0_2 x52_3).f0))).setCell ⟨gb266, 1, none⟩ (.int .i64 ((rd_T35 l0_2 x52_3).f1))).heap[gb259]? = some (.cells #[.slice A0_0 l0_0.length c0_0, .slice A0_1 l0_1.length c0_1, .slice (some ad265) l0_2.length c0_2] 31 (0, 0))) := ⟨bq⟩
                    have n1_ : Aside0 (((w41.setCell ⟨gb266, 0, none⟩ (.int .i64 ((rd_T35 l0_2 x52_3).f0))).setCell ⟨gb266, 1, none⟩ (.int .i64 ((rd_T35 l0_2 x52_3).f1))).heap[gb266]? = some (.cells #[.int .i64 ((rd_T35 l0_2 x52_3).f0), .int .i64 ((rd_T35 l0_2 x52_3).f1)] 35 (0, 0))) := ⟨bq⟩
                    have n2_ : Aside0 (Below w.heap.size w ((w41.setCell ⟨gb266, 0, none⟩ (.int .i64 ((rd_T35 l0_2 x52_3).f0))).setCell ⟨gb266, 1, none⟩ (.int .i64 ((rd_T35 l0_2 x52_3).f1)))) := ⟨bl⟩
                    (try clear BK259)
                    (try clear BK266)
                    (try clear HB)
                    generalize ((w41.setCell ⟨gb266, 0, none⟩ (.int .i64 ((rd_T35 l0_2 x52_3).f0))).setCell ⟨gb266, 1, none⟩ (.int .i64 ((rd_T35 l0_2 x52_3).f1))) = w57 at n0_ n1_ n2_ ⊢
                    have BK259 := n0_
                    have BK266 := n1_
                    have HB := n2_
                    clear n0_ n1_ n2_
                    replace BK259 := wd BK259
                    replace BK266 := wd BK266
                    replace HB := mk (below_drew1 HB.out)
                    have p268 : 0 ≤ ((ji53) : Int) := dt
                    have q268 : (ji53) < (l0_2.length : Int) := dt
                    obtain ⟨ad268, e268, hx268_0, hx268_1⟩ := at_T35 HR0_2.out (ji53) p268 q268
                    have hw268_1 := hx268_1
                    have hw268_0 := hx268_0
                    obtain rfl : ad265 = ad268 := (by injection e268)
                    replace hx268_0 := (HB.out.cell (World.block_lt_of_cell? w _ hx268_0)).trans hx268_0
                    replace hx268_1 := (HB.out.cell (World.block_lt_of_cell? w _ hx268_1)).trans hx268_1
                    replace p268 := eq_true p268
                    replace q268 := eq_true q268
                    refine start_ (n := 45) (S := fun w' => w'.cell? ⟨gb266, 0, none⟩ = some (.int .i64 ((rd_T35 l0_2 x52_3).f0)) ∧ w'.cell? ⟨gb266, 1, none⟩ = some (.int .i64 ((rd_T35 l0_2 x52_3).f1)) ∧ w'.cell? ⟨gb259, 0, none⟩ = some (.slice A0_0 l0_0.length c0_0) ∧ w'.cell? ⟨gb259, 1, none⟩ = some (.slice A0_1 l0_1.length c0_1) ∧ w'.cell? ⟨gb259, 2, none⟩ = some (.slice (some ad265) l0_2.length c0_2) ∧ w'.cell? (ad265.add (((ji53)).toNat * 2)) = some (.int .i64 ((rd_T35 l0_2 (ji53)).f0)) ∧ w'.cell? ⟨(ad265.add (((ji53)).toNat * 2)).block, (ad265.add (((ji53)).toNat * 2)).off + 1, none⟩ = some (.int .i64 ((rd_T35 l0_2 (ji53)).f1))) (ds := []) #[F_, F_, F_, F_, F_, F_, F_, F_, F_, F_, F_, F_, F_, F_, F_, F_, F_, F_, F_, F_, F_, F_, F_, F_, F_, F_, F_, F_, F_, F_, F_, F_, F_, F_, F_, F_, F_, F_, F_, F_, F_, F_, F_, F_, F_] (by kernel_rfl) rfl rfl ⟨bc BK266 0, bc BK266 1, bc BK259 0, bc BK259 1, bc BK259 2, ((HB.out.cell (World.block_lt_of_cell? w _ hw268_0)).trans hw268_0), ((HB.out.cell (World.block_lt_of_cell? w _ hw268_1)).trans hw268_1)⟩ (fun hHeld => ?_); refine with_tabW impl_IsCracker.tab12 impl_IsCracker.bits12 (fun HT_ HW_ => ?_)
                    generalize w57.drew = w58 at BK259 BK266 HB hx268_0 hx268_1 hHeld ⊢
                    refine pu 0 57 (tf 1 44) ?_
                    refine tk 1 58 (tf 2 43) hHeld ?_
                    refine on 2 59 (tf 3 42) (fun K hK => ?_)
                    refine gs Try.func37 #[.int .i64 ((rd_T35 l0_2 x52_3).f0)] ?_
                    with_reducible refine (impl_bound.calls ((rd_T35 l0_2 x52_3).f0) true _ A44.out).mono ?_
                    rintro e w' ⟨rfl, ⟨nd, rfl⟩⟩
                    refine ⟨_, rfl, ?_⟩
                    refine hK.out _ _ ⟨bc BK266 0, bc BK266 1, bc BK259 0, bc BK259 1, bc BK259 2, ((HB.out.cell (World.block_lt_of_cell? w _ hw268_0)).trans hw268_0), ((HB.out.cell (World.block_lt_of_cell? w _ hw268_1)).trans hw268_1)⟩ (fun hHeld => ?_)
                    clear hK K
                    refine nm 59 ?_
                    refine pu 3 60 (tf 4 41) ?_
                    refine pu 4 61 (tf 5 40) ?_
                    refine pu 5 62 (tf 6 39) ?_
                    refine tk 6 63 (tf 7 38) hHeld ?_
                    refine pu 7 64 (tf 8 37) ?_
                    refine pu 8 65 (tf 9 36) ?_
                    refine pu 9 66 (tf 10 35) ?_
                    refine pu 10 67 (tf 11 34) ?_
                    refine pu 12 69 #[T_,T_,T_,T_,T_,T_,T_,T_,T_,T_,T_,F_,T_,F_,F_,F_,F_,F_,F_,F_,F_,F_,F_,F_,F_,F_,F_,F_,F_,F_,F_,F_,F_,F_,F_,F_,F_,F_,F_,F_,F_,F_,F_,F_,F_] ?_
                    refine tk 11 68 (tf 13 32) hHeld ?_
                    refine tk 13 70 (tf 14 31) hHeld ?_
                    refine pu 14 71 (tf 15 30) ?_
                    refine pu 15 72 (tf 16 29) ?_
                    refine pu 16 73 (tf 17 28) ?_
                    refine pu 17 74 (tf 18 27) ?_
                    refine pu 18 75 (tf 19 26) ?_
                    refine pu 19 76 (tf 20 25) ?_
                    refine pu 20 77 (tf 21 24) ?_
                    refine pu 21 78 (tf 22 23) ?_
                    refine pu 23 80 #[T_,T_,T_,T_,T_,T_,T_,T_,T_,T_,T_,T_,T_,T_,T_,T_,T_,T_,T_,T_,T_,T_,F_,T_,F_,F_,F_,F_,F_,F_,F_,F_,F_,F_,F_,F_,F_,F_,F_,F_,F_,F_,F_,F_,F_] ?_
                    refine pu 25 82 #[T_,T_,T_,T_,T_,T_,T_,T_,T_,T_,T_,T_,T_,T_,T_,T_,T_,T_,T_,T_,T_,T_,F_,T_,F_,T_,F_,F_,F_,F_,F_,F_,F_,F_,F_,F_,F_,F_,F_,F_,F_,F_,F_,F_,F_] ?_
                    refine pu 26 83 #[T_,T_,T_,T_,T_,T_,T_,T_,T_,T_,T_,T_,T_,T_,T_,T_,T_,T_,T_,T_,T_,T_,F_,T_,F_,T_,T_,F_,F_,F_,F_,F_,F_,F_,F_,F_,F_,F_,F_,F_,F_,F_,F_,F_,F_] ?_
                    refine tk 22 79 #[T_,T_,T_,T_,T_,T_,T_,T_,T_,T_,T_,T_,T_,T_,T_,T_,T_,T_,T_,T_,T_,T_,T_,T_,F_,T_,T_,F_,F_,F_,F_,F_,F_,F_,F_,F_,F_,F_,F_,F_,F_,F_,F_,F_,F_] hHeld ?_
                    refine tk 24 81 (tf 27 18) hHeld ?_
                    refine pu 27 84 (tf 28 17) ?_
                    refine pu 28 85 (tf 29 16) ?_
                    refine tk 29 86 (tf 30 15) hHeld ?_
                    refine pu 30 87 (tf 31 14) ?_
                    refine pu 31 88 (tf 32 13) ?_
                    refine pn 32 89 (tf 33 12) ?_
                    refine pn 33 90 (tf 34 11) ?_
                    refine pn 34 91 (tf 35 10) ?_
                    refine pn 35 92 (tf 36 9) ?_
                    refine pn 36 93 (tf 37 8) ?_
                    refine pn 37 94 (tf 38 7) ?_
                    refine pn 38 95 (tf 39 6) ?_
                    refine pn 39 96 (tf 40 5) ?_
                    refine pn 40 97 (tf 41 4) ?_
                    refine pn 41 98 (tf 42 3) ?_
                    refine pu 42 99 (tf 43 2) ?_
                    refine pu 43 100 (tf 44 1) ?_
                    refine pu 44 101 (tf 45 0) ?_
                    refine done_ (done_of HT_.out (by kernel_rfl)) ?_
                    try go_wp2
                    go_meet
                    case rel => exact ⟨_, (true), (by first | rfl | (simp; done) | (simp [*]; done)), H', ⟨by have := HJ1.out; have := HK2.out; have := HK3.out; first | omega | exact Nat.le_refl _⟩, ⟨ub BK259.out⟩, ⟨ub BK266.out⟩, ⟨bl⟩⟩
                   ·rw [if_neg c56] at H
                    have c56b0 : decide (((rd_T35 l0_2 x52_3).f0) ≤ ((rd_T35 l0_2 (ji53)).f0)) = false := decide_eq_false c56
                    clear c56
                    have H' := Aside0.mk H
                    clear H
                    try go_wp2
                    have n0_ : Aside0 (((w41.setCell ⟨gb266, 0, none⟩ (.int .i64 ((rd_T35 l0_2 x52_3).f0))).setCell ⟨gb266, 1, none⟩ (.int .i64 ((rd_T35 l0_2 x52_3).f1))).heap[gb259]? = some (.cells #[.slice A0_0 l0_0.length c0_0, .slice A0_1 l0_1.length c0_1, .slice (some ad265) l0_2.length c0_2] 31 (0, 0))) := ⟨bq⟩
                    have n1_ : Aside0 (((w41.setCell ⟨gb266, 0, none⟩ (.int .i64 ((rd_T35 l0_2 x52_3).f0))).setCell ⟨gb266, 1, none⟩ (.int .i64 ((rd_T35 l0_2 x52_3).f1))).heap[gb266]? = some (.cells #[.int .i64 ((rd_T35 l0_2 x52_3).f0), .int .i64 ((rd_T35 l0_2 x52_3).f1)] 35 (0, 0))) := ⟨bq⟩
                    have n2_ : Aside0 (Below w.heap.size w ((w41.setCell ⟨gb266, 0, none⟩ (.int .i64 ((rd_T35 l0_2 x52_3).f0))).setCell ⟨gb266, 1, none⟩ (.int .i64 ((rd_T35 l0_2 x52_3).f1)))) := ⟨bl⟩
                    (try clear BK259)
                    (try clear BK266)
                    (try clear HB)
                    generalize ((w41.setCell ⟨gb266, 0, none⟩ (.int .i64 ((rd_T35 l0_2 x52_3).f0))).setCell ⟨gb266, 1, none⟩ (.int .i64 ((rd_T35 l0_2 x52_3).f1))) = w59 at n0_ n1_ n2_ ⊢
                    have BK259 := n0_
                    have BK266 := n1_
                    have HB := n2_
                    clear n0_ n1_ n2_
                    replace BK259 := wd BK259
                    replace BK266 := wd BK266
                    replace HB := mk (below_drew1 HB.out)
                    have p268 : 0 ≤ ((ji53) : Int) := dt
                    have q268 : (ji53) < (l0_2.length : Int) := dt
                    obtain ⟨ad268, e268, hx268_0, hx268_1⟩ := at_T35 HR0_2.out (ji53) p268 q268
                    have hw268_1 := hx268_1
                    have hw268_0 := hx268_0
                    obtain rfl : ad265 = ad268 := (by injection e268)
                    replace hx268_0 := (HB.out.cell (World.block_lt_of_cell? w _ hx268_0)).trans hx268_0
                    replace hx268_1 := (HB.out.cell (World.block_lt_of_cell? w _ hx268_1)).trans hx268_1
                    replace p268 := eq_true p268
                    replace q268 := eq_true q268
                    have p269 : 0 ≤ ((ji53) : Int) := dt
                    have q269 : (ji53) < (l0_2.length : Int) := dt
                    obtain ⟨ad269, e269, hx269_0, hx269_1⟩ := at_T35 HR0_2.out (ji53) p269 q269
                    have hw269_1 := hx269_1
                    have hw269_0 := hx269_0
                    obtain rfl : ad265 = ad269 := (by injection e269)
                    replace hx269_0 := (HB.out.cell (World.block_lt_of_cell? w _ hx269_0)).trans hx269_0
                    replace hx269_1 := (HB.out.cell (World.block_lt_of_cell? w _ hx269_1)).trans hx269_1
                    replace p269 := eq_true p269
                    replace q269 := eq_true q269
                    refine start_ (n := 45) (S := fun w' => w'.cell? ⟨gb266, 0, none⟩ = some (.int .i64 ((rd_T35 l0_2 x52_3).f0)) ∧ w'.cell? ⟨gb266, 1, none⟩ = some (.int .i64 ((rd_T35 l0_2 x52_3).f1)) ∧ w'.cell? ⟨gb259, 0, none⟩ = some (.slice A0_0 l0_0.length c0_0) ∧ w'.cell? ⟨gb259, 1, none⟩ = some (.slice A0_1 l0_1.length c0_1) ∧ w'.cell? ⟨gb259, 2, none⟩ = some (.slice (some ad265) l0_2.length c0_2) ∧ w'.cell? (ad265.add (((ji53)).toNat * 2)) = some (.int .i64 ((rd_T35 l0_2 (ji53)).f0)) ∧ w'.cell? ⟨(ad265.add (((ji53)).toNat * 2)).block, (ad265.add (((ji53)).toNat * 2)).off + 1, none⟩ = some (.int .i64 ((rd_T35 l0_2 (ji53)).f1)) ∧ w'.cell? (ad265.add (((ji53)).toNat * 2)) = some (.int .i64 ((rd_T35 l0_2 (ji53)).f0)) ∧ w'.cell? ⟨(ad265.add (((ji53)).toNat * 2)).block, (ad265.add (((ji53)).toNat * 2)).off + 1, none⟩ = some (.int .i64 ((rd_T35 l0_2 (ji53)).f1))) (ds := []) #[F_, F_, F_, F_, F_, F_, F_, F_, F_, F_, F_, F_, F_, F_, F_, F_, F_, F_, F_, F_, F_, F_, F_, F_, F_, F_, F_, F_, F_, F_, F_, F_, F_, F_, F_, F_, F_, F_, F_, F_, F_, F_, F_, F_, F_] (by kernel_rfl) rfl rfl ⟨bc BK266 0, bc BK266 1, bc BK259 0, bc BK259 1, bc BK259 2, ((HB.out.cell (World.block_lt_of_cell? w _ hw268_0)).trans hw268_0), ((HB.out.cell (World.block_lt_of_cell? w _ hw268_1)).trans hw268_1), ((HB.out.cell (World.block_lt_of_cell? w _ hw269_0)).trans hw269_0), ((HB.out.cell (World.block_lt_of_cell? w _ hw269_1)).trans hw269_1)⟩ (fun hHeld => ?_); refine with_tabW impl_IsCracker.tab12 impl_IsCracker.bits12 (fun HT_ HW_ => ?_)
                    generalize w59.drew = w60 at BK259 BK266 HB hx268_0 hx268_1 hx269_0 hx269_1 hHeld ⊢
                    refine pu 0 57 (tf 1 44) ?_
                    refine tk 1 58 (tf 2 43) hHeld ?_
                    refine on 2 59 (tf 3 42) (fun K hK => ?_)
                    refine gs Try.func37 #[.int .i64 ((rd_T35 l0_2 x52_3).f0)] ?_
                    with_reducible refine (impl_bound.calls ((rd_T35 l0_2 x52_3).f0) true _ A44.out).mono ?_
                    rintro e w' ⟨rfl, ⟨nd, rfl⟩⟩
                    refine ⟨_, rfl, ?_⟩
                    refine hK.out _ _ ⟨bc BK266 0, bc BK266 1, bc BK259 0, bc BK259 1, bc BK259 2, ((HB.out.cell (World.block_lt_of_cell? w _ hw268_0)).trans hw268_0), ((HB.out.cell (World.block_lt_of_cell? w _ hw268_1)).trans hw268_1), ((HB.out.cell (World.block_lt_of_cell? w _ hw269_0)).trans hw269_0), ((HB.out.cell (World.block_lt_of_cell? w _ hw269_1)).trans hw269_1)⟩ (fun hHeld => ?_)
                    clear hK K
                    refine nm 59 ?_
                    refine pu 3 60 (tf 4 41) ?_
                    refine pu 4 61 (tf 5 40) ?_
                    refine pu 5 62 (tf 6 39) ?_
                    refine tk 6 63 (tf 7 38) hHeld ?_
                    refine pu 7 64 (tf 8 37) ?_
                    refine pu 8 65 (tf 9 36) ?_
                    refine pu 9 66 (tf 10 35) ?_
                    refine pu 10 67 (tf 11 34) ?_
                    refine pu 12 69 #[T_,T_,T_,T_,T_,T_,T_,T_,T_,T_,T_,F_,T_,F_,F_,F_,F_,F_,F_,F_,F_,F_,F_,F_,F_,F_,F_,F_,F_,F_,F_,F_,F_,F_,F_,F_,F_,F_,F_,F_,F_,F_,F_,F_,F_] ?_
                    refine tk 11 68 (tf 13 32) hHeld ?_
                    refine tk 13 70 (tf 14 31) hHeld ?_
                    refine pu 14 71 (tf 15 30) ?_
                    refine pu 15 72 (tf 16 29) ?_
                    refine pu 16 73 (tf 17 28) ?_
                    refine pu 17 74 (tf 18 27) ?_
                    refine pu 18 75 (tf 19 26) ?_
                    refine pu 19 76 (tf 20 25) ?_
                    refine pu 20 77 (tf 21 24) ?_
                    refine pu 21 78 (tf 22 23) ?_
                    refine pu 23 80 #[T_,T_,T_,T_,T_,T_,T_,T_,T_,T_,T_,T_,T_,T_,T_,T_,T_,T_,T_,T_,T_,T_,F_,T_,F_,F_,F_,F_,F_,F_,F_,F_,F_,F_,F_,F_,F_,F_,F_,F_,F_,F_,F_,F_,F_] ?_
                    refine pu 25 82 #[T_,T_,T_,T_,T_,T_,T_,T_,T_,T_,T_,T_,T_,T_,T_,T_,T_,T_,T_,T_,T_,T_,F_,T_,F_,T_,F_,F_,F_,F_,F_,F_,F_,F_,F_,F_,F_,F_,F_,F_,F_,F_,F_,F_,F_] ?_
                    refine pu 26 83 #[T_,T_,T_,T_,T_,T_,T_,T_,T_,T_,T_,T_,T_,T_,T_,T_,T_,T_,T_,T_,T_,T_,F_,T_,F_,T_,T_,F_,F_,F_,F_,F_,F_,F_,F_,F_,F_,F_,F_,F_,F_,F_,F_,F_,F_] ?_
                    refine tk 22 79 #[T_,T_,T_,T_,T_,T_,T_,T_,T_,T_,T_,T_,T_,T_,T_,T_,T_,T_,T_,T_,T_,T_,T_,T_,F_,T_,T_,F_,F_,F_,F_,F_,F_,F_,F_,F_,F_,F_,F_,F_,F_,F_,F_,F_,F_] hHeld ?_
                    refine tk 24 81 (tf 27 18) hHeld ?_
                    refine pu 27 84 (tf 28 17) ?_
                    refine pu 28 85 (tf 29 16) ?_
                    refine tk 29 86 (tf 30 15) hHeld ?_
                    refine pu 30 87 (tf 31 14) ?_
                    refine pu 31 88 (tf 32 13) ?_
                    refine pu 32 89 (tf 33 12) ?_
                    refine pu 34 91 #[T_,T_,T_,T_,T_,T_,T_,T_,T_,T_,T_,T_,T_,T_,T_,T_,T_,T_,T_,T_,T_,T_,T_,T_,T_,T_,T_,T_,T_,T_,T_,T_,T_,F_,T_,F_,F_,F_,F_,F_,F_,F_,F_,F_,F_] ?_
                    refine pu 36 93 #[T_,T_,T_,T_,T_,T_,T_,T_,T_,T_,T_,T_,T_,T_,T_,T_,T_,T_,T_,T_,T_,T_,T_,T_,T_,T_,T_,T_,T_,T_,T_,T_,T_,F_,T_,F_,T_,F_,F_,F_,F_,F_,F_,F_,F_] ?_
                    refine pu 37 94 #[T_,T_,T_,T_,T_,T_,T_,T_,T_,T_,T_,T_,T_,T_,T_,T_,T_,T_,T_,T_,T_,T_,T_,T_,T_,T_,T_,T_,T_,T_,T_,T_,T_,F_,T_,F_,T_,T_,F_,F_,F_,F_,F_,F_,F_] ?_
                    refine tk 33 90 #[T_,T_,T_,T_,T_,T_,T_,T_,T_,T_,T_,T_,T_,T_,T_,T_,T_,T_,T_,T_,T_,T_,T_,T_,T_,T_,T_,T_,T_,T_,T_,T_,T_,T_,T_,F_,T_,T_,F_,F_,F_,F_,F_,F_,F_] hHeld ?_
                    refine tk 35 92 (tf 38 7) hHeld ?_
                    refine pu 38 95 (tf 39 6) ?_
                    refine pu 39 96 (tf 40 5) ?_
                    refine tk 40 97 (tf 41 4) hHeld ?_
                    refine pu 41 98 (tf 42 3) ?_
                    refine pu 42 99 (tf 43 2) ?_
                    refine pu 43 100 (tf 44 1) ?_
                    refine pu 44 101 (tf 45 0) ?_
                    refine done_ (done_of HT_.out (by kernel_rfl)) ?_
                    try go_wp2
                    go_meet
                    case rel => exact ⟨_, (decide (((rd_T35 l0_2 x52_3).f1) < ((rd_T35 l0_2 (ji53)).f1))), (by first | rfl | (simp; done) | (simp only [← hji53] <;> (first | rfl | simp)) | (simp [*]; done)), H', ⟨by have := HJ1.out; have := HK2.out; have := HK3.out; first | omega | exact Nat.le_refl _⟩, ⟨ub BK259.out⟩, ⟨ub BK266.out⟩, ⟨bl⟩⟩
                  ·rw [if_neg c55] at H
                   exact absurd H (by simp)
                 ·rw [if_neg c54] at H
                  exact absurd H (by simp)
                ·rw [if_neg c52] at H
                 have c52b0 : decide (0 < x52_3) = false := decide_eq_false c52
                 clear c52
                 have H' := Aside0.mk H
                 clear H
                 try go_wp2
                 have n0_ : Aside0 (((w41.setCell ⟨gb266, 0, none⟩ (.int .i64 ((rd_T35 l0_2 x52_3).f0))).setCell ⟨gb266, 1, none⟩ (.int .i64 ((rd_T35 l0_2 x52_3).f1))).heap[gb259]? = some (.cells #[.slice A0_0 l0_0.length c0_0, .slice A0_1 l0_1.length c0_1, .slice (some ad265) l0_2.length c0_2] 31 (0, 0))) := ⟨bq⟩
                 have n1_ : Aside0 (((w41.setCell ⟨gb266, 0, none⟩ (.int .i64 ((rd_T35 l0_2 x52_3).f0))).setCell ⟨gb266, 1, none⟩ (.int .i64 ((rd_T35 l0_2 x52_3).f1))).heap[gb266]? = some (.cells #[.int .i64 ((rd_T35 l0_2 x52_3).f0), .int .i64 ((rd_T35 l0_2 x52_3).f1)] 35 (0, 0))) := ⟨bq⟩
                 have n2_ : Aside0 (Below w.heap.size w ((w41.setCell ⟨gb266, 0, none⟩ (.int .i64 ((rd_T35 l0_2 x52_3).f0))).setCell ⟨gb266, 1, none⟩ (.int .i64 ((rd_T35 l0_2 x52_3).f1)))) := ⟨bl⟩
                 (try clear BK259)
                 (try clear BK266)
                 (try clear HB)
                 generalize ((w41.setCell ⟨gb266, 0, none⟩ (.int .i64 ((rd_T35 l0_2 x52_3).f0))).setCell ⟨gb266, 1, none⟩ (.int .i64 ((rd_T35 l0_2 x52_3).f1))) = w61 at n0_ n1_ n2_ ⊢
                 have BK259 := n0_
                 have BK266 := n1_
                 have HB := n2_
                 clear n0_ n1_ n2_
                 replace BK259 := wd BK259
                 replace BK266 := wd BK266
                 replace HB := mk (below_drew1 HB.out)
                 refine start_ (n := 45) (S := fun w' => w'.cell? ⟨gb266, 0, none⟩ = some (.int .i64 ((rd_T35 l0_2 x52_3).f0)) ∧ w'.cell? ⟨gb266, 1, none⟩ = some (.int .i64 ((rd_T35 l0_2 x52_3).f1)) ∧ w'.cell? ⟨gb259, 0, none⟩ = some (.slice A0_0 l0_0.length c0_0) ∧ w'.cell? ⟨gb259, 1, none⟩ = some (.slice A0_1 l0_1.length c0_1) ∧ w'.cell? ⟨gb259, 2, none⟩ = some (.slice (some ad265) l0_2.length c0_2)) (ds := []) #[F_, F_, F_, F_, F_, F_, F_, F_, F_, F_, F_, F_, F_, F_, F_, F_, F_, F_, F_, F_, F_, F_, F_, F_, F_, F_, F_, F_, F_, F_, F_, F_, F_, F_, F_, F_, F_, F_, F_, F_, F_, F_, F_, F_, F_] (by kernel_rfl) rfl rfl ⟨bc BK266 0, bc BK266 1, bc BK259 0, bc BK259 1, bc BK259 2⟩ (fun hHeld => ?_); refine with_tabW impl_IsCracker.tab12 impl_IsCracker.bits12 (fun HT_ HW_ => ?_)
                 generalize w61.drew = w62 at BK259 BK266 HB hHeld ⊢
                 refine pu 0 57 (tf 1 44) ?_
                 refine tk 1 58 (tf 2 43) hHeld ?_
                 refine on 2 59 (tf 3 42) (fun K hK => ?_)
                 refine gs Try.func37 #[.int .i64 ((rd_T35 l0_2 x52_3).f0)] ?_
                 with_reducible refine (impl_bound.calls ((rd_T35 l0_2 x52_3).f0) true _ A44.out).mono ?_
                 rintro e w' ⟨rfl, ⟨nd, rfl⟩⟩
                 refine ⟨_, rfl, ?_⟩
                 refine hK.out _ _ ⟨bc BK266 0, bc BK266 1, bc BK259 0, bc BK259 1, bc BK259 2⟩ (fun hHeld => ?_)
                 clear hK K
                 refine nm 59 ?_
                 refine pu 3 60 (tf 4 41) ?_
                 refine pu 4 61 (tf 5 40) ?_
                 refine pu 5 62 (tf 6 39) ?_
                 refine tk 6 63 (tf 7 38) hHeld ?_
                 refine pu 7 64 (tf 8 37) ?_
                 refine pu 8 65 (tf 9 36) ?_
                 refine pu 9 66 (tf 10 35) ?_
                 refine pu 10 67 (tf 11 34) ?_
                 refine pu 12 69 #[T_,T_,T_,T_,T_,T_,T_,T_,T_,T_,T_,F_,T_,F_,F_,F_,F_,F_,F_,F_,F_,F_,F_,F_,F_,F_,F_,F_,F_,F_,F_,F_,F_,F_,F_,F_,F_,F_,F_,F_,F_,F_,F_,F_,F_] ?_
                 refine tk 11 68 (tf 13 32) hHeld ?_
                 refine tk 13 70 (tf 14 31) hHeld ?_
                 refine pu 14 71 (tf 15 30) ?_
                 refine pu 15 72 (tf 16 29) ?_
                 refine pu 16 73 (tf 17 28) ?_
                 refine pu 17 74 (tf 18 27) ?_
                 refine pu 18 75 (tf 19 26) ?_
                 refine pu 19 76 (tf 20 25) ?_
                 refine pu 20 77 (tf 21 24) ?_
                 refine pn 21 78 (tf 22 23) ?_
                 refine pn 22 79 (tf 23 22) ?_
                 refine pn 23 80 (tf 24 21) ?_
                 refine pn 24 81 (tf 25 20) ?_
                 refine pn 25 82 (tf 26 19) ?_
                 refine pn 26 83 (tf 27 18) ?_
                 refine pn 27 84 (tf 28 17) ?_
                 refine pn 28 85 (tf 29 16) ?_
                 refine pn 29 86 (tf 30 15) ?_
                 refine pn 30 87 (tf 31 14) ?_
                 refine pn 31 88 (tf 32 13) ?_
                 refine pn 32 89 (tf 33 12) ?_
                 refine pn 33 90 (tf 34 11) ?_
                 refine pn 34 91 (tf 35 10) ?_
                 refine pn 35 92 (tf 36 9) ?_
                 refine pn 36 93 (tf 37 8) ?_
                 refine pn 37 94 (tf 38 7) ?_
                 refine pn 38 95 (tf 39 6) ?_
                 refine pn 39 96 (tf 40 5) ?_
                 refine pn 40 97 (tf 41 4) ?_
                 refine pn 41 98 (tf 42 3) ?_
                 refine pn 42 99 (tf 43 2) ?_
                 refine pu 43 100 (tf 44 1) ?_
                 refine pu 44 101 (tf 45 0) ?_
                 refine done_ (done_of HT_.out (by kernel_rfl)) ?_
                 try go_wp2
                 go_meet
                 case rel => exact ⟨_, (false), (by first | rfl | (simp; done) | (simp [*]; done)), H', ⟨by have := HJ1.out; have := HK2.out; have := HK3.out; first | omega | exact Nat.le_refl _⟩, ⟨ub BK259.out⟩, ⟨ub BK266.out⟩, ⟨bl⟩⟩
             ·replace c45 := Bool.eq_false_iff.mpr c45
              subst c45
              rw [if_neg nf] at H
              have H' := Aside0.mk H
              clear H
              try go_wp2
              have n0_ : Aside0 (((w41.setCell ⟨gb266, 0, none⟩ (.int .i64 ((rd_T35 l0_2 x52_3).f0))).setCell ⟨gb266, 1, none⟩ (.int .i64 ((rd_T35 l0_2 x52_3).f1))).heap[gb259]? = some (.cells #[.slice A0_0 l0_0.length c0_0, .slice A0_1 l0_1.length c0_1, .slice (some ad265) l0_2.length c0_2] 31 (0, 0))) := ⟨bq⟩
              have n1_ : Aside0 (((w41.setCell ⟨gb266, 0, none⟩ (.int .i64 ((rd_T35 l0_2 x52_3).f0))).setCell ⟨gb266, 1, none⟩ (.int .i64 ((rd_T35 l0_2 x52_3).f1))).heap[gb266]? = some (.cells #[.int .i64 ((rd_T35 l0_2 x52_3).f0), .int .i64 ((rd_T35 l0_2 x52_3).f1)] 35 (0, 0))) := ⟨bq⟩
              have n2_ : Aside0 (Below w.heap.size w ((w41.setCell ⟨gb266, 0, none⟩ (.int .i64 ((rd_T35 l0_2 x52_3).f0))).setCell ⟨gb266, 1, none⟩ (.int .i64 ((rd_T35 l0_2 x52_3).f1)))) := ⟨bl⟩
              (try clear BK259)
              (try clear BK266)
              (try clear HB)
              generalize ((w41.setCell ⟨gb266, 0, none⟩ (.int .i64 ((rd_T35 l0_2 x52_3).f0))).setCell ⟨gb266, 1, none⟩ (.int .i64 ((rd_T35 l0_2 x52_3).f1))) = w63 at n0_ n1_ n2_ ⊢
              have BK259 := n0_
              have BK266 := n1_
              have HB := n2_
              clear n0_ n1_ n2_
              replace BK259 := wd BK259
              replace BK266 := wd BK266
              replace HB := mk (below_drew1 HB.out)
              refine start_ (n := 45) (S := fun w' => w'.cell? ⟨gb266, 0, none⟩ = some (.int .i64 ((rd_T35 l0_2 x52_3).f0)) ∧ w'.cell? ⟨gb266, 1, none⟩ = some (.int .i64 ((rd_T35 l0_2 x52_3).f1))) (ds := []) #[F_, F_, F_, F_, F_, F_, F_, F_, F_, F_, F_, F_, F_, F_, F_, F_, F_, F_, F_, F_, F_, F_, F_, F_, F_, F_, F_, F_, F_, F_, F_, F_, F_, F_, F_, F_, F_, F_, F_, F_, F_, F_, F_, F_, F_] (by kernel_rfl) rfl rfl ⟨bc BK266 0, bc BK266 1⟩ (fun hHeld => ?_); refine with_tabW impl_IsCracker.tab12 impl_IsCracker.bits12 (fun HT_ HW_ => ?_)
              generalize w63.drew = w64 at BK259 BK266 HB hHeld ⊢
              refine pu 0 57 (tf 1 44) ?_
              refine tk 1 58 (tf 2 43) hHeld ?_
              refine on 2 59 (tf 3 42) (fun K hK => ?_)
              refine gs Try.func37 #[.int .i64 ((rd_T35 l0_2 x52_3).f0)] ?_
              with_reducible refine (impl_bound.calls ((rd_T35 l0_2 x52_3).f0) false _ A44.out).mono ?_
              rintro e w' ⟨rfl, ⟨nd, rfl⟩⟩
              refine ⟨_, rfl, ?_⟩
              refine hK.out _ _ ⟨bc BK266 0, bc BK266 1⟩ (fun hHeld => ?_)
              clear hK K
              refine nm 59 ?_
              refine pu 3 60 (tf 4 41) ?_
              refine pu 4 61 (tf 5 40) ?_
              refine pn 5 62 (tf 6 39) ?_
              refine pn 6 63 (tf 7 38) ?_
              refine pn 7 64 (tf 8 37) ?_
              refine pu 8 65 (tf 9 36) ?_
              refine pu 9 66 (tf 10 35) ?_
              refine pn 10 67 (tf 11 34) ?_
              refine pn 11 68 (tf 12 33) ?_
              refine pn 12 69 (tf 13 32) ?_
              refine pn 13 70 (tf 14 31) ?_
              refine pn 14 71 (tf 15 30) ?_
              refine pn 15 72 (tf 16 29) ?_
              refine pu 16 73 (tf 17 28) ?_
              refine pu 17 74 (tf 18 27) ?_
              refine pn 18 75 (tf 19 26) ?_
              refine pn 19 76 (tf 20 25) ?_
              refine pn 20 77 (tf 21 24) ?_
              refine pn 21 78 (tf 22 23) ?_
              refine pn 22 79 (tf 23 22) ?_
              refine pn 23 80 (tf 24 21) ?_
              refine pn 24 81 (tf 25 20) ?_
              refine pn 25 82 (tf 26 19) ?_
              refine pn 26 83 (tf 27 18) ?_
              refine pn 27 84 (tf 28 17) ?_
              refine pn 28 85 (tf 29 16) ?_
              refine pn 29 86 (tf 30 15) ?_
              refine pn 30 87 (tf 31 14) ?_
              refine pn 31 88 (tf 32 13) ?_
              refine pn 32 89 (tf 33 12) ?_
              refine pn 33 90 (tf 34 11) ?_
              refine pn 34 91 (tf 35 10) ?_
              refine pn 35 92 (tf 36 9) ?_
              refine pn 36 93 (tf 37 8) ?_
              refine pn 37 94 (tf 38 7) ?_
              refine pn 38 95 (tf 39 6) ?_
              refine pn 39 96 (tf 40 5) ?_
              refine pn 40 97 (tf 41 4) ?_
              refine pn 41 98 (tf 42 3) ?_
              refine pn 42 99 (tf 43 2) ?_
              refine pn 43 100 (tf 44 1) ?_
              refine pu 44 101 (tf 45 0) ?_
              refine done_ (done_of HT_.out (by kernel_rfl)) ?_
              try go_wp2
              go_meet
              case rel => exact ⟨_, (true), (by first | rfl | (simp; done) | (simp [*]; done)), H', ⟨by have := HJ1.out; have := HK2.out; have := HK3.out; first | omega | exact Nat.le_refl _⟩, ⟨ub BK259.out⟩, ⟨ub BK266.out⟩, ⟨bl⟩⟩
            case rest =>
             clear HC40
             try clear p2
             try clear c3
             try clear c4
             try clear c5
             try clear c37
             try clear c45
             try clear c52
             try clear c52b0
             try clear c54
             try clear c55
             obtain ⟨kq, x101_39, rfl, HA, HJ39, BK259, BK266, HB⟩ := hcut
             cases kq with
             | zero => exact absurd HA.out (by simp [impl_IsCracker.j3])
             | succ kj39 =>
              have H := HA.out
              clear HA
              simp only [impl_IsCracker.j3] at H
              by_cases c65 : x101_39 = true
              ·subst c65
               rw [if_pos rfl] at H
               obtain rfl := Option.some.inj H
               go_wp2
               go_ret
               exact ⟨by first | rfl | (simp [errW_none, errW_some] <;> rfl) | (simp [*, errW_none, errW_some] <;> rfl), bl⟩
              ·replace c65 := Bool.eq_false_iff.mpr c65
               subst c65
               rw [if_neg nf] at H
               have H' := Aside0.mk H
               clear H
               have hnb66 := NB259_266.out
               have hnc66 := NB266_259.out
               obtain ⟨hcz67_0, hcz67_1, hcz67_2, hfz67_0, hfz67_1, hfz67_2⟩ := bz3 BK259
               go_wp2
               go_loopg [105] kj39 (fun kq v105 w' => ∃ (x105_5 : Int), v105 = .int .i64 x105_5 ∧ Aside0 (impl_IsCracker.l2 kq l0_2 (l0_2.length : Int) x52_3 l0_0 (l0_0.length : Int) x105_5 l0_0 l0_1 l0_2 ((rd_T35 l0_2 x52_3).f0) ((rd_T35 l0_2 x52_3).f1) = some r) ∧ Aside0 (kq ≤ kj39) ∧ Aside0 (w'.heap[gb259]? = some (.cells #[(.slice A0_0 l0_0.length c0_0), (.slice A0_1 l0_1.length c0_1), (.slice (some ad265) l0_2.length c0_2)] 31 (0, 0))) ∧ Aside0 (w'.heap[gb266]? = some (.cells #[.int .i64 ((rd_T35 l0_2 x52_3).f0), .int .i64 ((rd_T35 l0_2 x52_3).f1)] 35 (0, 0))) ∧ Aside0 (Below w.heap.size w w'))
               case atStart => exact ⟨(0), (by first | rfl | (simp; done) | (simp [*]; done)), H', ⟨Nat.le_refl _⟩, ⟨ub BK259.out⟩, ⟨ub BK266.out⟩, ⟨bl⟩⟩
               case round =>
                clear H'
                try clear p2
                try clear c3
                try clear c4
                try clear c5
                try clear c6
                try clear c37
                try clear c45
                try clear c52
                try clear c52b0
                try clear c54
                try clear c55
                try clear c65
                try clear c66
                try clear hcz67_0
                try clear hcz67_1
                try clear hcz67_2
                try clear hfz67_0
                try clear hfz67_1
                try clear hfz67_2
                try clear p2
                obtain ⟨x105_5, rfl, HA, HK5, BK259, BK266, HB⟩ := hrel
                cases gk with
                | zero => exact absurd HA.out (by simp [impl_IsCracker.l2])
                | succ k5 =>
                 have H := HA.out
                 clear HA
                 simp only [impl_IsCracker.l2] at H
                 by_cases c68 : x105_5 < (l0_0.length : Int)
                 ·rw [if_pos c68] at H
                  have c68b0 : decide (x105_5 < (l0_0.length : Int)) = true := decide_eq_true c68
                  clear c68
                  by_cases c69 : 0 ≤ x105_5
                  ·rw [if_pos c69] at H
                   have c69b0 : decide (0 ≤ x105_5) = true := decide_eq_true c69
                   clear c69
                   by_cases c70 : x105_5 < (l0_0.length : Int)
                   ·rw [if_pos c70] at H
                    have c70b0 : decide (x105_5 < (l0_0.length : Int)) = true := decide_eq_true c70
                    clear c70
                    by_cases c71 : ((decide ((rd l0_0 x105_5) < ((rd_T35 l0_2 x52_3).f0))) != (decide (x105_5 < ((rd_T35 l0_2 x52_3).f1)))) = true
                    ·rw [if_pos c71] at H
                     have c71b0 : ((decide ((rd l0_0 x105_5) < ((rd_T35 l0_2 x52_3).f0))) != (decide (x105_5 < ((rd_T35 l0_2 x52_3).f1)))) = true := c71
                     (try (have c71b1 : decide ((decide ((rd l0_0 x105_5) < ((rd_T35 l0_2 x52_3).f0))) = (decide (x105_5 < ((rd_T35 l0_2 x52_3).f1)))) = false := by simpa using c71))
                     (try (have c71b2 : ((decide ((rd l0_0 x105_5) < ((rd_T35 l0_2 x52_3).f0))) == (decide (x105_5 < ((rd_T35 l0_2 x52_3).f1)))) = false := by simpa using c71))
                     (try (have c71b3 : ¬ ((decide ((rd l0_0 x105_5) < ((rd_T35 l0_2 x52_3).f0))) = (decide (x105_5 < ((rd_T35 l0_2 x52_3).f1)))) := by simpa using c71))
                     clear c71
                     obtain rfl := Option.some.inj H
                     have p270 : 0 ≤ (x105_5 : Int) := dt
                     have q270 : x105_5 < (l0_0.length : Int) := dt
                     obtain ⟨ad270, e270, hx270_0⟩ := Kd.at_int HR0_0.out x105_5 p270 q270
                     cases e270
                     replace hx270_0 := (HB.out.cell (World.block_lt_of_cell? w _ hx270_0)).trans hx270_0
                     replace p270 := eq_true p270
                     replace q270 := eq_true q270
                     have hnb72 := NB266_259.out
                     have hnc72 := NB259_266.out
                     obtain ⟨hcz73_0, hcz73_1, hfz73_0, hfz73_1⟩ := bz2 BK266
                     go_wp2
                     go_ret
                     exact ⟨by first | rfl | (simp [errW_none, errW_some] <;> rfl) | (simp [*, errW_none, errW_some] <;> rfl), bl⟩
                    ·rw [if_neg c71] at H
                     have c71b0 : ((decide ((rd l0_0 x105_5) < ((rd_T35 l0_2 x52_3).f0))) != (decide (x105_5 < ((rd_T35 l0_2 x52_3).f1)))) = false := by simpa using c71
                     (try (have c71b1 : decide ((decide ((rd l0_0 x105_5) < ((rd_T35 l0_2 x52_3).f0))) = (decide (x105_5 < ((rd_T35 l0_2 x52_3).f1)))) = true := by simpa using c71))
                     (try (have c71b2 : ((decide ((rd l0_0 x105_5) < ((rd_T35 l0_2 x52_3).f0))) == (decide (x105_5 < ((rd_T35 l0_2 x52_3).f1)))) = true := by simpa using c71))
                     clear c71
                     have H' := Aside0.mk H
                     clear H
                     have p270 : 0 ≤ (x105_5 : Int) := dt
                     have q270 : x105_5 < (l0_0.length : Int) := dt
                     obtain ⟨ad270, e270, hx270_0⟩ := Kd.at_int HR0_0.out x105_5 p270 q270
                     cases e270
                     replace hx270_0 := (HB.out.cell (World.block_lt_of_cell? w _ hx270_0)).trans hx270_0
                     replace p270 := eq_true p270
                     replace q270 := eq_true q270
                     have hnb74 := NB266_259.out
                     have hnc74 := NB259_266.out
                     obtain ⟨hcz75_0, hcz75_1, hfz75_0, hfz75_1⟩ := bz2 BK266
                     go_wp2
                     go_roundg k5
                     case measure => have := HJ1.out; have := HK2.out; have := HK3.out; have := HJ39.out; have := HK5.out; omega
                     case rel => exact ⟨(wrap64 (x105_5 + 1)), (by first | rfl | (simp; done) | (simp [*]; done)), H', ⟨by have := HJ1.out; have := HK2.out; have := HK3.out; have := HJ39.out; have := HK5.out; omega⟩, ⟨ub BK259.out⟩, ⟨ub BK266.out⟩, ⟨bl⟩⟩
                   ·rw [if_neg c70] at H
                    exact absurd H (by simp)
                  ·rw [if_neg c69] at H
                   exact absurd H (by simp)
                 ·rw [if_neg c68] at H
                  have c68b0 : decide (x105_5 < (l0_0.length : Int)) = false := decide_eq_false c68
                  clear c68
                  have H' := Aside0.mk H
                  clear H
                  go_wp2
                  go_roundg k5
                  case measure => have := HJ1.out; have := HK2.out; have := HK3.out; have := HJ39.out; have := HK5.out; omega
                  case rel => exact ⟨(wrap64 (x52_3 + 1)), (by first | rfl | (simp; done) | (simp [*]; done)), H', ⟨by have := HJ1.out; have := HK2.out; have := HK3.out; have := HJ39.out; have := HK5.out; omega⟩, ⟨ub BK259.out⟩, ⟨bl⟩⟩
           ·rw [if_neg c39] at H
            exact absurd H (by simp)
          ·rw [if_neg c38] at H
           exact absurd H (by simp)
         ·rw [if_neg c37] at H
          have c37b0 : decide (x52_3 < (l0_2.length : Int)) = false := decide_eq_false c37
          clear c37
          obtain rfl := Option.some.inj H
          go_wp2
          go_ret
          exact ⟨by first | rfl | (simp [errW_none, errW_some] <;> rfl) | (simp [*, errW_none, errW_some] <;> rfl), bl⟩

end Go.Proofs.Ytmliclopdbkbeaa.PFnExactAddPivot
