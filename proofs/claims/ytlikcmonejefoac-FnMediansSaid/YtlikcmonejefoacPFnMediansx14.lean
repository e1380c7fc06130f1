-- printed by a program of this session, a turned copy of the print of the kit
import Derived.Test.YtlikcmonejefoacSq
import Derived.Test.YtlikcmonejefoacPFnMediansx0
import Derived.Test.YtlikcmonejefoacPFnMediansx13
namespace Go.Proofs.Ytlikcmonejefoac.PFnMedians
open Go.RowKit Go.Proofs.YtlikcmonejefoacW.PrintWords Go.Proofs.YtlikcmonejefoacW.PrintLast Go.Proofs.YtlikcmonejefoacW.PrintMore Go.Proofs.Ytlikcmonejefoac.Sq
attribute [local go_sem] max2_int min2_int max_two min_two max_three min_three max_four min_four Giv.cell_twice   -- for this text's walks alone
set_option linter.unusedVariables false
set_option linter.unusedSimpArgs false

/-! ### impl_IsCracker: function 45 -/
mutual
def impl_IsCracker.j0 : Nat → Bool → List Int → List Int → List (S90) → Option (Bool)
 | 0, _, _, _, _ => none
 | k + 1, x33, x552000, x552001, x552002 => if x33 = true then (some false) else (impl_IsCracker.l0 k x552001 (x552001.length : Int) 0 x552000 x552001 x552002)
def impl_IsCracker.l0 : Nat → List Int → Int → Int → List Int → List Int → List (S90) → Option (Bool)
 | 0, _, _, _, _, _, _ => none
 | k + 1, x35, x36, x37, x552000, x552001, x552002 => if x37 < x36 then (if 0 ≤ x37 then (if x37 < (x35.length : Int) then (if x37 ≤ (x552001.length : Int) then ((slices_Contains_int_int.f k (x552001.take (x37 : Int).toNat) (rd x35 x37)).bind fun t556 => (if t556 = true then (some false) else (impl_IsCracker.l0 k x35 x36 (wrap64 (x37 + 1)) x552000 x552001 x552002))) else (none)) else (none)) else (none)) else (impl_IsCracker.l1 k x552002 (x552002.length : Int) 0 x552000 x552001 x552002)
def impl_IsCracker.l1 : Nat → List (S90) → Int → Int → List Int → List Int → List (S90) → Option (Bool)
 | 0, _, _, _, _, _, _ => none
 | k + 1, x50, x51, x52, x552000, x552001, x552002 => if x52 < x51 then (if 0 ≤ x52 then (if x52 < (x50.length : Int) then ((impl_bound.f ((rd_T90 x50 x52).f0)).bind fun t559 => (if t559 = true then (if ((rd_T90 x50 x52).f1) < 0 then (impl_IsCracker.j3 k x50 x51 x52 true x552000 x552001 x552002 ((rd_T90 x50 x52).f0) ((rd_T90 x50 x52).f1)) else (if ((rd_T90 x50 x52).f1) > (x552000.length : Int) then (impl_IsCracker.j3 k x50 x51 x52 true x552000 x552001 x552002 ((rd_T90 x50 x52).f0) ((rd_T90 x50 x52).f1)) else (if x52 > 0 then (if 0 ≤ (wrap64 (x52 - 1)) then (if (wrap64 (x52 - 1)) < (x552002.length : Int) then (if ((rd_T90 x50 x52).f0) ≤ ((rd_T90 x552002 (wrap64 (x52 - 1))).f0) then (impl_IsCracker.j3 k x50 x51 x52 true x552000 x552001 x552002 ((rd_T90 x50 x52).f0) ((rd_T90 x50 x52).f1)) else (impl_IsCracker.j3 k x50 x51 x52 (decide (((rd_T90 x50 x52).f1) < ((rd_T90 x552002 (wrap64 (x52 - 1))).f1))) x552000 x552001 x552002 ((rd_T90 x50 x52).f0) ((rd_T90 x50 x52).f1))) else (none)) else (none)) else (impl_IsCracker.j3 k x50 x51 x52 false x552000 x552001 x552002 ((rd_T90 x50 x52).f0) ((rd_T90 x50 x52).f1))))) else (impl_IsCracker.j3 k x50 x51 x52 true x552000 x552001 x552002 ((rd_T90 x50 x52).f0) ((rd_T90 x50 x52).f1)))) else (none)) else (none)) else (some true)
def impl_IsCracker.j3 : Nat → List (S90) → Int → Int → Bool → List Int → List Int → List (S90) → Int → Int → Option (Bool)
 | 0, _, _, _, _, _, _, _, _, _ => none
 | k + 1, x50, x51, x52, x101, x552000, x552001, x552002, x559000, x559001 => if x101 = true then (some false) else (impl_IsCracker.l2 k x50 x51 x52 x552000 (x552000.length : Int) 0 x552000 x552001 x552002 x559000 x559001)
def impl_IsCracker.l2 : Nat → List (S90) → Int → Int → List Int → Int → Int → List Int → List Int → List (S90) → Int → Int → Option (Bool)
 | 0, _, _, _, _, _, _, _, _, _, _, _ => none
 | k + 1, x50, x51, x52, x103, x104, x105, x552000, x552001, x552002, x559000, x559001 => if x105 < x104 then (if 0 ≤ x105 then (if x105 < (x103.length : Int) then (if ((decide ((rd x103 x105) < x559000)) != (decide (x105 < x559001))) = true then (some false) else (impl_IsCracker.l2 k x50 x51 x52 x103 x104 (wrap64 (x105 + 1)) x552000 x552001 x552002 x559000 x559001)) else (none)) else (none)) else (impl_IsCracker.l1 k x50 x51 (wrap64 (x52 + 1)) x552000 x552001 x552002)
end
def impl_IsCracker.f (k : Nat) (l0_0 : List Int) (l0_1 : List Int) (l0_2 : List (S90)) : Option (Bool) := (impl_AreValues.f l0_0).bind fun t552 => (if t552 = true then (if (l0_1.length : Int) = (l0_0.length : Int) then ((impl_within.f l0_1 0 999).bind fun t553 => (if t553 = true then (impl_IsCracker.j0 k (decide ((l0_2.length : Int) > 2001)) l0_0 l0_1 l0_2) else (impl_IsCracker.j0 k true l0_0 l0_1 l0_2))) else (impl_IsCracker.j0 k true l0_0 l0_1 l0_2)) else (impl_IsCracker.j0 k true l0_0 l0_1 l0_2))
theorem impl_IsCracker.mono_l : ∀ k, (∀ y0 y1 y2 y3, LeO (impl_IsCracker.j0 k y0 y1 y2 y3) (impl_IsCracker.j0 (k + 1) y0 y1 y2 y3)) ∧ (∀ y0 y1 y2 y3 y4 y5, LeO (impl_IsCracker.l0 k y0 y1 y2 y3 y4 y5) (impl_IsCracker.l0 (k + 1) y0 y1 y2 y3 y4 y5)) ∧ (∀ y0 y1 y2 y3 y4 y5, LeO (impl_IsCracker.l1 k y0 y1 y2 y3 y4 y5) (impl_IsCracker.l1 (k + 1) y0 y1 y2 y3 y4 y5)) ∧ (∀ y0 y1 y2 y3 y4 y5 y6 y7 y8, LeO (impl_IsCracker.j3 k y0 y1 y2 y3 y4 y5 y6 y7 y8) (impl_IsCracker.j3 (k + 1) y0 y1 y2 y3 y4 y5 y6 y7 y8)) ∧ (∀ y0 y1 y2 y3 y4 y5 y6 y7 y8 y9 y10, LeO (impl_IsCracker.l2 k y0 y1 y2 y3 y4 y5 y6 y7 y8 y9 y10) (impl_IsCracker.l2 (k + 1) y0 y1 y2 y3 y4 y5 y6 y7 y8 y9 y10))
 | 0 => ⟨fun _ _ _ _ r h => by simp [impl_IsCracker.j0] at h, fun _ _ _ _ _ _ r h => by simp [impl_IsCracker.l0] at h, fun _ _ _ _ _ _ r h => by simp [impl_IsCracker.l1] at h, fun _ _ _ _ _ _ _ _ _ r h => by simp [impl_IsCracker.j3] at h, fun _ _ _ _ _ _ _ _ _ _ _ r h => by simp [impl_IsCracker.l2] at h⟩
 | k + 1 => by
  obtain ⟨ih0, ih1, ih2, ih3, ih4⟩ := impl_IsCracker.mono_l k
  refine ⟨?_, ?_, ?_, ?_, ?_⟩
  ·intro y0 y1 y2 y3
   unfold impl_IsCracker.j0
   exact mo
  ·intro y0 y1 y2 y3 y4 y5
   unfold impl_IsCracker.l0
   exact mo
  ·intro y0 y1 y2 y3 y4 y5
   unfold impl_IsCracker.l1
   exact mo
  ·intro y0 y1 y2 y3 y4 y5 y6 y7 y8
   unfold impl_IsCracker.j3
   exact mo
  ·intro y0 y1 y2 y3 y4 y5 y6 y7 y8 y9 y10
   unfold impl_IsCracker.l2
   exact mo
theorem impl_IsCracker.mono : ∀ a0 a1 a2 k, LeO (impl_IsCracker.f k a0 a1 a2) (impl_IsCracker.f (k + 1) a0 a1 a2) := by
 intro a0 a1 a2 k
 obtain ⟨ih0, ih1, ih2, ih3, ih4⟩ := impl_IsCracker.mono_l k
 unfold impl_IsCracker.f
 exact mo
instance impl_IsCracker.mi (a0 a1 a2 k) : LeC (impl_IsCracker.f k a0 a1 a2) (impl_IsCracker.f (k + 1) a0 a1 a2) := ⟨impl_IsCracker.mono a0 a1 a2 k⟩
def impl_IsCracker.T12 : Bool × List (List Nat × List Nat) := (true, [([], []), ([0], [0]), ([1], [1]), ([2], [2]), ([3, 2], [3]), ([4], [4]), ([5, 4], [4, 5]), ([6, 4], [4, 6]), ([4, 7], [4, 7]), ([8, 4], [8]), ([9], [9]), ([10, 9], [9, 10]), ([9], [9]), ([12, 9], [9, 12]), ([13, 9], [9, 13]), ([11, 14, 9], [9, 11, 14]), ([9, 15], [9, 15]), ([16, 9], [16]), ([17], [17]), ([18, 17], [17, 18]), ([19, 17, 17], [17, 19]), ([20], [20]), ([21, 20], [20, 21]), ([20], [20]), ([23, 20], [20, 23]), ([20], [20]), ([25, 20], [20, 25]), ([24, 26, 20], [20, 24, 26]), ([27, 20], [20, 27]), ([28, 20], [20, 28]), ([22, 29, 20], [20, 22, 29]), ([30, 20, 20], [20, 30]), ([31], [31]), ([32, 31], [31, 32]), ([31], [31]), ([34, 31], [31, 34]), ([31], [31]), ([36, 31], [31, 36]), ([35, 37, 31], [31, 35, 37]), ([38, 31], [31, 38]), ([39, 31], [31, 39]), ([33, 40, 31], [31, 33, 40]), ([31, 41, 20], [20, 31, 41]), ([20, 42, 17], [17, 20, 42]), ([17, 43], [17, 43])])
def impl_IsCracker.B12 : List Nat := [0, 1, 3, 7, 15, 31, 63, 127, 255, 511, 1023, 2047, 1023, 5119, 13311, 32767, 65535, 131071, 262143, 524287, 1048575, 2097151, 4194303, 2097151, 10485759, 2097151, 35651583, 127926271, 262143999, 530579455, 1073741823, 2147483647, 4294967295, 8589934591, 4294967295, 21474836479, 4294967295, 73014444031, 261993005055, 536870911999, 1086626725887, 2199023255551, 4398046511103, 8796093022207, 17592186044415]
theorem impl_IsCracker.tab12 : rtab .any (opsOf Try.f45 12) = impl_IsCracker.T12 := by kernel_rfl
theorem impl_IsCracker.bits12 : waitsOk impl_IsCracker.T12.2 impl_IsCracker.B12 = true := by kernel_rfl
set_option maxHeartbeats 8000000 in
set_option maxRecDepth 100000 in
theorem impl_IsCracker.calls (k : Nat) (A0_0 : Option Addr) (c0_0 : Nat) (l0_0 : List Int) (A0_1 : Option Addr) (c0_1 : Nat) (l0_1 : List Int) (A0_2 : Option Addr) (c0_2 : Nat) (l0_2 : List (S90)) (r : Bool) (w : World) (hr0_0 : Kd.C (Kd.int .i64) w A0_0 l0_0.length l0_0) (hc0_0 : l0_0.length ≤ c0_0) (hr0_1 : Kd.C (Kd.int .i64) w A0_1 l0_1.length l0_1) (hc0_1 : l0_1.length ≤ c0_1) (hr0_2 : Kd.C k90 w A0_2 l0_2.length l0_2) (hc0_2 : l0_2.length ≤ c0_2) (h : impl_IsCracker.f k l0_0 l0_1 l0_2 = some r) :
  Calls Try.prog 45 #[.agg #[.slice A0_0 l0_0.length c0_0, .slice A0_1 l0_1.length c0_1, .slice A0_2 l0_2.length c0_2]] w fun e w' => e = .returned (.bool r) ∧ Below w.heap.size w w' := by
 have hu45 := Try.underlying45
 have hu90 := Try.underlying90
 have HR0_0 := Aside0.mk hr0_0
 have HC0_0 := Aside0.mk hc0_0
 clear hr0_0 hc0_0
 have HR0_1 := Aside0.mk hr0_1
 have HC0_1 := Aside0.mk hc0_1
 clear hr0_1 hc0_1
 have HR0_2 := Aside0.mk hr0_2
 have HC0_2 := Aside0.mk hc0_2
 clear hr0_2 hc0_2
 have HB := Aside0.mk (Below.refl w.heap.size w)
 have H : ((impl_AreValues.f l0_0).bind fun t552 => (if t552 = true then (if (l0_1.length : Int) = (l0_0.length : Int) then ((impl_within.f l0_1 0 999).bind fun t553 => (if t553 = true then (impl_IsCracker.j0 k (decide ((l0_2.length : Int) > 2001)) l0_0 l0_1 l0_2) else (impl_IsCracker.j0 k true l0_0 l0_1 l0_2))) else (impl_IsCracker.j0 k true l0_0 l0_1 l0_2)) else (impl_IsCracker.j0 k true l0_0 l0_1 l0_2))) = some r := h
 clear h
 have HC2 := Aside0.mk H
 clear H
 go_enter Try.func45, Try.ntmps45
 go_upto_region 1 with (first | ((with_reducible refine gate_dst (N := 1) rfl ?_); (try (refine gate_guard (by rfl) ?_; dsimp only)); refine bx 1 #[.slice A0_0 l0_0.length c0_0, .slice A0_1 l0_1.length c0_1, .slice A0_2 l0_2.length c0_2] 45 ?_; intro gb551 hg w3 hbox hb; have BK551 := mk hbox; have GW551 := wg hg; have GE551 := wg hg; replace HB := wh hb; clear hb hbox hg))
 (try simp only [Act.put, List.setIfInBounds_toArray, List.set_cons_zero, List.set_cons_succ])
 go_cut [33] (fun v33 wc => ∃ (kq : Nat) (x33_1 : Bool), v33 = .bool x33_1 ∧ Aside0 (impl_IsCracker.j0 kq x33_1 l0_0 l0_1 l0_2 = some r) ∧ Aside0 (kq ≤ k) ∧ Aside0 (wc.heap[gb551]? = some (.cells #[(.slice A0_0 l0_0.length c0_0), (.slice A0_1 l0_1.length c0_1), (.slice A0_2 l0_2.length c0_2)] 45 (0, 0))) ∧ Aside0 (Below w.heap.size w wc))
 case first =>
  have H := HC2.out
  clear HC2
  revert H; refine bo ?_; rintro t552 A4 H
  by_cases c5 : t552 = true
  ·subst c5
   rw [if_pos rfl] at H
   by_cases c6 : (l0_1.length : Int) = (l0_0.length : Int)
   ·rw [if_pos c6] at H
    have c6b0 : ((l0_1.length : Int) == (l0_0.length : Int)) = true := beq_iff_eq.mpr c6
    have c6b1 : ((l0_1.length : Int) != (l0_0.length : Int)) = false := bne_eq_false_iff_eq.mpr c6
    have c6b2 : (l0_1.length == l0_0.length) = true := by first | simpa using c6 | (simp at c6 ⊢; omega)
    clear c6
    (first | rw [c6b0] | (simp only [i64_w, i32_w]; rw [c6b0]) | skip)
    revert H; refine bo ?_; rintro t553 A7 H
    by_cases c8 : t553 = true
    ·subst c8
     rw [if_pos rfl] at H
     have H' := Aside0.mk H
     clear H
     obtain ⟨hcz9_0, hcz9_1, hcz9_2, hfz9_0, hfz9_1, hfz9_2⟩ := bz3 BK551
     go_wp2_with (first | ((with_reducible refine gate_callee (f := 60) rfl ?_); refine gl (some 11) rfl Try.func60 #[.slice A0_0 l0_0.length c0_0] ?_; (with_reducible refine (impl_AreValues.calls _ _ l0_0 true _ ?side1 ?side2 A4.out).mono ?_); (case side1 => exact uc (Kd.C_below HR0_0.out HB.out)); (case side2 => exact HC0_0.out); rintro e w10 ⟨rfl, hb⟩; refine ⟨_, rfl, ?_⟩; replace BK551 := wb BK551 hb; replace HB := wh hb; (try clear hb); (try clear hb2); (try clear hk); (try clear hi); obtain ⟨hcz11_0, hcz11_1, hcz11_2, hfz11_0, hfz11_1, hfz11_2⟩ := bz3 BK551) | (go_at_call 66; (with_reducible refine (impl_within.calls _ _ l0_1 0 999 true _ ?side1 ?side2 A7.out).mono ?_); (case side1 => exact uc (Kd.C_below HR0_1.out HB.out)); (case side2 => exact HC0_1.out); rintro e w12 ⟨rfl, hb⟩; replace BK551 := wb BK551 hb; replace HB := wh hb; (try clear hb); (try clear hb2); (try clear hk); (try clear hi); obtain ⟨hcz13_0, hcz13_1, hcz13_2, hfz13_0, hfz13_1, hfz13_2⟩ := bz3 BK551))
     go_meet
     case rel => exact ⟨_, (decide ((l0_2.length : Int) > 2001)), (by first | rfl | (simp; done) | (simp [*]; done)), H', ⟨by first | omega | exact Nat.le_refl _⟩, ⟨ub BK551.out⟩, ⟨bl⟩⟩
    ·replace c8 := Bool.eq_false_iff.mpr c8
     subst c8
     rw [if_neg nf] at H
     have H' := Aside0.mk H
     clear H
     obtain ⟨hcz14_0, hcz14_1, hcz14_2, hfz14_0, hfz14_1, hfz14_2⟩ := bz3 BK551
     go_wp2_with (first | ((with_reducible refine gate_callee (f := 60) rfl ?_); refine gl (some 11) rfl Try.func60 #[.slice A0_0 l0_0.length c0_0] ?_; (with_reducible refine (impl_AreValues.calls _ _ l0_0 true _ ?side1 ?side2 A4.out).mono ?_); (case side1 => exact uc (Kd.C_below HR0_0.out HB.out)); (case side2 => exact HC0_0.out); rintro e w15 ⟨rfl, hb⟩; refine ⟨_, rfl, ?_⟩; replace BK551 := wb BK551 hb; replace HB := wh hb; (try clear hb); (try clear hb2); (try clear hk); (try clear hi); obtain ⟨hcz16_0, hcz16_1, hcz16_2, hfz16_0, hfz16_1, hfz16_2⟩ := bz3 BK551) | (go_at_call 66; (with_reducible refine (impl_within.calls _ _ l0_1 0 999 false _ ?side1 ?side2 A7.out).mono ?_); (case side1 => exact uc (Kd.C_below HR0_1.out HB.out)); (case side2 => exact HC0_1.out); rintro e w17 ⟨rfl, hb⟩; replace BK551 := wb BK551 hb; replace HB := wh hb; (try clear hb); (try clear hb2); (try clear hk); (try clear hi)))
     go_meet
     case rel => exact ⟨_, (true), (by first | rfl | (simp; done) | (simp [*]; done)), H', ⟨by first | omega | exact Nat.le_refl _⟩, ⟨ub BK551.out⟩, ⟨bl⟩⟩
   ·rw [if_neg c6] at H
    have c6b0 : ((l0_1.length : Int) == (l0_0.length : Int)) = false := beq_eq_false_iff_ne.mpr c6
    have c6b1 : ((l0_1.length : Int) != (l0_0.length : Int)) = true := bne_iff_ne.mpr c6
    have c6b2 : (l0_1.length == l0_0.length) = false := by first | simpa using c6 | (simp at c6 ⊢; omega)
    (first | rw [c6b0] | (simp only [i64_w, i32_w]; rw [c6b0]) | skip)
    have H' := Aside0.mk H
    clear H
    obtain ⟨hcz18_0, hcz18_1, hcz18_2, hfz18_0, hfz18_1, hfz18_2⟩ := bz3 BK551
    go_wp2_with (first | ((with_reducible refine gate_callee (f := 60) rfl ?_); refine gl (some 11) rfl Try.func60 #[.slice A0_0 l0_0.length c0_0] ?_; (with_reducible refine (impl_AreValues.calls _ _ l0_0 true _ ?side1 ?side2 A4.out).mono ?_); (case side1 => exact uc (Kd.C_below HR0_0.out HB.out)); (case side2 => exact HC0_0.out); rintro e w19 ⟨rfl, hb⟩; refine ⟨_, rfl, ?_⟩; replace BK551 := wb BK551 hb; replace HB := wh hb; (try clear hb); (try clear hb2); (try clear hk); (try clear hi); obtain ⟨hcz20_0, hcz20_1, hcz20_2, hfz20_0, hfz20_1, hfz20_2⟩ := bz3 BK551))
    go_meet
    case rel => exact ⟨_, (true), (by first | rfl | (simp; done) | (simp [*]; done)), H', ⟨by first | omega | exact Nat.le_refl _⟩, ⟨ub BK551.out⟩, ⟨bl⟩⟩
  ·replace c5 := Bool.eq_false_iff.mpr c5
   subst c5
   rw [if_neg nf] at H
   have H' := Aside0.mk H
   clear H
   obtain ⟨hcz21_0, hcz21_1, hcz21_2, hfz21_0, hfz21_1, hfz21_2⟩ := bz3 BK551
   go_wp2_with (first | ((with_reducible refine gate_callee (f := 60) rfl ?_); refine gl (some 11) rfl Try.func60 #[.slice A0_0 l0_0.length c0_0] ?_; (with_reducible refine (impl_AreValues.calls _ _ l0_0 false _ ?side1 ?side2 A4.out).mono ?_); (case side1 => exact uc (Kd.C_below HR0_0.out HB.out)); (case side2 => exact HC0_0.out); rintro e w22 ⟨rfl, hb⟩; refine ⟨_, rfl, ?_⟩; replace BK551 := wb BK551 hb; replace HB := wh hb; (try clear hb); (try clear hb2); (try clear hk); (try clear hi)))
   go_meet
   case rel => exact ⟨_, (true), (by first | rfl | (simp; done) | (simp [*]; done)), H', ⟨by first | omega | exact Nat.le_refl _⟩, ⟨ub BK551.out⟩, ⟨bl⟩⟩
 case rest =>
  clear HC2
  try clear p2
  try clear c4
  try clear c5
  try clear c6
  try clear c6b0
  try clear c6b1
  try clear c6b2
  try clear c8
  try clear hcz11_0
  try clear hcz11_1
  try clear hcz11_2
  try clear hcz13_0
  try clear hcz13_1
  try clear hcz13_2
  try clear hcz14_0
  try clear hcz14_1
  try clear hcz14_2
  try clear hcz16_0
  try clear hcz16_1
  try clear hcz16_2
  try clear hcz18_0
  try clear hcz18_1
  try clear hcz18_2
  try clear hcz20_0
  try clear hcz20_1
  try clear hcz20_2
  try clear hcz21_0
  try clear hcz21_1
  try clear hcz21_2
  try clear hcz9_0
  try clear hcz9_1
  try clear hcz9_2
  try clear hfz11_0
  try clear hfz11_1
  try clear hfz11_2
  try clear hfz13_0
  try clear hfz13_1
  try clear hfz13_2
  try clear hfz14_0
  try clear hfz14_1
  try clear hfz14_2
  try clear hfz16_0
  try clear hfz16_1
  try clear hfz16_2
  try clear hfz18_0
  try clear hfz18_1
  try clear hfz18_2
  try clear hfz20_0
  try clear hfz20_1
  try clear hfz20_2
  try clear hfz21_0
  try clear hfz21_1
  try clear hfz21_2
  try clear hfz9_0
  try clear hfz9_1
  try clear hfz9_2
  obtain ⟨kq, x33_1, rfl, HA, HJ1, BK551, HB⟩ := hcut
  cases kq with
  | zero => exact absurd HA.out (by simp [impl_IsCracker.j0])
  | succ kj1 =>
   have H := HA.out
   clear HA
   simp only [impl_IsCracker.j0] at H
   by_cases c23 : x33_1 = true
   ·subst c23
    rw [if_pos rfl] at H
    obtain rfl := Option.some.inj H
    go_wp2
    go_ret
    exact ⟨by first | rfl | (simp [errW_none, errW_some] <;> rfl) | (simp [*, errW_none, errW_some] <;> rfl), bl⟩
   ·replace c23 := Bool.eq_false_iff.mpr c23
    subst c23
    rw [if_neg nf] at H
    have H' := Aside0.mk H
    clear H
    obtain ⟨hcz24_0, hcz24_1, hcz24_2, hfz24_0, hfz24_1, hfz24_2⟩ := bz3 BK551
    go_wp2
    go_loopg [37] kj1 (fun kq v37 w' => ∃ (x37_2 : Int), v37 = .int .i64 x37_2 ∧ Aside0 (impl_IsCracker.l0 kq l0_1 (l0_1.length : Int) x37_2 l0_0 l0_1 l0_2 = some r) ∧ Aside0 (kq ≤ kj1) ∧ Aside0 (w'.heap[gb551]? = some (.cells #[(.slice A0_0 l0_0.length c0_0), (.slice A0_1 l0_1.length c0_1), (.slice A0_2 l0_2.length c0_2)] 45 (0, 0))) ∧ Aside0 (Below w.heap.size w w'))
    case atStart => exact ⟨(0), (by first | rfl | (simp; done) | (simp [*]; done)), H', ⟨Nat.le_refl _⟩, ⟨ub BK551.out⟩, ⟨bl⟩⟩
    case round =>
     clear H'
     try clear c2
     try clear p2
     try clear c4
     try clear c5
     try clear c6
     try clear c6b0
     try clear c6b1
     try clear c6b2
     try clear c8
     try clear c23
     try clear hcz11_0
     try clear hcz11_1
     try clear hcz11_2
     try clear hcz13_0
     try clear hcz13_1
     try clear hcz13_2
     try clear hcz14_0
     try clear hcz14_1
     try clear hcz14_2
     try clear hcz16_0
     try clear hcz16_1
     try clear hcz16_2
     try clear hcz18_0
     try clear hcz18_1
     try clear hcz18_2
     try clear hcz20_0
     try clear hcz20_1
     try clear hcz20_2
     try clear hcz21_0
     try clear hcz21_1
     try clear hcz21_2
     try clear hcz24_0
     try clear hcz24_1
     try clear hcz24_2
     try clear hcz9_0
     try clear hcz9_1
     try clear hcz9_2
     try clear hfz11_0
     try clear hfz11_1
     try clear hfz11_2
     try clear hfz13_0
     try clear hfz13_1
     try clear hfz13_2
     try clear hfz14_0
     try clear hfz14_1
     try clear hfz14_2
     try clear hfz16_0
     try clear hfz16_1
     try clear hfz16_2
     try clear hfz18_0
     try clear hfz18_1
     try clear hfz18_2
     try clear hfz20_0
     try clear hfz20_1
     try clear hfz20_2
     try clear hfz21_0
     try clear hfz21_1
     try clear hfz21_2
     try clear hfz24_0
     try clear hfz24_1
     try clear hfz24_2
     try clear hfz9_0
     try clear hfz9_1
     try clear hfz9_2
     try clear p2
     obtain ⟨x37_2, rfl, HA, HK2, BK551, HB⟩ := hrel
     cases gk with
     | zero => exact absurd HA.out (by simp [impl_IsCracker.l0])
     | succ k2 =>
      have H := HA.out
      clear HA
      simp only [impl_IsCracker.l0] at H
      by_cases c25 : x37_2 < (l0_1.length : Int)
      ·rw [if_pos c25] at H
       have c25b0 : decide (x37_2 < (l0_1.length : Int)) = true := decide_eq_true c25
       clear c25
       by_cases c26 : 0 ≤ x37_2
       ·rw [if_pos c26] at H
        have c26b0 : decide (0 ≤ x37_2) = true := decide_eq_true c26
        clear c26
        by_cases c27 : x37_2 < (l0_1.length : Int)
        ·rw [if_pos c27] at H
         have c27b0 : decide (x37_2 < (l0_1.length : Int)) = true := decide_eq_true c27
         clear c27
         have c28b0 := eq_true (of_decide_eq_true (by first | (with_reducible assumption) | assumption) : 0 ≤ x37_2)
         by_cases c29 : x37_2 ≤ (l0_1.length : Int)
         ·rw [if_pos c29] at H
          have c29b0 := eq_true c29
          have c29b1 : decide (x37_2 ≤ (l0_1.length : Int)) = true := decide_eq_true c29
          clear c29
          revert H; refine bo ?_; rintro t556 A30 H
          by_cases c31 : t556 = true
          ·subst c31
           rw [if_pos rfl] at H
           obtain rfl := Option.some.inj H
           have p554 : 0 ≤ (x37_2 : Int) := of_decide_eq_true (by first | (with_reducible assumption) | assumption)
           have q554 : x37_2 < (l0_1.length : Int) := of_decide_eq_true (by first | (with_reducible assumption) | assumption)
           obtain ⟨ad554, e554, hx554_0⟩ := Kd.at_int HR0_1.out x37_2 p554 q554
           cases e554
           replace hx554_0 := (HB.out.cell (World.block_lt_of_cell? w _ hx554_0)).trans hx554_0
           replace p554 := eq_true p554
           replace q554 := eq_true q554
           obtain ⟨hcz32_0, hcz32_1, hcz32_2, hfz32_0, hfz32_1, hfz32_2⟩ := bz3 BK551
           obtain ⟨i033, hi033, _, hsz33, _⟩ := info_parts info3
           obtain ⟨hcut33, hA33, hC33⟩ := print_take_of (P := Try.prog) (Value.int .i64) 0 26 3 .i64 Try.underlying26 hi033 hsz33 (some ad554) c0_1 l0_1 x37_2 (of_decide_eq_true (by first | (with_reducible assumption) | assumption)) (of_decide_eq_true (by first | (with_reducible assumption) | assumption)) HC0_1.out
           have HR555 := Aside0.mk (Kd.C_of_reads (h1 := fun _ => rfl) (hA33 _ (Kd.reads_of_C HR0_1.out)))
           have HC555 := Aside0.mk hC33
           clear hA33 hC33 hi033 hsz33
           go_wp2_with (first | ((with_reducible refine gate_callee (f := 67) rfl ?_); refine goesL_ (some 47) rfl rfl Try.func67 (by kernel_rfl) rfl #[.slice (some ad554) (l0_1.take (x37_2 : Int).toNat).length c0_1, .int .i64 (rd l0_1 x37_2)] rfl (by (try simp only [List.map_toArray, List.map_cons, List.map_nil]); first | done | (rw [show (l0_1.take (x37_2 : Int).toNat).length = x37_2.toNat from (by rw [List.length_take]; have h_ : (x37_2 : Int) ≤ (l0_1.length : Int) := of_decide_eq_true (by first | (with_reducible assumption) | assumption); omega)] <;> rfl) | rfl | (simp only [List.length_drop, List.length_take]; rfl)) ?_; (with_reducible refine (slices_Contains_int_int.calls k2 _ _ (l0_1.take (x37_2 : Int).toNat) (rd l0_1 x37_2) true _ ?side1 ?side2 A30.out).mono ?_); (case side1 => exact uc (Kd.C_below HR555.out HB.out)); (case side2 => exact HC555.out); rintro e w' ⟨rfl, ⟨nd, rfl⟩⟩; refine ⟨_, rfl, ?_⟩))
           go_ret
           exact ⟨by first | rfl | (simp [errW_none, errW_some] <;> rfl) | (simp [*, errW_none, errW_some] <;> rfl), bl⟩
          ·replace c31 := Bool.eq_false_iff.mpr c31
           subst c31
           rw [if_neg nf] at H
           have H' := Aside0.mk H
           clear H
           have p554 : 0 ≤ (x37_2 : Int) := of_decide_eq_true (by first | (with_reducible assumption) | assumption)
           have q554 : x37_2 < (l0_1.length : Int) := of_decide_eq_true (by first | (with_reducible assumption) | assumption)
           obtain ⟨ad554, e554, hx554_0⟩ := Kd.at_int HR0_1.out x37_2 p554 q554
           cases e554
           replace hx554_0 := (HB.out.cell (World.block_lt_of_cell? w _ hx554_0)).trans hx554_0
           replace p554 := eq_true p554
           replace q554 := eq_true q554
           obtain ⟨hcz34_0, hcz34_1, hcz34_2, hfz34_0, hfz34_1, hfz34_2⟩ := bz3 BK551
           obtain ⟨i035, hi035, _, hsz35, _⟩ := info_parts info3
           obtain ⟨hcut35, hA35, hC35⟩ := print_take_of (P := Try.prog) (Value.int .i64) 0 26 3 .i64 Try.underlying26 hi035 hsz35 (some ad554) c0_1 l0_1 x37_2 (of_decide_eq_true (by first | (with_reducible assumption) | assumption)) (of_decide_eq_true (by first | (with_reducible assumption) | assumption)) HC0_1.out
           have HR555 := Aside0.mk (Kd.C_of_reads (h1 := fun _ => rfl) (hA35 _ (Kd.reads_of_C HR0_1.out)))
           have HC555 := Aside0.mk hC35
           clear hA35 hC35 hi035 hsz35
           go_wp2_with (first | ((with_reducible refine gate_callee (f := 67) rfl ?_); refine goesL_ (some 47) rfl rfl Try.func67 (by kernel_rfl) rfl #[.slice (some ad554) (l0_1.take (x37_2 : Int).toNat).length c0_1, .int .i64 (rd l0_1 x37_2)] rfl (by (try simp only [List.map_toArray, List.map_cons, List.map_nil]); first | done | (rw [show (l0_1.take (x37_2 : Int).toNat).length = x37_2.toNat from (by rw [List.length_take]; have h_ : (x37_2 : Int) ≤ (l0_1.length : Int) := of_decide_eq_true (by first | (with_reducible assumption) | assumption); omega)] <;> rfl) | rfl | (simp only [List.length_drop, List.length_take]; rfl)) ?_; (with_reducible refine (slices_Contains_int_int.calls k2 _ _ (l0_1.take (x37_2 : Int).toNat) (rd l0_1 x37_2) false _ ?side1 ?side2 A30.out).mono ?_); (case side1 => exact uc (Kd.C_below HR555.out HB.out)); (case side2 => exact HC555.out); rintro e w' ⟨rfl, ⟨nd, rfl⟩⟩; refine ⟨_, rfl, ?_⟩))
           go_roundg k2
           case measure => have := HJ1.out; have := HK2.out; omega
           case rel => exact ⟨(wrap64 (x37_2 + 1)), (by first | rfl | (simp; done) | (simp [*]; done)), H', ⟨by have := HJ1.out; have := HK2.out; omega⟩, ⟨ub BK551.out⟩, ⟨bl⟩⟩
         ·rw [if_neg c29] at H
          exact absurd H (by simp)
        ·rw [if_neg c27] at H
         exact absurd H (by simp)
       ·rw [if_neg c26] at H
        exact absurd H (by simp)
      ·rw [if_neg c25] at H
       have c25b0 : decide (x37_2 < (l0_1.length : Int)) = false := decide_eq_false c25
       clear c25
       have H' := Aside0.mk H
       clear H
       obtain ⟨hcz36_0, hcz36_1, hcz36_2, hfz36_0, hfz36_1, hfz36_2⟩ := bz3 BK551
       go_wp2
       go_loopg [52] k2 (fun kq v52 w' => ∃ (x52_3 : Int), v52 = .int .i64 x52_3 ∧ Aside0 (impl_IsCracker.l1 kq l0_2 (l0_2.length : Int) x52_3 l0_0 l0_1 l0_2 = some r) ∧ Aside0 (kq ≤ k2) ∧ Aside0 (w'.heap[gb551]? = some (.cells #[(.slice A0_0 l0_0.length c0_0), (.slice A0_1 l0_1.length c0_1), (.slice A0_2 l0_2.length c0_2)] 45 (0, 0))) ∧ Aside0 (Below w.heap.size w w'))
       case atStart => exact ⟨(0), (by first | rfl | (simp; done) | (simp [*]; done)), H', ⟨Nat.le_refl _⟩, ⟨ub BK551.out⟩, ⟨bl⟩⟩
       case round =>
        clear H'
        try clear c2
        try clear p2
        try clear c3
        try clear c4
        try clear c5
        try clear p5
        try clear q5
        try clear hx5
        try clear c6
        try clear c6b0
        try clear c6b1
        try clear c6b2
        try clear p6
        try clear c8
        try clear c23
        try clear c25
        try clear c25b0
        try clear c26
        try clear c26b0
        try clear c27
        try clear c27b0
        try clear c28
        try clear c28b0
        try clear c29
        try clear c29b0
        try clear c29b1
        try clear c31
        try clear hcz11_0
        try clear hcz11_1
        try clear hcz11_2
        try clear hcz13_0
        try clear hcz13_1
        try clear hcz13_2
        try clear hcz14_0
        try clear hcz14_1
        try clear hcz14_2
        try clear hcz16_0
        try clear hcz16_1
        try clear hcz16_2
        try clear hcz18_0
        try clear hcz18_1
        try clear hcz18_2
        try clear hcz20_0
        try clear hcz20_1
        try clear hcz20_2
        try clear hcz21_0
        try clear hcz21_1
        try clear hcz21_2
        try clear hcz24_0
        try clear hcz24_1
        try clear hcz24_2
        try clear hcz32_0
        try clear hcz32_1
        try clear hcz32_2
        try clear hcz34_0
        try clear hcz34_1
        try clear hcz34_2
        try clear hcz36_0
        try clear hcz36_1
        try clear hcz36_2
        try clear hcz9_0
        try clear hcz9_1
        try clear hcz9_2
        try clear hfz11_0
        try clear hfz11_1
        try clear hfz11_2
        try clear hfz13_0
        try clear hfz13_1
        try clear hfz13_2
        try clear hfz14_0
        try clear hfz14_1
        try clear hfz14_2
        try clear hfz16_0
        try clear hfz16_1
        try clear hfz16_2
        try clear hfz18_0
        try clear hfz18_1
        try clear hfz18_2
        try clear hfz20_0
        try clear hfz20_1
        try clear hfz20_2
        try clear hfz21_0
        try clear hfz21_1
        try clear hfz21_2
        try clear hfz24_0
        try clear hfz24_1
        try clear hfz24_2
        try clear hfz32_0
        try clear hfz32_1
        try clear hfz32_2
        try clear hfz34_0
        try clear hfz34_1
        try clear hfz34_2
        try clear hfz36_0
        try clear hfz36_1
        try clear hfz36_2
        try clear hfz9_0
        try clear hfz9_1
        try clear hfz9_2
        try clear hx554_0
        try clear p2
        try clear p554
        try clear q554
        obtain ⟨x52_3, rfl, HA, HK3, BK551, HB⟩ := hrel
        cases gk with
        | zero => exact absurd HA.out (by simp [impl_IsCracker.l1])
        | succ k3 =>
         have H := HA.out
         clear HA
         simp only [impl_IsCracker.l1] at H
         by_cases c37 : x52_3 < (l0_2.length : Int)
         ·rw [if_pos c37] at H
          have c37b0 : decide (x52_3 < (l0_2.length : Int)) = true := decide_eq_true c37
          clear c37
          by_cases c38 : 0 ≤ x52_3
          ·rw [if_pos c38] at H
           have c38b0 : decide (0 ≤ x52_3) = true := decide_eq_true c38
           clear c38
           by_cases c39 : x52_3 < (l0_2.length : Int)
           ·rw [if_pos c39] at H
            have c39b0 : decide (x52_3 < (l0_2.length : Int)) = true := decide_eq_true c39
            clear c39
            have HC40 := Aside0.mk H
            clear H
            have p557 : 0 ≤ (x52_3 : Int) := of_decide_eq_true (by first | (with_reducible assumption) | assumption)
            have q557 : x52_3 < (l0_2.length : Int) := of_decide_eq_true (by first | (with_reducible assumption) | assumption)
            obtain ⟨ad557, e557, hx557_0, hx557_1⟩ := at_T90 HR0_2.out x52_3 p557 q557
            cases e557
            replace hx557_0 := (HB.out.cell (World.block_lt_of_cell? w _ hx557_0)).trans hx557_0
            replace hx557_1 := (HB.out.cell (World.block_lt_of_cell? w _ hx557_1)).trans hx557_1
            replace p557 := eq_true p557
            replace q557 := eq_true q557
            go_upto_region 12 with (first | ((with_reducible refine gate_dst (N := 6) rfl ?_); (try (refine gate_guard (by rfl) ?_; dsimp only)); refine bx 6 #[.int .i64 0, .int .i64 0] 90 ?_; intro gb558 hg w41 hbox hb; have BK558 := mk hbox; have GW558 := wg hg; have GE558 := wg hg; replace HB := wh hb; have NB551_558 := nl BK551 hg; have NB558_551 := nr BK551 hg; replace BK551 := wb BK551 hb; clear hb hbox hg; have hnb42 := NB558_551.out; have hnc42 := NB551_558.out; obtain ⟨hcz43_0, hcz43_1, hfz43_0, hfz43_1⟩ := bz2 BK558))
            (try simp only [Act.put, List.setIfInBounds_toArray, List.set_cons_zero, List.set_cons_succ])
            go_cut [101] (fun v101 wc => ∃ (kq : Nat) (x101_39 : Bool), v101 = .bool x101_39 ∧ Aside0 (impl_IsCracker.j3 kq l0_2 (l0_2.length : Int) x52_3 x101_39 l0_0 l0_1 l0_2 ((rd_T90 l0_2 x52_3).f0) ((rd_T90 l0_2 x52_3).f1) = some r) ∧ Aside0 (kq ≤ k3) ∧ Aside0 (wc.heap[gb551]? = some (.cells #[(.slice A0_0 l0_0.length c0_0), (.slice A0_1 l0_1.length c0_1), (.slice (some ad557) l0_2.length c0_2)] 45 (0, 0))) ∧ Aside0 (wc.heap[gb558]? = some (.cells #[.int .i64 ((rd_T90 l0_2 x52_3).f0), .int .i64 ((rd_T90 l0_2 x52_3).f1)] 90 (0, 0))) ∧ Aside0 (Below w.heap.size w wc))
            case first =>
             have H := HC40.out
             clear HC40
             revert H; refine bo ?_; rintro t559 A44 H
             by_cases c45 : t559 = true
             ·subst c45
              rw [if_pos rfl] at H
              by_cases c46 : ((rd_T90 l0_2 x52_3).f1) < 0
              ·rw [if_pos c46] at H
               have c46b0 : decide (((rd_T90 l0_2 x52_3).f1) < 0) = true := decide_eq_true c46
               clear c46
               (first | rw [c46b0] | (simp only [i64_w, i32_w]; rw [c46b0]) | skip)
               have H' := Aside0.mk H
               clear H
               try go_wp2
               have n0_ : Aside0 (((w41.setCell ⟨gb558, 0, none⟩ (.int .i64 ((rd_T90 l0_2 x52_3).f0))).setCell ⟨gb558, 1, none⟩ (.int .i64 ((rd_T90 l0_2 x52_3).f1))).heap[gb551]? = some (.cells #[.slice A0_0 l0_0.length c0_0, .slice A0_1 l0_1.length c0_1, .slice (some ad557) l0_2.length c0_2] 45 (0, 0))) := ⟨bq⟩
               have n1_ : Aside0 (((w41.setCell ⟨gb558, 0, none⟩ (.int .i64 ((rd_T90 l0_2 x52_3).f0))).setCell ⟨gb558, 1, none⟩ (.int .i64 ((rd_T90 l0_2 x52_3).f1))).heap[gb558]? = some (.cells #[.int .i64 ((rd_T90 l0_2 x52_3).f0), .int .i64 ((rd_T90 l0_2 x52_3).f1)] 90 (0, 0))) := ⟨bq⟩
               have n2_ : Aside0 (Below w.heap.size w ((w41.setCell ⟨gb558, 0, none⟩ (.int .i64 ((rd_T90 l0_2 x52_3).f0))).setCell ⟨gb558, 1, none⟩ (.int .i64 ((rd_T90 l0_2 x52_3).f1)))) := ⟨bl⟩
               (try clear BK551)
               (try clear BK558)
               (try clear HB)
               generalize ((w41.setCell ⟨gb558, 0, none⟩ (.int .i64 ((rd_T90 l0_2 x52_3).f0))).setCell ⟨gb558, 1, none⟩ (.int .i64 ((rd_T90 l0_2 x52_3).f1))) = w47 at n0_ n1_ n2_ ⊢
               have BK551 := n0_
               have BK558 := n1_
               have HB := n2_
               clear n0_ n1_ n2_
               replace BK551 := wd BK551
               replace BK558 := wd BK558
               replace HB := mk (below_drew1 HB.out)
               refine start_ (n := 45) (S := fun w' => w'.cell? ⟨gb558, 0, none⟩ = some (.int .i64 ((rd_T90 l0_2 x52_3).f0)) ∧ w'.cell? ⟨gb558, 1, none⟩ = some (.int .i64 ((rd_T90 l0_2 x52_3).f1))) (ds := []) #[F_, F_, F_, F_, F_, F_, F_, F_, F_, F_, F_, F_, F_, F_, F_, F_, F_, F_, F_, F_, F_, F_, F_, F_, F_, F_, F_, F_, F_, F_, F_, F_, F_, F_, F_, F_, F_, F_, F_, F_, F_, F_, F_, F_, F_] (by kernel_rfl) rfl rfl ⟨(blk_cell BK558.out 0).trans rfl, (blk_cell BK558.out 1).trans rfl⟩ (fun hHeld => ?_); refine with_tabW impl_IsCracker.tab12 impl_IsCracker.bits12 (fun HT_ HW_ => ?_)
               generalize w47.drew = w48 at BK551 BK558 HB hHeld ⊢
               refine pu 0 57 (tf 1 44) ?_
               refine tk 1 58 (tf 2 43) hHeld ?_
               refine on 2 59 (tf 3 42) (fun K hK => ?_)
               refine gs Try.func68 #[.int .i64 ((rd_T90 l0_2 x52_3).f0)] ?_
               with_reducible refine (impl_bound.calls ((rd_T90 l0_2 x52_3).f0) true _ A44.out).mono ?_
               rintro e w' ⟨rfl, ⟨nd, rfl⟩⟩
               refine ⟨_, rfl, ?_⟩
               refine hK.out _ _ ⟨(blk_cell BK558.out 0).trans rfl, (blk_cell BK558.out 1).trans rfl⟩ (fun hHeld => ?_)
               clear hK K
               refine nm 59 ?_
               refine pu 3 60 (tf 4 41) ?_
               refine pu 4 61 (tf 5 40) ?_
               refine pu 5 62 (tf 6 39) ?_
               refine tk 6 63 (tf 7 38) hHeld ?_
               refine pu 7 64 (tf 8 37) ?_
               refine pu 8 65 (tf 9 36) ?_
               refine pu 9 66 (tf 10 35) ?_
               refine pn 10 67 (tf 11 34) ?_
               refine pn 11 68 (tf 12 33) ?_
               refine pn 12 69 (tf 13 32) ?_
               refine pn 13 70 (tf 14 31) ?_
               refine pn 14 71 (tf 15 30) ?_
               refine pn 15 72 (tf 16 29) ?_
               refine pu 16 73 (tf 17 28) ?_
               refine pu 17 74 (tf 18 27) ?_
               refine pn 18 75 (tf 19 26) ?_
               refine pn 19 76 (tf 20 25) ?_
               refine pn 20 77 (tf 21 24) ?_
               refine pn 21 78 (tf 22 23) ?_
               refine pn 22 79 (tf 23 22) ?_
               refine pn 23 80 (tf 24 21) ?_
               refine pn 24 81 (tf 25 20) ?_
               refine pn 25 82 (tf 26 19) ?_
               refine pn 26 83 (tf 27 18) ?_
               refine pn 27 84 (tf 28 17) ?_
               refine pn 28 85 (tf 29 16) ?_
               refine pn 29 86 (tf 30 15) ?_
               refine pn 30 87 (tf 31 14) ?_
               refine pn 31 88 (tf 32 13) ?_
               refine pn 32 89 (tf 33 12) ?_
               refine pn 33 90 (tf 34 11) ?_
               refine pn 34 91 (tf 35 10) ?_
               refine pn 35 92 (tf 36 9) ?_
               refine pn 36 93 (tf 37 8) ?_
               refine pn 37 94 (tf 38 7) ?_
               refine pn 38 95 (tf 39 6) ?_
               refine pn 39 96 (tf 40 5) ?_
               refine pn 40 97 (tf 41 4) ?_
               refine pn 41 98 (tf 42 3) ?_
               refine pn 42 99 (tf 43 2) ?_
               refine pn 43 100 (tf 44 1) ?_
               refine pu 44 101 (tf 45 0) ?_
               refine done_ (done_of HT_.out (by kernel_rfl)) ?_
               try go_wp2
               go_meet
               case rel => exact ⟨_, (true), (by first | rfl | (simp; done) | (simp [*]; done)), H', ⟨by have := HJ1.out; have := HK2.out; have := HK3.out; first | omega | exact Nat.le_refl _⟩, ⟨ub BK551.out⟩, ⟨ub BK558.out⟩, ⟨bl⟩⟩
              ·rw [if_neg c46] at H
               have c46b0 : decide (((rd_T90 l0_2 x52_3).f1) < 0) = false := decide_eq_false c46
               clear c46
               (first | rw [c46b0] | (simp only [i64_w, i32_w]; rw [c46b0]) | skip)
               by_cases c49 : ((rd_T90 l0_2 x52_3).f1) > (l0_0.length : Int)
               ·rw [if_pos c49] at H
                have c49b0 : decide ((l0_0.length : Int) < ((rd_T90 l0_2 x52_3).f1)) = true := decide_eq_true c49
                clear c49
                have H' := Aside0.mk H
                clear H
                try go_wp2
                have n0_ : Aside0 (((w41.setCell ⟨gb558, 0, none⟩ (.int .i64 ((rd_T90 l0_2 x52_3).f0))).setCell ⟨gb558, 1, none⟩ (.int .i64 ((rd_T90 l0_2 x52_3).f1))).heap[gb551]? = some (.cells #[.slice A0_0 l0_0.length c0_0, .slice A0_1 l0_1.length c0_1, .slice (some ad557) l0_2.length c0_2] 45 (0, 0))) := ⟨bq⟩
                have n1_ : Aside0 (((w41.setCell ⟨gb558, 0, none⟩ (.int .i64 ((rd_T90 l0_2 x52_3).f0))).setCell ⟨gb558, 1, none⟩ (.int .i64 ((rd_T90 l0_2 x52_3).f1))).heap[gb558]? = some (.cells #[.int .i64 ((rd_T90 l0_2 x52_3).f0), .int .i64 ((rd_T90 l0_2 x52_3).f1)] 90 (0, 0))) := ⟨bq⟩
                have n2_ : Aside0 (Below w.heap.size w ((w41.setCell ⟨gb558, 0, none⟩ (.int .i64 ((rd_T90 l0_2 x52_3).f0))).setCell ⟨gb558, 1, none⟩ (.int .i64 ((rd_T90 l0_2 x52_3).f1)))) := ⟨bl⟩
                (try clear BK551)
                (try clear BK558)
                (try clear HB)
                generalize ((w41.setCell ⟨gb558, 0, none⟩ (.int .i64 ((rd_T90 l0_2 x52_3).f0))).setCell ⟨gb558, 1, none⟩ (.int .i64 ((rd_T90 l0_2 x52_3).f1))) = w50 at n0_ n1_ n2_ ⊢
                have BK551 := n0_
                have BK558 := n1_
                have HB := n2_
                clear n0_ n1_ n2_
                replace BK551 := wd BK551
                replace BK558 := wd BK558
                replace HB := mk (below_drew1 HB.out)
                refine start_ (n := 45) (S := fun w' => w'.cell? ⟨gb558, 0, none⟩ = some (.int .i64 ((rd_T90 l0_2 x52_3).f0)) ∧ w'.cell? ⟨gb558, 1, none⟩ = some (.int .i64 ((rd_T90 l0_2 x52_3).f1)) ∧ w'.cell? ⟨gb551, 0, none⟩ = some (.slice A0_0 l0_0.length c0_0) ∧ w'.cell? ⟨gb551, 1, none⟩ = some (.slice A0_1 l0_1.length c0_1) ∧ w'.cell? ⟨gb551, 2, none⟩ = some (.slice (some ad557) l0_2.length c0_2)) (ds := []) #[F_, F_, F_, F_, F_, F_, F_, F_, F_, F_, F_, F_, F_, F_, F_, F_, F_, F_, F_, F_, F_, F_, F_, F_, F_, F_, F_, F_, F_, F_, F_, F_, F_, F_, F_, F_, F_, F_, F_, F_, F_, F_, F_, F_, F_] (by kernel_rfl) rfl rfl ⟨(blk_cell BK558.out 0).trans rfl, (blk_cell BK558.out 1).trans rfl, (blk_cell BK551.out 0).trans rfl, (blk_cell BK551.out 1).trans rfl, (blk_cell BK551.out 2).trans rfl⟩ (fun hHeld => ?_); refine with_tabW impl_IsCracker.tab12 impl_IsCracker.bits12 (fun HT_ HW_ => ?_)
                generalize w50.drew = w51 at BK551 BK558 HB hHeld ⊢
                refine pu 0 57 (tf 1 44) ?_
                refine tk 1 58 (tf 2 43) hHeld ?_
                refine on 2 59 (tf 3 42) (fun K hK => ?_)
                refine gs Try.func68 #[.int .i64 ((rd_T90 l0_2 x52_3).f0)] ?_
                with_reducible refine (impl_bound.calls ((rd_T90 l0_2 x52_3).f0) true _ A44.out).mono ?_
                rintro e w' ⟨rfl, ⟨nd, rfl⟩⟩
                refine ⟨_, rfl, ?_⟩
                refine hK.out _ _ ⟨(blk_cell BK558.out 0).trans rfl, (blk_cell BK558.out 1).trans rfl, (blk_cell BK551.out 0).trans rfl, (blk_cell BK551.out 1).trans rfl, (blk_cell BK551.out 2).trans rfl⟩ (fun hHeld => ?_)
                clear hK K
                refine nm 59 ?_
                refine pu 3 60 (tf 4 41) ?_
                refine pu 4 61 (tf 5 40) ?_
                refine pu 5 62 (tf 6 39) ?_
                refine tk 6 63 (tf 7 38) hHeld ?_
                refine pu 7 64 (tf 8 37) ?_
                refine pu 8 65 (tf 9 36) ?_
                refine pu 9 66 (tf 10 35) ?_
                refine pu 10 67 (tf 11 34) ?_
                refine pu 12 69 #[T_,T_,T_,T_,T_,T_,T_,T_,T_,T_,T_,F_,T_,F_,F_,F_,F_,F_,F_,F_,F_,F_,F_,F_,F_,F_,F_,F_,F_,F_,F_,F_,F_,F_,F_,F_,F_,F_,F_,F_,F_,F_,F_,F_,F_] ?_
                refine tk 11 68 (tf 13 32) hHeld ?_
                refine tk 13 70 (tf 14 31) hHeld ?_
                refine pu 14 71 (tf 15 30) ?_
                refine pu 15 72 (tf 16 29) ?_
                refine pu 16 73 (tf 17 28) ?_
                refine pu 17 74 (tf 18 27) ?_
                refine pn 18 75 (tf 19 26) ?_
                refine pn 19 76 (tf 20 25) ?_
                refine pn 20 77 (tf 21 24) ?_
                refine pn 21 78 (tf 22 23) ?_
                refine pn 22 79 (tf 23 22) ?_
                refine pn 23 80 (tf 24 21) ?_
                refine pn 24 81 (tf 25 20) ?_
                refine pn 25 82 (tf 26 19) ?_
                refine pn 26 83 (tf 27 18) ?_
                refine pn 27 84 (tf 28 17) ?_
                refine pn 28 85 (tf 29 16) ?_
                refine pn 29 86 (tf 30 15) ?_
                refine pn 30 87 (tf 31 14) ?_
                refine pn 31 88 (tf 32 13) ?_
                refine pn 32 89 (tf 33 12) ?_
                refine pn 33 90 (tf 34 11) ?_
                refine pn 34 91 (tf 35 10) ?_
                refine pn 35 92 (tf 36 9) ?_
                refine pn 36 93 (tf 37 8) ?_
                refine pn 37 94 (tf 38 7) ?_
                refine pn 38 95 (tf 39 6) ?_
                refine pn 39 96 (tf 40 5) ?_
                refine pn 40 97 (tf 41 4) ?_
                refine pn 41 98 (tf 42 3) ?_
                refine pn 42 99 (tf 43 2) ?_
                refine pn 43 100 (tf 44 1) ?_
                refine pu 44 101 (tf 45 0) ?_
                refine done_ (done_of HT_.out (by kernel_rfl)) ?_
                try go_wp2
                go_meet
                case rel => exact ⟨_, (true), (by first | rfl | (simp; done) | (simp [*]; done)), H', ⟨by have := HJ1.out; have := HK2.out; have := HK3.out; first | omega | exact Nat.le_refl _⟩, ⟨ub BK551.out⟩, ⟨ub BK558.out⟩, ⟨bl⟩⟩
               ·rw [if_neg c49] at H
                have c49b0 : decide ((l0_0.length : Int) < ((rd_T90 l0_2 x52_3).f1)) = false := decide_eq_false c49
                clear c49
                by_cases c52 : x52_3 > 0
                ·rw [if_pos c52] at H
                 have c52b0 : decide (0 < x52_3) = true := decide_eq_true c52
                 clear c52
                 obtain ⟨ji53, hji53⟩ : ∃ j_ : Int, (wrap64 (x52_3 - 1)) = j_ := ⟨_, rfl⟩
                 replace H : (if 0 ≤ (ji53) then (if (ji53) < (l0_2.length : Int) then (if ((rd_T90 l0_2 x52_3).f0) ≤ ((rd_T90 l0_2 (ji53)).f0) then (impl_IsCracker.j3 k3 l0_2 (l0_2.length : Int) x52_3 true l0_0 l0_1 l0_2 ((rd_T90 l0_2 x52_3).f0) ((rd_T90 l0_2 x52_3).f1)) else (impl_IsCracker.j3 k3 l0_2 (l0_2.length : Int) x52_3 (decide (((rd_T90 l0_2 x52_3).f1) < ((rd_T90 l0_2 (ji53)).f1))) l0_0 l0_1 l0_2 ((rd_T90 l0_2 x52_3).f0) ((rd_T90 l0_2 x52_3).f1))) else (none)) else (none)) = some r := by first | (rw [hji53] at H; exact H) | (simp only [hji53] at H ⊢; exact H)
                 (try rw [hji53] at A44)
                 have hji53w : (IntKind.i64.wrap (x52_3 - 1)) = ji53 := (i64_w _).trans hji53
                 by_cases c54 : 0 ≤ (ji53)
                 ·rw [if_pos c54] at H
                  have c54b0 : decide (0 ≤ (ji53)) = true := decide_eq_true c54
                  clear c54
                  by_cases c55 : (ji53) < (l0_2.length : Int)
                  ·rw [if_pos c55] at H
                   have c55b0 : decide ((ji53) < (l0_2.length : Int)) = true := decide_eq_true c55
                   clear c55
                   by_cases c56 : ((rd_T90 l0_2 x52_3).f0) ≤ ((rd_T90 l0_2 (ji53)).f0)
                   ·rw [if_pos c56] at H
                    have c56b0 : decide (((rd_T90 l0_2 x52_3).f0) ≤ ((rd_T90 l0_2 (ji53)).f0)) = true := decide_eq_true c56
                    clear c56
                    have H' := Aside0.mk H
                    clear H
                    try go_wp2
                    have n0_ : Aside0 (((w41.setCell ⟨gb558, 0, none⟩ (.int .i64 ((rd_T90 l0_2 x52_3).f0))).setCell ⟨gb558, 1, none⟩ (.int .i64 ((rd_T90 l0_2 x52_3).f1))).heap[gb551]? = some (.cells #[.slice A0_0 l0_0.length c0_0, .slice A0_1 l0_1.length c0_1, .slice (some ad557) l0_2.length c0_2] 45 (0, 0))) := ⟨bq⟩
                    have n1_ : Aside0 (((w41.setCell ⟨gb558, 0, none⟩ (.int .i64 ((rd_T90 l0_2 x52_3).f0))).setCell ⟨gb558, 1, none⟩ (.int .i64 ((rd_T90 l0_2 x52_3).f1))).heap[gb558]? = some (.cells #[.int .i64 ((rd_T90 l0_2 x52_3).f0), .int .i64 ((rd_T90 l0_2 x52_3).f1)] 90 (0, 0))) := ⟨bq⟩
                    have n2_ : Aside0 (Below w.heap.size w ((w41.setCell ⟨gb558, 0, none⟩ (.int .i64 ((rd_T90 l0_2 x52_3).f0))).setCell ⟨gb558, 1, none⟩ (.int .i64 ((rd_T90 l0_2 x52_3).f1)))) := ⟨bl⟩
                    (try clear BK551)
                    (try clear BK558)
                    (try clear HB)
                    generalize ((w41.setCell ⟨gb558, 0, none⟩ (.int .i64 ((rd_T90 l0_2 x52_3).f0))).setCell ⟨gb558, 1, none⟩ (.int .i64 ((rd_T90 l0_2 x52_3).f1))) = w57 at n0_ n1_ n2_ ⊢
                    have BK551 := n0_
                    have BK558 := n1_
                    have HB := n2_
                    clear n0_ n1_ n2_
                    replace BK551 := wd BK551
                    replace BK558 := wd BK558
                    replace HB := mk (below_drew1 HB.out)
                    have p560 : 0 ≤ ((ji53) : Int) := of_decide_eq_true (by first | (with_reducible assumption) | assumption)
                    have q560 : (ji53) < (l0_2.length : Int) := of_decide_eq_true (by first | (with_reducible assumption) | assumption)
                    obtain ⟨ad560, e560, hx560_0, hx560_1⟩ := at_T90 HR0_2.out (ji53) p560 q560
                    have hw560_1 := hx560_1
                    have hw560_0 := hx560_0
                    obtain rfl : ad557 = ad560 := (by injection e560)
                    replace hx560_0 := (HB.out.cell (World.block_lt_of_cell? w _ hx560_0)).trans hx560_0
                    replace hx560_1 := (HB.out.cell (World.block_lt_of_cell? w _ hx560_1)).trans hx560_1
                    replace p560 := eq_true p560
                    replace q560 := eq_true q560
                    refine start_ (n := 45) (S := fun w' => w'.cell? ⟨gb558, 0, none⟩ = some (.int .i64 ((rd_T90 l0_2 x52_3).f0)) ∧ w'.cell? ⟨gb558, 1, none⟩ = some (.int .i64 ((rd_T90 l0_2 x52_3).f1)) ∧ w'.cell? ⟨gb551, 0, none⟩ = some (.slice A0_0 l0_0.length c0_0) ∧ w'.cell? ⟨gb551, 1, none⟩ = some (.slice A0_1 l0_1.length c0_1) ∧ w'.cell? ⟨gb551, 2, none⟩ = some (.slice (some ad557) l0_2.length c0_2) ∧ w'.cell? (ad557.add (((ji53)).toNat * 2)) = some (.int .i64 ((rd_T90 l0_2 (ji53)).f0)) ∧ w'.cell? ⟨(ad557.add (((ji53)).toNat * 2)).block, (ad557.add (((ji53)).toNat * 2)).off + 1, none⟩ = some (.int .i64 ((rd_T90 l0_2 (ji53)).f1))) (ds := []) #[F_, F_, F_, F_, F_, F_, F_, F_, F_, F_, F_, F_, F_, F_, F_, F_, F_, F_, F_, F_, F_, F_, F_, F_, F_, F_, F_, F_, F_, F_, F_, F_, F_, F_, F_, F_, F_, F_, F_, F_, F_, F_, F_, F_, F_] (by kernel_rfl) rfl rfl ⟨(blk_cell BK558.out 0).trans rfl, (blk_cell BK558.out 1).trans rfl, (blk_cell BK551.out 0).trans rfl, (blk_cell BK551.out 1).trans rfl, (blk_cell BK551.out 2).trans rfl, ((HB.out.cell (World.block_lt_of_cell? w _ hw560_0)).trans hw560_0), ((HB.out.cell (World.block_lt_of_cell? w _ hw560_1)).trans hw560_1)⟩ (fun hHeld => ?_); refine with_tabW impl_IsCracker.tab12 impl_IsCracker.bits12 (fun HT_ HW_ => ?_)
                    generalize w57.drew = w58 at BK551 BK558 HB hx560_0 hx560_1 hHeld ⊢
                    refine pu 0 57 (tf 1 44) ?_
                    refine tk 1 58 (tf 2 43) hHeld ?_
                    refine on 2 59 (tf 3 42) (fun K hK => ?_)
                    refine gs Try.func68 #[.int .i64 ((rd_T90 l0_2 x52_3).f0)] ?_
                    with_reducible refine (impl_bound.calls ((rd_T90 l0_2 x52_3).f0) true _ A44.out).mono ?_
                    rintro e w' ⟨rfl, ⟨nd, rfl⟩⟩
                    refine ⟨_, rfl, ?_⟩
                    refine hK.out _ _ ⟨(blk_cell BK558.out 0).trans rfl, (blk_cell BK558.out 1).trans rfl, (blk_cell BK551.out 0).trans rfl, (blk_cell BK551.out 1).trans rfl, (blk_cell BK551.out 2).trans rfl, ((HB.out.cell (World.block_lt_of_cell? w _ hw560_0)).trans hw560_0), ((HB.out.cell (World.block_lt_of_cell? w _ hw560_1)).trans hw560_1)⟩ (fun hHeld => ?_)
                    clear hK K
                    refine nm 59 ?_
                    refine pu 3 60 (tf 4 41) ?_
                    refine pu 4 61 (tf 5 40) ?_
                    refine pu 5 62 (tf 6 39) ?_
                    refine tk 6 63 (tf 7 38) hHeld ?_
                    refine pu 7 64 (tf 8 37) ?_
                    refine pu 8 65 (tf 9 36) ?_
                    refine pu 9 66 (tf 10 35) ?_
                    refine pu 10 67 (tf 11 34) ?_
                    refine pu 12 69 #[T_,T_,T_,T_,T_,T_,T_,T_,T_,T_,T_,F_,T_,F_,F_,F_,F_,F_,F_,F_,F_,F_,F_,F_,F_,F_,F_,F_,F_,F_,F_,F_,F_,F_,F_,F_,F_,F_,F_,F_,F_,F_,F_,F_,F_] ?_
                    refine tk 11 68 (tf 13 32) hHeld ?_
                    refine tk 13 70 (tf 14 31) hHeld ?_
                    refine pu 14 71 (tf 15 30) ?_
                    refine pu 15 72 (tf 16 29) ?_
                    refine pu 16 73 (tf 17 28) ?_
                    refine pu 17 74 (tf 18 27) ?_
                    refine pu 18 75 (tf 19 26) ?_
                    refine pu 19 76 (tf 20 25) ?_
                    refine pu 20 77 (tf 21 24) ?_
                    refine pu 21 78 (tf 22 23) ?_
                    refine pu 23 80 #[T_,T_,T_,T_,T_,T_,T_,T_,T_,T_,T_,T_,T_,T_,T_,T_,T_,T_,T_,T_,T_,T_,F_,T_,F_,F_,F_,F_,F_,F_,F_,F_,F_,F_,F_,F_,F_,F_,F_,F_,F_,F_,F_,F_,F_] ?_
                    refine pu 25 82 #[T_,T_,T_,T_,T_,T_,T_,T_,T_,T_,T_,T_,T_,T_,T_,T_,T_,T_,T_,T_,T_,T_,F_,T_,F_,T_,F_,F_,F_,F_,F_,F_,F_,F_,F_,F_,F_,F_,F_,F_,F_,F_,F_,F_,F_] ?_
                    refine pu 26 83 #[T_,T_,T_,T_,T_,T_,T_,T_,T_,T_,T_,T_,T_,T_,T_,T_,T_,T_,T_,T_,T_,T_,F_,T_,F_,T_,T_,F_,F_,F_,F_,F_,F_,F_,F_,F_,F_,F_,F_,F_,F_,F_,F_,F_,F_] ?_
                    refine tk 22 79 #[T_,T_,T_,T_,T_,T_,T_,T_,T_,T_,T_,T_,T_,T_,T_,T_,T_,T_,T_,T_,T_,T_,T_,T_,F_,T_,T_,F_,F_,F_,F_,F_,F_,F_,F_,F_,F_,F_,F_,F_,F_,F_,F_,F_,F_] hHeld ?_
                    refine tk 24 81 (tf 27 18) hHeld ?_
                    refine pu 27 84 (tf 28 17) ?_
                    refine pu 28 85 (tf 29 16) ?_
                    refine tk 29 86 (tf 30 15) hHeld ?_
                    refine pu 30 87 (tf 31 14) ?_
                    refine pu 31 88 (tf 32 13) ?_
                    refine pn 32 89 (tf 33 12) ?_
                    refine pn 33 90 (tf 34 11) ?_
                    refine pn 34 91 (tf 35 10) ?_
                    refine pn 35 92 (tf 36 9) ?_
                    refine pn 36 93 (tf 37 8) ?_
                    refine pn 37 94 (tf 38 7) ?_
                    refine pn 38 95 (tf 39 6) ?_
                    refine pn 39 96 (tf 40 5) ?_
                    refine pn 40 97 (tf 41 4) ?_
                    refine pn 41 98 (tf 42 3) ?_
                    refine pu 42 99 (tf 43 2) ?_
                    refine pu 43 100 (tf 44 1) ?_
                    refine pu 44 101 (tf 45 0) ?_
                    refine done_ (done_of HT_.out (by kernel_rfl)) ?_
                    try go_wp2
                    go_meet
                    case rel => exact ⟨_, (true), (by first | rfl | (simp; done) | (simp [*]; done)), H', ⟨by have := HJ1.out; have := HK2.out; have := HK3.out; first | omega | exact Nat.le_refl _⟩, ⟨ub BK551.out⟩, ⟨ub BK558.out⟩, ⟨bl⟩⟩
                   ·rw [if_neg c56] at H
                    have c56b0 : decide (((rd_T90 l0_2 x52_3).f0) ≤ ((rd_T90 l0_2 (ji53)).f0)) = false := decide_eq_false c56
                    clear c56
                    have H' := Aside0.mk H
                    clear H
                    try go_wp2
                    have n0_ : Aside0 (((w41.setCell ⟨gb558, 0, none⟩ (.int .i64 ((rd_T90 l0_2 x52_3).f0))).setCell ⟨gb558, 1, none⟩ (.int .i64 ((rd_T90 l0_2 x52_3).f1))).heap[gb551]? = some (.cells #[.slice A0_0 l0_0.length c0_0, .slice A0_1 l0_1.length c0_1, .slice (some ad557) l0_2.length c0_2] 45 (0, 0))) := ⟨bq⟩
                    have n1_ : Aside0 (((w41.setCell ⟨gb558, 0, none⟩ (.int .i64 ((rd_T90 l0_2 x52_3).f0))).setCell ⟨gb558, 1, none⟩ (.int .i64 ((rd_T90 l0_2 x52_3).f1))).heap[gb558]? = some (.cells #[.int .i64 ((rd_T90 l0_2 x52_3).f0), .int .i64 ((rd_T90 l0_2 x52_3).f1)] 90 (0, 0))) := ⟨bq⟩
                    have n2_ : Aside0 (Below w.heap.size w ((w41.setCell ⟨gb558, 0, none⟩ (.int .i64 ((rd_T90 l0_2 x52_3).f0))).setCell ⟨gb558, 1, none⟩ (.int .i64 ((rd_T90 l0_2 x52_3).f1)))) := ⟨bl⟩
                    (try clear BK551)
                    (try clear BK558)
                    (try clear HB)
                    generalize ((w41.setCell ⟨gb558, 0, none⟩ (.int .i64 ((rd_T90 l0_2 x52_3).f0))).setCell ⟨gb558, 1, none⟩ (.int .i64 ((rd_T90 l0_2 x52_3).f1))) = w59 at n0_ n1_ n2_ ⊢
                    have BK551 := n0_
                    have BK558 := n1_
                    have HB := n2_
                    clear n0_ n1_ n2_
                    replace BK551 := wd BK551
                    replace BK558 := wd BK558
                    replace HB := mk (below_drew1 HB.out)
                    have p560 : 0 ≤ ((ji53) : Int) := of_decide_eq_true (by first | (with_reducible assumption) | assumption)
                    have q560 : (ji53) < (l0_2.length : Int) := of_decide_eq_true (by first | (with_reducible assumption) | assumption)
                    obtain ⟨ad560, e560, hx560_0, hx560_1⟩ := at_T90 HR0_2.out (ji53) p560 q560
                    have hw560_1 := hx560_1
                    have hw560_0 := hx560_0
                    obtain rfl : ad557 = ad560 := (by injection e560)
                    replace hx560_0 := (HB.out.cell (World.block_lt_of_cell? w _ hx560_0)).trans hx560_0
                    replace hx560_1 := (HB.out.cell (World.block_lt_of_cell? w _ hx560_1)).trans hx560_1
                    replace p560 := eq_true p560
                    replace q560 := eq_true q560
                    have p561 : 0 ≤ ((ji53) : Int) := of_decide_eq_true (by first | (with_reducible assumption) | assumption)
                    have q561 : (ji53) < (l0_2.length : Int) := of_decide_eq_true (by first | (with_reducible assumption) | assumption)
                    obtain ⟨ad561, e561, hx561_0, hx561_1⟩ := at_T90 HR0_2.out (ji53) p561 q561
                    have hw561_1 := hx561_1
                    have hw561_0 := hx561_0
                    obtain rfl : ad557 = ad561 := (by injection e561)
                    replace hx561_0 := (HB.out.cell (World.block_lt_of_cell? w _ hx561_0)).trans hx561_0
                    replace hx561_1 := (HB.out.cell (World.block_lt_of_cell? w _ hx561_1)).trans hx561_1
                    replace p561 := eq_true p561
                    replace q561 := eq_true q561
                    refine start_ (n := 45) (S := fun w' => w'.cell? ⟨gb558, 0, none⟩ = some (.int .i64 ((rd_T90 l0_2 x52_3).f0)) ∧ w'.cell? ⟨gb558, 1, none⟩ = some (.int .i64 ((rd_T90 l0_2 x52_3).f1)) ∧ w'.cell? ⟨gb551, 0, none⟩ = some (.slice A0_0 l0_0.length c0_0) ∧ w'.cell? ⟨gb551, 1, none⟩ = some (.slice A0_1 l0_1.length c0_1) ∧ w'.cell? ⟨gb551, 2, none⟩ = some (.slice (some ad557) l0_2.length c0_2) ∧ w'.cell? (ad557.add (((ji53)).toNat * 2)) = some (.int .i64 ((rd_T90 l0_2 (ji53)).f0)) ∧ w'.cell? ⟨(ad557.add (((ji53)).toNat * 2)).block, (ad557.add (((ji53)).toNat * 2)).off + 1, none⟩ = some (.int .i64 ((rd_T90 l0_2 (ji53)).f1)) ∧ w'.cell? (ad557.add (((ji53)).toNat * 2)) = some (.int .i64 ((rd_T90 l0_2 (ji53)).f0)) ∧ w'.cell? ⟨(ad557.add (((ji53)).toNat * 2)).block, (ad557.add (((ji53)).toNat * 2)).off + 1, none⟩ = some (.int .i64 ((rd_T90 l0_2 (ji53)).f1))) (ds := []) #[F_, F_, F_, F_, F_, F_, F_, F_, F_, F_, F_, F_, F_, F_, F_, F_, F_, F_, F_, F_, F_, F_, F_, F_, F_, F_, F_, F_, F_, F_, F_, F_, F_, F_, F_, F_, F_, F_, F_, F_, F_, F_, F_, F_, F_] (by kernel_rfl) rfl rfl ⟨(blk_cell BK558.out 0).trans rfl, (blk_cell BK558.out 1).trans rfl, (blk_cell BK551.out 0).trans rfl, (blk_cell BK551.out 1).trans rfl, (blk_cell BK551.out 2).trans rfl, ((HB.out.cell (World.block_lt_of_cell? w _ hw560_0)).trans hw560_0), ((HB.out.cell (World.block_lt_of_cell? w _ hw560_1)).trans hw560_1), ((HB.out.cell (World.block_lt_of_cell? w _ hw561_0)).trans hw561_0), ((HB.out.cell (World.block_lt_of_cell? w _ hw561_1)).trans hw561_1)⟩ (fun hHeld => ?_); refine with_tabW impl_IsCracker.tab12 impl_IsCracker.bits12 (fun HT_ HW_ => ?_)
                    generalize w59.drew = w60 at BK551 BK558 HB hx560_0 hx560_1 hx561_0 hx561_1 hHeld ⊢
                    refine pu 0 57 (tf 1 44) ?_
                    refine tk 1 58 (tf 2 43) hHeld ?_
                    refine on 2 59 (tf 3 42) (fun K hK => ?_)
                    refine gs Try.func68 #[.int .i64 ((rd_T90 l0_2 x52_3).f0)] ?_
                    with_reducible refine (impl_bound.calls ((rd_T90 l0_2 x52_3).f0) true _ A44.out).mono ?_
                    rintro e w' ⟨rfl, ⟨nd, rfl⟩⟩
                    refine ⟨_, rfl, ?_⟩
                    refine hK.out _ _ ⟨(blk_cell BK558.out 0).trans rfl, (blk_cell BK558.out 1).trans rfl, (blk_cell BK551.out 0).trans rfl, (blk_cell BK551.out 1).trans rfl, (blk_cell BK551.out 2).trans rfl, ((HB.out.cell (World.block_lt_of_cell? w _ hw560_0)).trans hw560_0), ((HB.out.cell (World.block_lt_of_cell? w _ hw560_1)).trans hw560_1), ((HB.out.cell (World.block_lt_of_cell? w _ hw561_0)).trans hw561_0), ((HB.out.cell (World.block_lt_of_cell? w _ hw561_1)).trans hw561_1)⟩ (fun hHeld => ?_)
                    clear hK K
                    refine nm 59 ?_
                    refine pu 3 60 (tf 4 41) ?_
                    refine pu 4 61 (tf 5 40) ?_
                    refine pu 5 62 (tf 6 39) ?_
                    refine tk 6 63 (tf 7 38) hHeld ?_
                    refine pu 7 64 (tf 8 37) ?_
                    refine pu 8 65 (tf 9 36) ?_
                    refine pu 9 66 (tf 10 35) ?_
                    refine pu 10 67 (tf 11 34) ?_
                    refine pu 12 69 #[T_,T_,T_,T_,T_,T_,T_,T_,T_,T_,T_,F_,T_,F_,F_,F_,F_,F_,F_,F_,F_,F_,F_,F_,F_,F_,F_,F_,F_,F_,F_,F_,F_,F_,F_,F_,F_,F_,F_,F_,F_,F_,F_,F_,F_] ?_
                    refine tk 11 68 (tf 13 32) hHeld ?_
                    refine tk 13 70 (tf 14 31) hHeld ?_
                    refine pu 14 71 (tf 15 30) ?_
                    refine pu 15 72 (tf 16 29) ?_
                    refine pu 16 73 (tf 17 28) ?_
                    refine pu 17 74 (tf 18 27) ?_
                    refine pu 18 75 (tf 19 26) ?_
                    refine pu 19 76 (tf 20 25) ?_
                    refine pu 20 77 (tf 21 24) ?_
                    refine pu 21 78 (tf 22 23) ?_
                    refine pu 23 80 #[T_,T_,T_,T_,T_,T_,T_,T_,T_,T_,T_,T_,T_,T_,T_,T_,T_,T_,T_,T_,T_,T_,F_,T_,F_,F_,F_,F_,F_,F_,F_,F_,F_,F_,F_,F_,F_,F_,F_,F_,F_,F_,F_,F_,F_] ?_
                    refine pu 25 82 #[T_,T_,T_,T_,T_,T_,T_,T_,T_,T_,T_,T_,T_,T_,T_,T_,T_,T_,T_,T_,T_,T_,F_,T_,F_,T_,F_,F_,F_,F_,F_,F_,F_,F_,F_,F_,F_,F_,F_,F_,F_,F_,F_,F_,F_] ?_
                    refine pu 26 83 #[T_,T_,T_,T_,T_,T_,T_,T_,T_,T_,T_,T_,T_,T_,T_,T_,T_,T_,T_,T_,T_,T_,F_,T_,F_,T_,T_,F_,F_,F_,F_,F_,F_,F_,F_,F_,F_,F_,F_,F_,F_,F_,F_,F_,F_] ?_
                    refine tk 22 79 #[T_,T_,T_,T_,T_,T_,T_,T_,T_,T_,T_,T_,T_,T_,T_,T_,T_,T_,T_,T_,T_,T_,T_,T_,F_,T_,T_,F_,F_,F_,F_,F_,F_,F_,F_,F_,F_,F_,F_,F_,F_,F_,F_,F_,F_] hHeld ?_
                    refine tk 24 81 (tf 27 18) hHeld ?_
                    refine pu 27 84 (tf 28 17) ?_
                    refine pu 28 85 (tf 29 16) ?_
                    refine tk 29 86 (tf 30 15) hHeld ?_
                    refine pu 30 87 (tf 31 14) ?_
                    refine pu 31 88 (tf 32 13) ?_
                    refine pu 32 89 (tf 33 12) ?_
                    refine pu 34 91 #[T_,T_,T_,T_,T_,T_,T_,T_,T_,T_,T_,T_,T_,T_,T_,T_,T_,T_,T_,T_,T_,T_,T_,T_,T_,T_,T_,T_,T_,T_,T_,T_,T_,F_,T_,F_,F_,F_,F_,F_,F_,F_,F_,F_,F_] ?_
                    refine pu 36 93 #[T_,T_,T_,T_,T_,T_,T_,T_,T_,T_,T_,T_,T_,T_,T_,T_,T_,T_,T_,T_,T_,T_,T_,T_,T_,T_,T_,T_,T_,T_,T_,T_,T_,F_,T_,F_,T_,F_,F_,F_,F_,F_,F_,F_,F_] ?_
                    refine pu 37 94 #[T_,T_,T_,T_,T_,T_,T_,T_,T_,T_,T_,T_,T_,T_,T_,T_,T_,T_,T_,T_,T_,T_,T_,T_,T_,T_,T_,T_,T_,T_,T_,T_,T_,F_,T_,F_,T_,T_,F_,F_,F_,F_,F_,F_,F_] ?_
                    refine tk 33 90 #[T_,T_,T_,T_,T_,T_,T_,T_,T_,T_,T_,T_,T_,T_,T_,T_,T_,T_,T_,T_,T_,T_,T_,T_,T_,T_,T_,T_,T_,T_,T_,T_,T_,T_,T_,F_,T_,T_,F_,F_,F_,F_,F_,F_,F_] hHeld ?_
                    refine tk 35 92 (tf 38 7) hHeld ?_
                    refine pu 38 95 (tf 39 6) ?_
                    refine pu 39 96 (tf 40 5) ?_
                    refine tk 40 97 (tf 41 4) hHeld ?_
                    refine pu 41 98 (tf 42 3) ?_
                    refine pu 42 99 (tf 43 2) ?_
                    refine pu 43 100 (tf 44 1) ?_
                    refine pu 44 101 (tf 45 0) ?_
                    refine done_ (done_of HT_.out (by kernel_rfl)) ?_
                    try go_wp2
                    go_meet
                    case rel => exact ⟨_, (decide (((rd_T90 l0_2 x52_3).f1) < ((rd_T90 l0_2 (ji53)).f1))), (by first | rfl | (simp; done) | (simp only [← hji53] <;> (first | rfl | simp)) | (simp [*]; done)), H', ⟨by have := HJ1.out; have := HK2.out; have := HK3.out; first | omega | exact Nat.le_refl _⟩, ⟨ub BK551.out⟩, ⟨ub BK558.out⟩, ⟨bl⟩⟩
                  ·rw [if_neg c55] at H
                   exact absurd H (by simp)
                 ·rw [if_neg c54] at H
                  exact absurd H (by simp)
                ·rw [if_neg c52] at H
                 have c52b0 : decide (0 < x52_3) = false := decide_eq_false c52
                 clear c52
                 have H' := Aside0.mk H
                 clear H
                 try go_wp2
                 have n0_ : Aside0 (((w41.setCell ⟨gb558, 0, none⟩ (.int .i64 ((rd_T90 l0_2 x52_3).f0))).setCell ⟨gb558, 1, none⟩ (.int .i64 ((rd_T90 l0_2 x52_3).f1))).heap[gb551]? = some (.cells #[.slice A0_0 l0_0.length c0_0, .slice A0_1 l0_1.length c0_1, .slice (some ad557) l0_2.length c0_2] 45 (0, 0))) := ⟨bq⟩
                 have n1_ : Aside0 (((w41.setCell ⟨gb558, 0, none⟩ (.int .i64 ((rd_T90 l0_2 x52_3).f0))).setCell ⟨gb558, 1, none⟩ (.int .i64 ((rd_T90 l0_2 x52_3).f1))).heap[gb558]? = some (.cells #[.int .i64 ((rd_T90 l0_2 x52_3).f0), .int .i64 ((rd_T90 l0_2 x52_3).f1)] 90 (0, 0))) := ⟨bq⟩
                 have n2_ : Aside0 (Below w.heap.size w ((w41.setCell ⟨gb558, 0, none⟩ (.int .i64 ((rd_T90 l0_2 x52_3).f0))).setCell ⟨gb558, 1, none⟩ (.int .i64 ((rd_T90 l0_2 x52_3).f1)))) := ⟨bl⟩
                 (try clear BK551)
                 (try clear BK558)
                 (try clear HB)
                 generalize ((w41.setCell ⟨gb558, 0, none⟩ (.int .i64 ((rd_T90 l0_2 x52_3).f0))).setCell ⟨gb558, 1, none⟩ (.int .i64 ((rd_T90 l0_2 x52_3).f1))) = w61 at n0_ n1_ n2_ ⊢
                 have BK551 := n0_
                 have BK558 := n1_
                 have HB := n2_
                 clear n0_ n1_ n2_
                 replace BK551 := wd BK551
                 replace BK558 := wd BK558
                 replace HB := mk (below_drew1 HB.out)
                 refine start_ (n := 45) (S := fun w' => w'.cell? ⟨gb558, 0, none⟩ = some (.int .i64 ((rd_T90 l0_2 x52_3).f0)) ∧ w'.cell? ⟨gb558, 1, none⟩ = some (.int .i64 ((rd_T90 l0_2 x52_3).f1)) ∧ w'.cell? ⟨gb551, 0, none⟩ = some (.slice A0_0 l0_0.length c0_0) ∧ w'.cell? ⟨gb551, 1, none⟩ = some (.slice A0_1 l0_1.length c0_1) ∧ w'.cell? ⟨gb551, 2, none⟩ = some (.slice (some ad557) l0_2.length c0_2)) (ds := []) #[F_, F_, F_, F_, F_, F_, F_, F_, F_, F_, F_, F_, F_, F_, F_, F_, F_, F_, F_, F_, F_, F_, F_, F_, F_, F_, F_, F_, F_, F_, F_, F_, F_, F_, F_, F_, F_, F_, F_, F_, F_, F_, F_, F_, F_] (by kernel_rfl) rfl rfl ⟨(blk_cell BK558.out 0).trans rfl, (blk_cell BK558.out 1).trans rfl, (blk_cell BK551.out 0).trans rfl, (blk_cell BK551.out 1).trans rfl, (blk_cell BK551.out 2).trans rfl⟩ (fun hHeld => ?_); refine with_tabW impl_IsCracker.tab12 impl_IsCracker.bits12 (fun HT_ HW_ => ?_)
                 generalize w61.drew = w62 at BK551 BK558 HB hHeld ⊢
                 refine pu 0 57 (tf 1 44) ?_
                 refine tk 1 58 (tf 2 43) hHeld ?_
                 refine on 2 59 (tf 3 42) (fun K hK => ?_)
                 refine gs Try.func68 #[.int .i64 ((rd_T90 l0_2 x52_3).f0)] ?_
                 with_reducible refine (impl_bound.calls ((rd_T90 l0_2 x52_3).f0) true _ A44.out).mono ?_
                 rintro e w' ⟨rfl, ⟨nd, rfl⟩⟩
                 refine ⟨_, rfl, ?_⟩
                 refine hK.out _ _ ⟨(blk_cell BK558.out 0).trans rfl, (blk_cell BK558.out 1).trans rfl, (blk_cell BK551.out 0).trans rfl, (blk_cell BK551.out 1).trans rfl, (blk_cell BK551.out 2).trans rfl⟩ (fun hHeld => ?_)
                 clear hK K
                 refine nm 59 ?_
                 refine pu 3 60 (tf 4 41) ?_
                 refine pu 4 61 (tf 5 40) ?_
                 refine pu 5 62 (tf 6 39) ?_
                 refine tk 6 63 (tf 7 38) hHeld ?_
                 refine pu 7 64 (tf 8 37) ?_
                 refine pu 8 65 (tf 9 36) ?_
                 refine pu 9 66 (tf 10 35) ?_
                 refine pu 10 67 (tf 11 34) ?_
                 refine pu 12 69 #[T_,T_,T_,T_,T_,T_,T_,T_,T_,T_,T_,F_,T_,F_,F_,F_,F_,F_,F_,F_,F_,F_,F_,F_,F_,F_,F_,F_,F_,F_,F_,F_,F_,F_,F_,F_,F_,F_,F_,F_,F_,F_,F_,F_,F_] ?_
                 refine tk 11 68 (tf 13 32) hHeld ?_
                 refine tk 13 70 (tf 14 31) hHeld ?_
                 refine pu 14 71 (tf 15 30) ?_
                 refine pu 15 72 (tf 16 29) ?_
                 refine pu 16 73 (tf 17 28) ?_
                 refine pu 17 74 (tf 18 27) ?_
                 refine pu 18 75 (tf 19 26) ?_
                 refine pu 19 76 (tf 20 25) ?_
                 refine pu 20 77 (tf 21 24) ?_
                 refine pn 21 78 (tf 22 23) ?_
                 refine pn 22 79 (tf 23 22) ?_
                 refine pn 23 80 (tf 24 21) ?_
                 refine pn 24 81 (tf 25 20) ?_
                 refine pn 25 82 (tf 26 19) ?_
                 refine pn 26 83 (tf 27 18) ?_
                 refine pn 27 84 (tf 28 17) ?_
                 refine pn 28 85 (tf 29 16) ?_
                 refine pn 29 86 (tf 30 15) ?_
                 refine pn 30 87 (tf 31 14) ?_
                 refine pn 31 88 (tf 32 13) ?_
                 refine pn 32 89 (tf 33 12) ?_
                 refine pn 33 90 (tf 34 11) ?_
                 refine pn 34 91 (tf 35 10) ?_
                 refine pn 35 92 (tf 36 9) ?_
                 refine pn 36 93 (tf 37 8) ?_
                 refine pn 37 94 (tf 38 7) ?_
                 refine pn 38 95 (tf 39 6) ?_
                 refine pn 39 96 (tf 40 5) ?_
                 refine pn 40 97 (tf 41 4) ?_
                 refine pn 41 98 (tf 42 3) ?_
                 refine pn 42 99 (tf 43 2) ?_
                 refine pu 43 100 (tf 44 1) ?_
                 refine pu 44 101 (tf 45 0) ?_
                 refine done_ (done_of HT_.out (by kernel_rfl)) ?_
                 try go_wp2
                 go_meet
                 case rel => exact ⟨_, (false), (by first | rfl | (simp; done) | (simp [*]; done)), H', ⟨by have := HJ1.out; have := HK2.out; have := HK3.out; first | omega | exact Nat.le_refl _⟩, ⟨ub BK551.out⟩, ⟨ub BK558.out⟩, ⟨bl⟩⟩
             ·replace c45 := Bool.eq_false_iff.mpr c45
              subst c45
              rw [if_neg nf] at H
              have H' := Aside0.mk H
              clear H
              try go_wp2
              have n0_ : Aside0 (((w41.setCell ⟨gb558, 0, none⟩ (.int .i64 ((rd_T90 l0_2 x52_3).f0))).setCell ⟨gb558, 1, none⟩ (.int .i64 ((rd_T90 l0_2 x52_3).f1))).heap[gb551]? = some (.cells #[.slice A0_0 l0_0.length c0_0, .slice A0_1 l0_1.length c0_1, .slice (some ad557) l0_2.length c0_2] 45 (0, 0))) := ⟨bq⟩
              have n1_ : Aside0 (((w41.setCell ⟨gb558, 0, none⟩ (.int .i64 ((rd_T90 l0_2 x52_3).f0))).setCell ⟨gb558, 1, none⟩ (.int .i64 ((rd_T90 l0_2 x52_3).f1))).heap[gb558]? = some (.cells #[.int .i64 ((rd_T90 l0_2 x52_3).f0), .int .i64 ((rd_T90 l0_2 x52_3).f1)] 90 (0, 0))) := ⟨bq⟩
              have n2_ : Aside0 (Below w.heap.size w ((w41.setCell ⟨gb558, 0, none⟩ (.int .i64 ((rd_T90 l0_2 x52_3).f0))).setCell ⟨gb558, 1, none⟩ (.int .i64 ((rd_T90 l0_2 x52_3).f1)))) := ⟨bl⟩
              (try clear BK551)
              (try clear BK558)
              (try clear HB)
              generalize ((w41.setCell ⟨gb558, 0, none⟩ (.int .i64 ((rd_T90 l0_2 x52_3).f0))).setCell ⟨gb558, 1, none⟩ (.int .i64 ((rd_T90 l0_2 x52_3).f1))) = w63 at n0_ n1_ n2_ ⊢
              have BK551 := n0_
              have BK558 := n1_
              have HB := n2_
              clear n0_ n1_ n2_
              replace BK551 := wd BK551
              replace BK558 := wd BK558
              replace HB := mk (below_drew1 HB.out)
              refine start_ (n := 45) (S := fun w' => w'.cell? ⟨gb558, 0, none⟩ = some (.int .i64 ((rd_T90 l0_2 x52_3).f0)) ∧ w'.cell? ⟨gb558, 1, none⟩ = some (.int .i64 ((rd_T90 l0_2 x52_3).f1))) (ds := []) #[F_, F_, F_, F_, F_, F_, F_, F_, F_, F_, F_, F_, F_, F_, F_, F_, F_, F_, F_, F_, F_, F_, F_, F_, F_, F_, F_, F_, F_, F_, F_, F_, F_, F_, F_, F_, F_, F_, F_, F_, F_, F_, F_, F_, F_] (by kernel_rfl) rfl rfl ⟨(blk_cell BK558.out 0).trans rfl, (blk_cell BK558.out 1).trans rfl⟩ (fun hHeld => ?_); refine with_tabW impl_IsCracker.tab12 impl_IsCracker.bits12 (fun HT_ HW_ => ?_)
              generalize w63.drew = w64 at BK551 BK558 HB hHeld ⊢
              refine pu 0 57 (tf 1 44) ?_
              refine tk 1 58 (tf 2 43) hHeld ?_
              refine on 2 59 (tf 3 42) (fun K hK => ?_)
              refine gs Try.func68 #[.int .i64 ((rd_T90 l0_2 x52_3).f0)] ?_
              with_reducible refine (impl_bound.calls ((rd_T90 l0_2 x52_3).f0) false _ A44.out).mono ?_
              rintro e w' ⟨rfl, ⟨nd, rfl⟩⟩
              refine ⟨_, rfl, ?_⟩
              refine hK.out _ _ ⟨(blk_cell BK558.out 0).trans rfl, (blk_cell BK558.out 1).trans rfl⟩ (fun hHeld => ?_)
              clear hK K
              refine nm 59 ?_
              refine pu 3 60 (tf 4 41) ?_
              refine pu 4 61 (tf 5 40) ?_
              refine pn 5 62 (tf 6 39) ?_
              refine pn 6 63 (tf 7 38) ?_
              refine pn 7 64 (tf 8 37) ?_
              refine pu 8 65 (tf 9 36) ?_
              refine pu 9 66 (tf 10 35) ?_
              refine pn 10 67 (tf 11 34) ?_
              refine pn 11 68 (tf 12 33) ?_
              refine pn 12 69 (tf 13 32) ?_
              refine pn 13 70 (tf 14 31) ?_
              refine pn 14 71 (tf 15 30) ?_
              refine pn 15 72 (tf 16 29) ?_
              refine pu 16 73 (tf 17 28) ?_
              refine pu 17 74 (tf 18 27) ?_
              refine pn 18 75 (tf 19 26) ?_
              refine pn 19 76 (tf 20 25) ?_
              refine pn 20 77 (tf 21 24) ?_
              refine pn 21 78 (tf 22 23) ?_
              refine pn 22 79 (tf 23 22) ?_
              refine pn 23 80 (tf 24 21) ?_
              refine pn 24 81 (tf 25 20) ?_
              refine pn 25 82 (tf 26 19) ?_
              refine pn 26 83 (tf 27 18) ?_
              refine pn 27 84 (tf 28 17) ?_
              refine pn 28 85 (tf 29 16) ?_
              refine pn 29 86 (tf 30 15) ?_
              refine pn 30 87 (tf 31 14) ?_
              refine pn 31 88 (tf 32 13) ?_
              refine pn 32 89 (tf 33 12) ?_
              refine pn 33 90 (tf 34 11) ?_
              refine pn 34 91 (tf 35 10) ?_
              refine pn 35 92 (tf 36 9) ?_
              refine pn 36 93 (tf 37 8) ?_
              refine pn 37 94 (tf 38 7) ?_
              refine pn 38 95 (tf 39 6) ?_
              refine pn 39 96 (tf 40 5) ?_
              refine pn 40 97 (tf 41 4) ?_
              refine pn 41 98 (tf 42 3) ?_
              refine pn 42 99 (tf 43 2) ?_
              refine pn 43 100 (tf 44 1) ?_
              refine pu 44 101 (tf 45 0) ?_
              refine done_ (done_of HT_.out (by kernel_rfl)) ?_
              try go_wp2
              go_meet
              case rel => exact ⟨_, (true), (by first | rfl | (simp; done) | (simp [*]; done)), H', ⟨by have := HJ1.out; have := HK2.out; have := HK3.out; first | omega | exact Nat.le_refl _⟩, ⟨ub BK551.out⟩, ⟨ub BK558.out⟩, ⟨bl⟩⟩
            case rest =>
             clear HC40
             try clear p2
             try clear c4
             try clear c5
             try clear c6
             try clear c45
             try clear c52
             try clear c52b0
             try clear c54
             try clear c55
             obtain ⟨kq, x101_39, rfl, HA, HJ39, BK551, BK558, HB⟩ := hcut
             cases kq with
             | zero => exact absurd HA.out (by simp [impl_IsCracker.j3])
             | succ kj39 =>
              have H := HA.out
              clear HA
              simp only [impl_IsCracker.j3] at H
              by_cases c65 : x101_39 = true
              ·subst c65
               rw [if_pos rfl] at H
               obtain rfl := Option.some.inj H
               go_wp2
               go_ret
               exact ⟨by first | rfl | (simp [errW_none, errW_some] <;> rfl) | (simp [*, errW_none, errW_some] <;> rfl), bl⟩
              ·replace c65 := Bool.eq_false_iff.mpr c65
               subst c65
               rw [if_neg nf] at H
               have H' := Aside0.mk H
               clear H
               have hnb66 := NB551_558.out
               have hnc66 := NB558_551.out
               obtain ⟨hcz67_0, hcz67_1, hcz67_2, hfz67_0, hfz67_1, hfz67_2⟩ := bz3 BK551
               go_wp2
               go_loopg [105] kj39 (fun kq v105 w' => ∃ (x105_5 : Int), v105 = .int .i64 x105_5 ∧ Aside0 (impl_IsCracker.l2 kq l0_2 (l0_2.length : Int) x52_3 l0_0 (l0_0.length : Int) x105_5 l0_0 l0_1 l0_2 ((rd_T90 l0_2 x52_3).f0) ((rd_T90 l0_2 x52_3).f1) = some r) ∧ Aside0 (kq ≤ kj39) ∧ Aside0 (w'.heap[gb551]? = some (.cells #[(.slice A0_0 l0_0.length c0_0), (.slice A0_1 l0_1.length c0_1), (.slice (some ad557) l0_2.length c0_2)] 45 (0, 0))) ∧ Aside0 (w'.heap[gb558]? = some (.cells #[.int .i64 ((rd_T90 l0_2 x52_3).f0), .int .i64 ((rd_T90 l0_2 x52_3).f1)] 90 (0, 0))) ∧ Aside0 (Below w.heap.size w w'))
               case atStart => exact ⟨(0), (by first | rfl | (simp; done) | (simp [*]; done)), H', ⟨Nat.le_refl _⟩, ⟨ub BK551.out⟩, ⟨ub BK558.out⟩, ⟨bl⟩⟩
               case round =>
                clear H'
                try clear p2
                try clear c4
                try clear c5
                try clear c6
                try clear c45
                try clear c52
                try clear c52b0
                try clear c54
                try clear c55
                try clear c65
                try clear c66
                try clear hcz67_0
                try clear hcz67_1
                try clear hcz67_2
                try clear hfz67_0
                try clear hfz67_1
                try clear hfz67_2
                try clear p2
                obtain ⟨x105_5, rfl, HA, HK5, BK551, BK558, HB⟩ := hrel
                cases gk with
                | zero => exact absurd HA.out (by simp [impl_IsCracker.l2])
                | succ k5 =>
                 have H := HA.out
                 clear HA
                 simp only [impl_IsCracker.l2] at H
                 by_cases c68 : x105_5 < (l0_0.length : Int)
                 ·rw [if_pos c68] at H
                  have c68b0 : decide (x105_5 < (l0_0.length : Int)) = true := decide_eq_true c68
                  clear c68
                  by_cases c69 : 0 ≤ x105_5
                  ·rw [if_pos c69] at H
                   have c69b0 : decide (0 ≤ x105_5) = true := decide_eq_true c69
                   clear c69
                   by_cases c70 : x105_5 < (l0_0.length : Int)
                   ·rw [if_pos c70] at H
                    have c70b0 : decide (x105_5 < (l0_0.length : Int)) = true := decide_eq_true c70
                    clear c70
                    by_cases c71 : ((decide ((rd l0_0 x105_5) < ((rd_T90 l0_2 x52_3).f0))) != (decide (x105_5 < ((rd_T90 l0_2 x52_3).f1)))) = true
                    ·rw [if_pos c71] at H
                     have c71b0 : ((decide ((rd l0_0 x105_5) < ((rd_T90 l0_2 x52_3).f0))) != (decide (x105_5 < ((rd_T90 l0_2 x52_3).f1)))) = true := c71
                     (try (have c71b1 : decide ((decide ((rd l0_0 x105_5) < ((rd_T90 l0_2 x52_3).f0))) = (decide (x105_5 < ((rd_T90 l0_2 x52_3).f1)))) = false := by simpa using c71))
                     (try (have c71b2 : ((decide ((rd l0_0 x105_5) < ((rd_T90 l0_2 x52_3).f0))) == (decide (x105_5 < ((rd_T90 l0_2 x52_3).f1)))) = false := by simpa using c71))
                     (try (have c71b3 : ¬ ((decide ((rd l0_0 x105_5) < ((rd_T90 l0_2 x52_3).f0))) = (decide (x105_5 < ((rd_T90 l0_2 x52_3).f1)))) := by simpa using c71))
                     clear c71
                     obtain rfl := Option.some.inj H
                     have p562 : 0 ≤ (x105_5 : Int) := of_decide_eq_true (by first | (with_reducible assumption) | assumption)
                     have q562 : x105_5 < (l0_0.length : Int) := of_decide_eq_true (by first | (with_reducible assumption) | assumption)
                     obtain ⟨ad562, e562, hx562_0⟩ := Kd.at_int HR0_0.out x105_5 p562 q562
                     cases e562
                     replace hx562_0 := (HB.out.cell (World.block_lt_of_cell? w _ hx562_0)).trans hx562_0
                     replace p562 := eq_true p562
                     replace q562 := eq_true q562
                     have hnb72 := NB558_551.out
                     have hnc72 := NB551_558.out
                     obtain ⟨hcz73_0, hcz73_1, hfz73_0, hfz73_1⟩ := bz2 BK558
                     go_wp2
                     go_ret
                     exact ⟨by first | rfl | (simp [errW_none, errW_some] <;> rfl) | (simp [*, errW_none, errW_some] <;> rfl), bl⟩
                    ·rw [if_neg c71] at H
                     have c71b0 : ((decide ((rd l0_0 x105_5) < ((rd_T90 l0_2 x52_3).f0))) != (decide (x105_5 < ((rd_T90 l0_2 x52_3).f1)))) = false := by simpa using c71
                     (try (have c71b1 : decide ((decide ((rd l0_0 x105_5) < ((rd_T90 l0_2 x52_3).f0))) = (decide (x105_5 < ((rd_T90 l0_2 x52_3).f1)))) = true := by simpa using c71))
                     (try (have c71b2 : ((decide ((rd l0_0 x105_5) < ((rd_T90 l0_2 x52_3).f0))) == (decide (x105_5 < ((rd_T90 l0_2 x52_3).f1)))) = true := by simpa using c71))
                     clear c71
                     have H' := Aside0.mk H
                     clear H
                     have p562 : 0 ≤ (x105_5 : Int) := of_decide_eq_true (by first | (with_reducible assumption) | assumption)
                     have q562 : x105_5 < (l0_0.length : Int) := of_decide_eq_true (by first | (with_reducible assumption) | assumption)
                     obtain ⟨ad562, e562, hx562_0⟩ := Kd.at_int HR0_0.out x105_5 p562 q562
                     cases e562
                     replace hx562_0 := (HB.out.cell (World.block_lt_of_cell? w _ hx562_0)).trans hx562_0
                     replace p562 := eq_true p562
                     replace q562 := eq_true q562
                     have hnb74 := NB558_551.out
                     have hnc74 := NB551_558.out
                     obtain ⟨hcz75_0, hcz75_1, hfz75_0, hfz75_1⟩ := bz2 BK558
                     go_wp2
                     go_roundg k5
                     case measure => have := HJ1.out; have := HK2.out; have := HK3.out; have := HJ39.out; have := HK5.out; omega
                     case rel => exact ⟨(wrap64 (x105_5 + 1)), (by first | rfl | (simp; done) | (simp [*]; done)), H', ⟨by have := HJ1.out; have := HK2.out; have := HK3.out; have := HJ39.out; have := HK5.out; omega⟩, ⟨ub BK551.out⟩, ⟨ub BK558.out⟩, ⟨bl⟩⟩
                   ·rw [if_neg c70] at H
                    exact absurd H (by simp)
                  ·rw [if_neg c69] at H
                   exact absurd H (by simp)
                 ·rw [if_neg c68] at H
                  have c68b0 : decide (x105_5 < (l0_0.length : Int)) = false := decide_eq_false c68
                  clear c68
                  have H' := Aside0.mk H
                  clear H
                  go_wp2
                  go_roundg k5
                  case measure => have := HJ1.out; have := HK2.out; have := HK3.out; have := HJ39.out; have := HK5.out; omega
                  case rel => exact ⟨(wrap64 (x52_3 + 1)), (by first | rfl | (simp; done) | (simp [*]; done)), H', ⟨by have := HJ1.out; have := HK2.out; have := HK3.out; have := HJ39.out; have := HK5.out; omega⟩, ⟨ub BK551.out⟩, ⟨bl⟩⟩
           ·rw [if_neg c39] at H
            exact absurd H (by simp)
          ·rw [if_neg c38] at H
           exact absurd H (by simp)
         ·rw [if_neg c37] at H
          have c37b0 : decide (x52_3 < (l0_2.length : Int)) = false := decide_eq_false c37
          clear c37
          obtain rfl := Option.some.inj H
          go_wp2
          go_ret
          exact ⟨by first | rfl | (simp [errW_none, errW_some] <;> rfl) | (simp [*, errW_none, errW_some] <;> rfl), bl⟩

end Go.Proofs.Ytlikcmonejefoac.PFnMedians
