-- printed by a program of this session, a turned copy of the print of the kit
import Derived.Test.YtmliclopdbkbeaaSq
import Derived.Test.YtmliclopdbkbeaaPFnExactAddPivotx0
import Derived.Test.YtmliclopdbkbeaaPFnExactAddPivotx1
import Derived.Test.YtmliclopdbkbeaaPFnExactAddPivotx6
import Derived.Test.YtmliclopdbkbeaaPFnExactAddPivotx7
import Derived.Test.YtmliclopdbkbeaaPFnExactAddPivotx10
import Derived.Test.YtmliclopdbkbeaaPFnExactAddPivotx11
namespace Go.Proofs.Ytmliclopdbkbeaa.PFnExactAddPivot
open Go.RowKit Go.Proofs.YtmliclopdbkbeaaW.PrintWords Go.Proofs.YtmliclopdbkbeaaW.PrintLast Go.Proofs.YtmliclopdbkbeaaW.PrintMore Go.Proofs.Ytmliclopdbkbeaa.Sq
attribute [local go_sem] max2_int min2_int max_two min_two max_three min_three max_four min_four Giv.cell_twice   -- for this text's walks alone
set_option linter.unusedVariables false
set_option linter.unusedSimpArgs false

/-! ### laws_FnExactAddPivot: function 3 -/
def laws_FnExactAddPivot.f (k : Nat) (l0_0 : List Int) (l0_1 : List Int) (l0_2 : List (S27)) (a1_0 : Int) (a1_1 : Int) : Option (Bool) := (laws_szCracker.f l0_0 l0_1 l0_2 1048576).bind fun t335 => (if t335 < 0 then (some true) else ((laws_toCracker.f k l0_0 l0_1 l0_2).bind fun bt336 => ((laws_toPivot.f a1_0 a1_1).bind fun bt345 => ((spec_AddPivot.f k bt336.1 bt336.2.1 bt336.2.2 bt345.1 bt345.2).bind fun bt347 => ((laws_toCracker.f k l0_0 l0_1 l0_2).bind fun bt358 => ((laws_toPivot.f a1_0 a1_1).bind fun bt368 => ((impl_AddPivot.f k bt358.1 bt358.2.1 bt358.2.2 bt368.1 bt368.2).bind fun bt370 => ((laws_eqCracker.f k bt370.1 bt370.2.1 bt370.2.2.1 bt347.1 bt347.2.1 bt347.2.2.1).bind fun t381 => (if t381 = true then (if (bt370.2.2.2 != bt347.2.2.2) = true then (none) else ((laws_toCracker.f k l0_0 l0_1 l0_2).bind fun bt382 => ((laws_eqCracker.f k bt358.1 bt358.2.1 bt358.2.2 bt382.1 bt382.2.1 bt382.2.2).bind fun t391 => (if t391 = true then ((laws_markCracker.f k bt358.1 bt358.2.1 bt358.2.2 1).bind fun bt392 => (if bt392.1 < 0 then (none) else ((laws_eqCracker.f k bt370.1 bt370.2.1 bt370.2.2.1 bt347.1 bt347.2.1 bt347.2.2.1).bind fun t396 => (if t396 = true then ((laws_markCracker.f k bt370.1 bt370.2.1 bt370.2.2.1 1).bind fun bt397 => ((laws_heldCracker.f k bt397.2.1 bt397.2.2.1 bt397.2.2.2 1).bind fun t401 => (if t401 < 0 then (none) else (if t401 = bt397.1 then ((laws_toCracker.f k l0_0 l0_1 l0_2).bind fun bt402 => ((laws_toPivot.f a1_0 a1_1).bind fun bt411 => ((impl_AddPivot.f k bt402.1 bt402.2.1 bt402.2.2 bt411.1 bt411.2).bind fun bt413 => ((laws_eqCracker.f k bt413.1 bt413.2.1 bt413.2.2.1 bt347.1 bt347.2.1 bt347.2.2.1).bind fun t424 => (if t424 = true then (if (bt413.2.2.2 != bt347.2.2.2) = true then (none) else ((laws_heldCracker.f k bt397.2.1 bt397.2.2.1 bt397.2.2.2 1).bind fun t425 => (if t425 < 0 then (none) else (if t425 = bt397.1 then (some true) else (none))))) else (none)))))) else (none))))) else (none))))) else (none))))) else (none))))))))))
theorem laws_FnExactAddPivot.mono : ∀ a0 a1 a2 a3 a4 k, LeO (laws_FnExactAddPivot.f k a0 a1 a2 a3 a4) (laws_FnExactAddPivot.f (k + 1) a0 a1 a2 a3 a4) := by
 intro a0 a1 a2 a3 a4 k
 unfold laws_FnExactAddPivot.f
 exact mo
instance laws_FnExactAddPivot.mi (a0 a1 a2 a3 a4 k) : LeC (laws_FnExactAddPivot.f k a0 a1 a2 a3 a4) (laws_FnExactAddPivot.f (k + 1) a0 a1 a2 a3 a4) := ⟨laws_FnExactAddPivot.mono a0 a1 a2 a3 a4 k⟩
def laws_FnExactAddPivot.T5 : Bool × List (List Nat × List Nat) := (true, [([], []), ([0], [0]), ([], []), ([2, 1], [2]), ([1, 3, 3], [1, 3]), ([4], [4]), ([5], [5]), ([5], [5]), ([], []), ([8, 6, 4, 0, 1, 2, 3, 4, 5, 6, 8], [6, 8]), ([7, 9, 0, 1, 2, 3, 4, 5, 6, 7, 8, 9], [7])])
def laws_FnExactAddPivot.B5 : List Nat := [0, 1, 0, 7, 15, 31, 63, 63, 0, 383, 1023]
theorem laws_FnExactAddPivot.tab5 : rtab .any (opsOf Try.f3 5) = laws_FnExactAddPivot.T5 := by kernel_rfl
theorem laws_FnExactAddPivot.bits5 : waitsOk laws_FnExactAddPivot.T5.2 laws_FnExactAddPivot.B5 = true := by kernel_rfl
def laws_FnExactAddPivot.T7 : Bool × List (List Nat × List Nat) := (true, [([], []), ([], []), ([1], [1]), ([0, 2, 2], [0, 2]), ([3], [3]), ([4], [4]), ([4], [4]), ([], []), ([7, 5, 3, 0, 1, 2, 3, 4, 5, 7], [5, 7]), ([6, 8, 0, 1, 2, 3, 4, 5, 6, 7, 8], [6])])
def laws_FnExactAddPivot.B7 : List Nat := [0, 0, 2, 7, 15, 31, 31, 0, 191, 511]
theorem laws_FnExactAddPivot.tab7 : rtab .any (opsOf Try.f3 7) = laws_FnExactAddPivot.T7 := by kernel_rfl
theorem laws_FnExactAddPivot.bits7 : waitsOk laws_FnExactAddPivot.T7.2 laws_FnExactAddPivot.B7 = true := by kernel_rfl
def laws_FnExactAddPivot.T24 : Bool × List (List Nat × List Nat) := (true, [([], []), ([0], [0]), ([], []), ([2, 1], [2]), ([1, 3, 3], [1, 3]), ([4], [4]), ([5], [5]), ([5], [5]), ([], []), ([8, 6, 4, 0, 1, 2, 3, 4, 5, 6, 8], [6, 8]), ([7, 9, 0, 1, 2, 3, 4, 5, 6, 7, 8, 9], [7])])
def laws_FnExactAddPivot.B24 : List Nat := [0, 1, 0, 7, 15, 31, 63, 63, 0, 383, 1023]
theorem laws_FnExactAddPivot.tab24 : rtab .any (opsOf Try.f3 24) = laws_FnExactAddPivot.T24 := by kernel_rfl
theorem laws_FnExactAddPivot.bits24 : waitsOk laws_FnExactAddPivot.T24.2 laws_FnExactAddPivot.B24 = true := by kernel_rfl
set_option maxHeartbeats 8000000 in
set_option maxRecDepth 100000 in
theorem laws_FnExactAddPivot.calls (k : Nat) (A0_0 : Option Addr) (c0_0 : Nat) (l0_0 : List Int) (A0_1 : Option Addr) (c0_1 : Nat) (l0_1 : List Int) (A0_2 : Option Addr) (c0_2 : Nat) (l0_2 : List (S27)) (a1_0 : Int) (a1_1 : Int) (r : Bool) (w : World) (hr0_0 : Kd.C (Kd.int .i64) w A0_0 l0_0.length l0_0) (hc0_0 : l0_0.length ≤ c0_0) (hr0_1 : Kd.C (Kd.int .i64) w A0_1 l0_1.length l0_1) (hc0_1 : l0_1.length ≤ c0_1) (hr0_2 : Kd.C k27 w A0_2 l0_2.length l0_2) (hc0_2 : l0_2.length ≤ c0_2) (HRT : Aside0 (r = true)) (h : laws_FnExactAddPivot.f k l0_0 l0_1 l0_2 a1_0 a1_1 = some r) :
  Calls Try.prog 3 #[.agg #[.slice A0_0 l0_0.length c0_0, .slice A0_1 l0_1.length c0_1, .slice A0_2 l0_2.length c0_2], .agg #[.int .i64 a1_0, .int .i64 a1_1]] w fun e w' => e = .returned (.bool r) ∧ Below w.heap.size w w' := by
 have hu25 := Try.underlying25
 have hu27 := Try.underlying27
 have hu31 := Try.underlying31
 have HR0_0 := Aside0.mk hr0_0
 have HC0_0 := Aside0.mk hc0_0
 clear hr0_0 hc0_0
 have HR0_1 := Aside0.mk hr0_1
 have HC0_1 := Aside0.mk hc0_1
 clear hr0_1 hc0_1
 have HR0_2 := Aside0.mk hr0_2
 have HC0_2 := Aside0.mk hc0_2
 clear hr0_2 hc0_2
 have HB := Aside0.mk (Below.refl w.heap.size w)
 have H : ((laws_szCracker.f l0_0 l0_1 l0_2 1048576).bind fun t335 => (if t335 < 0 then (some true) else ((laws_toCracker.f k l0_0 l0_1 l0_2).bind fun bt336 => ((laws_toPivot.f a1_0 a1_1).bind fun bt345 => ((spec_AddPivot.f k bt336.1 bt336.2.1 bt336.2.2 bt345.1 bt345.2).bind fun bt347 => ((laws_toCracker.f k l0_0 l0_1 l0_2).bind fun bt358 => ((laws_toPivot.f a1_0 a1_1).bind fun bt368 => ((impl_AddPivot.f k bt358.1 bt358.2.1 bt358.2.2 bt368.1 bt368.2).bind fun bt370 => ((laws_eqCracker.f k bt370.1 bt370.2.1 bt370.2.2.1 bt347.1 bt347.2.1 bt347.2.2.1).bind fun t381 => (if t381 = true then (if (bt370.2.2.2 != bt347.2.2.2) = true then (none) else ((laws_toCracker.f k l0_0 l0_1 l0_2).bind fun bt382 => ((laws_eqCracker.f k bt358.1 bt358.2.1 bt358.2.2 bt382.1 bt382.2.1 bt382.2.2).bind fun t391 => (if t391 = true then ((laws_markCracker.f k bt358.1 bt358.2.1 bt358.2.2 1).bind fun bt392 => (if bt392.1 < 0 then (none) else ((laws_eqCracker.f k bt370.1 bt370.2.1 bt370.2.2.1 bt347.1 bt347.2.1 bt347.2.2.1).bind fun t396 => (if t396 = true then ((laws_markCracker.f k bt370.1 bt370.2.1 bt370.2.2.1 1).bind fun bt397 => ((laws_heldCracker.f k bt397.2.1 bt397.2.2.1 bt397.2.2.2 1).bind fun t401 => (if t401 < 0 then (none) else (if t401 = bt397.1 then ((laws_toCracker.f k l0_0 l0_1 l0_2).bind fun bt402 => ((laws_toPivot.f a1_0 a1_1).bind fun bt411 => ((impl_AddPivot.f k bt402.1 bt402.2.1 bt402.2.2 bt411.1 bt411.2).bind fun bt413 => ((laws_eqCracker.f k bt413.1 bt413.2.1 bt413.2.2.1 bt347.1 bt347.2.1 bt347.2.2.1).bind fun t424 => (if t424 = true then (if (bt413.2.2.2 != bt347.2.2.2) = true then (none) else ((laws_heldCracker.f k bt397.2.1 bt397.2.2.1 bt397.2.2.2 1).bind fun t425 => (if t425 < 0 then (none) else (if t425 = bt397.1 then (some true) else (none))))) else (none)))))) else (none))))) else (none))))) else (none))))) else (none))))))))))) = some r := h
 clear h
 revert H; refine bo ?_; rintro t335 A3 H
 by_cases c4 : t335 < 0
 ·rw [if_pos c4] at H
  have c4b0 : decide (t335 < 0) = true := decide_eq_true c4
  clear c4
  obtain rfl := Option.some.inj H
  go_enter Try.func3, Try.ntmps3
  go_wp2_with (first | ((with_reducible refine gate_dst (N := 2) rfl ?_); refine bx 2 #[.slice A0_0 l0_0.length c0_0, .slice A0_1 l0_1.length c0_1, .slice A0_2 l0_2.length c0_2] 25 ?_; intro gb333 hg w5 hbox hb; have BK333 := mk hbox; have GW333 := wg hg; have GE333 := wg hg; replace HB := wh hb; clear hb hbox hg) | ((with_reducible refine gate_dst (N := 3) rfl ?_); refine bx 3 #[.int .i64 a1_0, .int .i64 a1_1] 27 ?_; intro gb334 hg w6 hbox hb; have BK334 := mk hbox; have GW334 := wg hg; have GE334 := wg hg; replace HB := wh hb; have NB333_334 := nl BK333 hg; have NB334_333 := nr BK333 hg; replace BK333 := wb BK333 hb; clear hb hbox hg; have hnb7 := NB333_334.out; have hnc7 := NB334_333.out; obtain ⟨hcz8_0, hcz8_1, hcz8_2, hfz8_0, hfz8_1, hfz8_2⟩ := bz3 BK333) | ((with_reducible refine gate_callee (f := 4) rfl ?_); refine gl (some 18) rfl Try.func4 #[.agg #[.slice A0_0 l0_0.length c0_0, .slice A0_1 l0_1.length c0_1, .slice A0_2 l0_2.length c0_2], .int .i64 1048576] ?_; (with_reducible refine (laws_szCracker.calls _ _ l0_0 _ _ l0_1 _ _ l0_2 1048576 t335 _ ?side1 ?side2 ?side3 ?side4 ?side5 ?side6 A3.out).mono ?_); (case side1 => exact uc (Kd.C_below HR0_0.out HB.out)); (case side2 => exact HC0_0.out); (case side3 => exact uc (Kd.C_below HR0_1.out HB.out)); (case side4 => exact HC0_1.out); (case side5 => exact uc (Kd.C_below HR0_2.out HB.out)); (case side6 => exact HC0_2.out); rintro e w9 ⟨rfl, hb⟩; refine ⟨_, rfl, ?_⟩; replace BK333 := wb BK333 hb; replace BK334 := wb BK334 hb; replace HB := wh hb; (try clear hb); (try clear hb2); (try clear hk); (try clear hi)))
  go_ret
  exact ⟨by first | rfl | (simp [errW_none, errW_some] <;> rfl) | (simp [*, errW_none, errW_some] <;> rfl), bl⟩
 ·rw [if_neg c4] at H
  have c4b0 : decide (t335 < 0) = false := decide_eq_false c4
  clear c4
  revert H; refine bo ?_; rintro ⟨t336, t339, t342⟩ A10 H
  dsimp only at H
  revert H; refine bo ?_; rintro ⟨t345, t346⟩ A11 H
  dsimp only at H
  revert H; refine bo ?_; rintro ⟨t347, t350, t353, t356⟩ A12 H
  dsimp only at H
  revert H; refine bo ?_; rintro ⟨t358, t361, t364⟩ A13 H
  dsimp only at H
  revert H; refine bo ?_; rintro ⟨t368, t369⟩ A14 H
  dsimp only at H
  revert H; refine bo ?_; rintro ⟨t370, t373, t376, t379⟩ A15 H
  dsimp only at H
  revert H; refine bo ?_; rintro t381 A16 H
  by_cases c17 : t381 = true
  ·subst c17
   rw [if_pos rfl] at H
   by_cases c18 : (t379 != t356) = true
   ·rw [if_pos c18] at H
    exact absurd H (by simp)
   ·rw [if_neg c18] at H
    have c18b0 : (t379 != t356) = false := by simpa using c18
    (try (have c18b1 : decide (t379 = t356) = true := by simpa using c18))
    (try (have c18b2 : (t379 == t356) = true := by simpa using c18))
    clear c18
    revert H; refine bo ?_; rintro ⟨t382, t385, t388⟩ A19 H
    dsimp only at H
    revert H; refine bo ?_; rintro t391 A20 H
    by_cases c21 : t391 = true
    ·subst c21
     rw [if_pos rfl] at H
     revert H; refine bo ?_; rintro ⟨t392, t393, t394, t395⟩ A22 H
     dsimp only at H
     by_cases c23 : t392 < 0
     ·rw [if_pos c23] at H
      exact absurd H (by simp)
     ·rw [if_neg c23] at H
      have c23b0 : decide (t392 < 0) = false := decide_eq_false c23
      clear c23
      revert H; refine bo ?_; rintro t396 A24 H
      by_cases c25 : t396 = true
      ·subst c25
       rw [if_pos rfl] at H
       revert H; refine bo ?_; rintro ⟨t397, t398, t399, t400⟩ A26 H
       dsimp only at H
       revert H; refine bo ?_; rintro t401 A27 H
       by_cases c28 : t401 < 0
       ·rw [if_pos c28] at H
        exact absurd H (by simp)
       ·rw [if_neg c28] at H
        have c28b0 : decide (t401 < 0) = false := decide_eq_false c28
        clear c28
        by_cases c29 : t401 = t397
        ·rw [if_pos c29] at H
         have c29b0 : (t401 == t397) = true := beq_iff_eq.mpr c29
         have c29b1 : (t401 != t397) = false := bne_eq_false_iff_eq.mpr c29
         clear c29
         revert H; refine bo ?_; rintro ⟨t402, t405, t408⟩ A30 H
         dsimp only at H
         revert H; refine bo ?_; rintro ⟨t411, t412⟩ A31 H
         dsimp only at H
         revert H; refine bo ?_; rintro ⟨t413, t416, t419, t422⟩ A32 H
         dsimp only at H
         revert H; refine bo ?_; rintro t424 A33 H
         by_cases c34 : t424 = true
         ·subst c34
          rw [if_pos rfl] at H
          by_cases c35 : (t422 != t356) = true
          ·rw [if_pos c35] at H
           exact absurd H (by simp)
          ·rw [if_neg c35] at H
           have c35b0 : (t422 != t356) = false := by simpa using c35
           (try (have c35b1 : decide (t422 = t356) = true := by simpa using c35))
           (try (have c35b2 : (t422 == t356) = true := by simpa using c35))
           clear c35
           revert H; refine bo ?_; rintro t425 A36 H
           by_cases c37 : t425 < 0
           ·rw [if_pos c37] at H
            exact absurd H (by simp)
           ·rw [if_neg c37] at H
            have c37b0 : decide (t425 < 0) = false := decide_eq_false c37
            clear c37
            by_cases c38 : t425 = t397
            ·rw [if_pos c38] at H
             have c38b0 : (t425 == t397) = true := beq_iff_eq.mpr c38
             have c38b1 : (t425 != t397) = false := bne_eq_false_iff_eq.mpr c38
             clear c38
             obtain rfl := Option.some.inj H
             go_enter Try.func3, Try.ntmps3
             try go_wp2_with (first | ((with_reducible refine gate_dst (N := 2) rfl ?_); refine bx 2 #[.slice A0_0 l0_0.length c0_0, .slice A0_1 l0_1.length c0_1, .slice A0_2 l0_2.length c0_2] 25 ?_; intro gb333 hg w39 hbox hb; have BK333 := mk hbox; have GW333 := wg hg; have GE333 := wg hg; replace HB := wh hb; clear hb hbox hg) | ((with_reducible refine gate_dst (N := 3) rfl ?_); refine bx 3 #[.int .i64 a1_0, .int .i64 a1_1] 27 ?_; intro gb334 hg w40 hbox hb; have BK334 := mk hbox; have GW334 := wg hg; have GE334 := wg hg; replace HB := wh hb; have NB333_334 := nl BK333 hg; have NB334_333 := nr BK333 hg; replace BK333 := wb BK333 hb; clear hb hbox hg; have hnb41 := NB333_334.out; have hnc41 := NB334_333.out; obtain ⟨hcz42_0, hcz42_1, hcz42_2, hfz42_0, hfz42_1, hfz42_2⟩ := bz3 BK333) | ((with_reducible refine gate_callee (f := 4) rfl ?_); refine gl (some 18) rfl Try.func4 #[.agg #[.slice A0_0 l0_0.length c0_0, .slice A0_1 l0_1.length c0_1, .slice A0_2 l0_2.length c0_2], .int .i64 1048576] ?_; (with_reducible refine (laws_szCracker.calls _ _ l0_0 _ _ l0_1 _ _ l0_2 1048576 t335 _ ?side1 ?side2 ?side3 ?side4 ?side5 ?side6 A3.out).mono ?_); (case side1 => exact uc (Kd.C_below HR0_0.out HB.out)); (case side2 => exact HC0_0.out); (case side3 => exact uc (Kd.C_below HR0_1.out HB.out)); (case side4 => exact HC0_1.out); (case side5 => exact uc (Kd.C_below HR0_2.out HB.out)); (case side6 => exact HC0_2.out); rintro e w43 ⟨rfl, hb⟩; refine ⟨_, rfl, ?_⟩; replace BK333 := wb BK333 hb; replace BK334 := wb BK334 hb; replace HB := wh hb; (try clear hb); (try clear hb2); (try clear hk); (try clear hi)))
             replace BK333 := wd BK333
             replace BK334 := wd BK334
             replace HB := mk (below_drew1 HB.out)
             refine start_ (n := 11) (S := fun w' => w'.cell? ⟨gb333, 0, none⟩ = some (.slice A0_0 l0_0.length c0_0) ∧ w'.cell? ⟨gb333, 1, none⟩ = some (.slice A0_1 l0_1.length c0_1) ∧ w'.cell? ⟨gb333, 2, none⟩ = some (.slice A0_2 l0_2.length c0_2) ∧ w'.cell? ⟨gb334, 0, none⟩ = some (.int .i64 a1_0) ∧ w'.cell? ⟨gb334, 1, none⟩ = some (.int .i64 a1_1)) (ds := []) #[F_, F_, F_, F_, F_, F_, F_, F_, F_, F_, F_] (by kernel_rfl) rfl rfl ⟨bc BK333 0, bc BK333 1, bc BK333 2, bc BK334 0, bc BK334 1⟩ (fun hHeld => ?_); refine with_tabW laws_FnExactAddPivot.tab5 laws_FnExactAddPivot.bits5 (fun HT_ HW_ => ?_)
             generalize w43.drew = w44 at BK333 BK334 HB hHeld ⊢
             refine tk 0 22 (tf 1 10) hHeld ?_
             refine tk 2 24 #[T_,F_,T_,F_,F_,F_,F_,F_,F_,F_,F_] hHeld ?_
             refine join_ (σ := Value × Value × Value × Value × Value × Value × Nat) 2 #[T_, T_, T_, T_, T_, T_, T_, T_, T_, F_, F_] (fun s_ => [(23, .agg #[s_.1, s_.2.1, s_.2.2.1]), (25, .agg #[.int .i64 t345, .int .i64 t346]), (26, .tuple #[.agg #[s_.2.2.2.1, s_.2.2.2.2.1, s_.2.2.2.2.2.1], .bool t356]), (6, .pointer (some ⟨s_.2.2.2.2.2.2, 0, none⟩)), (21, .tuple #[.agg #[s_.2.2.2.1, s_.2.2.2.2.1, s_.2.2.2.2.2.1], .bool t356]), (27, .agg #[s_.2.2.2.1, s_.2.2.2.2.1, s_.2.2.2.2.2.1]), (28, .bool t356)]) (fun s_ w' => (w'.cell? ⟨gb333, 0, none⟩ = some (.slice A0_0 l0_0.length c0_0) ∧ w'.cell? ⟨gb333, 1, none⟩ = some (.slice A0_1 l0_1.length c0_1) ∧ w'.cell? ⟨gb333, 2, none⟩ = some (.slice A0_2 l0_2.length c0_2) ∧ w'.cell? ⟨gb334, 0, none⟩ = some (.int .i64 a1_0) ∧ w'.cell? ⟨gb334, 1, none⟩ = some (.int .i64 a1_1)) ∧ (Kd.R (Kd.int .i64) 3 w' w.heap.size (fun k_ => some k_ ≠ (s_.2.1 : Value).ownBlock ∧ some k_ ≠ (s_.2.2.2.1 : Value).ownBlock ∧ some k_ ≠ (s_.2.2.2.2.1 : Value).ownBlock) s_.1 t336) ∧ (Kd.R (Kd.int .i64) 3 w' w.heap.size (fun k_ => some k_ ≠ (s_.1 : Value).ownBlock ∧ some k_ ≠ (s_.2.2.2.1 : Value).ownBlock ∧ some k_ ≠ (s_.2.2.2.2.1 : Value).ownBlock) s_.2.1 t339) ∧ (Kd.R k35 35 w' w.heap.size (fun k_ => some k_ ≠ (s_.2.2.2.2.2.1 : Value).ownBlock) s_.2.2.1 t342) ∧ (Kd.R (Kd.int .i64) 3 w' w.heap.size (fun k_ => some k_ ≠ (s_.1 : Value).ownBlock ∧ some k_ ≠ (s_.2.1 : Value).ownBlock ∧ some k_ ≠ (s_.2.2.2.2.1 : Value).ownBlock) s_.2.2.2.1 t347) ∧ (Kd.R (Kd.int .i64) 3 w' w.heap.size (fun k_ => some k_ ≠ (s_.1 : Value).ownBlock ∧ some k_ ≠ (s_.2.1 : Value).ownBlock ∧ some k_ ≠ (s_.2.2.2.1 : Value).ownBlock) s_.2.2.2.2.1 t350) ∧ (Kd.R k35 35 w' w.heap.size (fun k_ => some k_ ≠ (s_.2.2.1 : Value).ownBlock) s_.2.2.2.2.2.1 t353) ∧ (w'.heap[gb333]? = some (.cells #[.slice A0_0 l0_0.length c0_0, .slice A0_1 l0_1.length c0_1, .slice A0_2 l0_2.length c0_2] 25 (0, 0))) ∧ (w'.heap[gb334]? = some (.cells #[.int .i64 a1_0, .int .i64 a1_1] 27 (0, 0))) ∧ (w'.heap[s_.2.2.2.2.2.2]? = some (.cells #[.slice none 0 0, .slice none 0 0, .slice none 0 0] 31 (0, 0))) ∧ (w.heap.size ≤ s_.2.2.2.2.2.2) ∧ (w.heap.size ≤ s_.2.2.2.2.2.2) ∧ (gb333 ≠ s_.2.2.2.2.2.2) ∧ (s_.2.2.2.2.2.2 ≠ gb333) ∧ (gb334 ≠ s_.2.2.2.2.2.2) ∧ (s_.2.2.2.2.2.2 ≠ gb334) ∧ (Below w.heap.size w w')) ?_ ?_
             rotate_left
             ·intro hCont
              refine two_ (i := 1) (j := 8) (Ni := some 23) (Nj := some 6) #[T_, T_, T_, F_, F_, F_, F_, F_, F_, F_, F_] #[T_, F_, T_, F_, F_, F_, F_, F_, T_, F_, F_] rfl rfl rfl rfl (two_of HT_.out (by kernel_rfl)) (by decide) (by decide) (fun K hK => ?_) (fun K hK => ?_)
              ·skip
               refine gs Try.func6 #[.agg #[.slice A0_0 l0_0.length c0_0, .slice A0_1 l0_1.length c0_1, .slice A0_2 l0_2.length c0_2]] ?_
               with_reducible refine (laws_toCracker.calls k _ _ l0_0 _ _ l0_1 _ _ l0_2 t336 t339 t342 _ ?side1 ?side2 ?side3 ?side4 ?side5 ?side6 A10.out).mono ?_
               (case side1 => exact uc (Kd.C_below HR0_0.out HB.out))
               (case side2 => exact HC0_0.out)
               (case side3 => exact uc (Kd.C_below HR0_1.out HB.out))
               (case side4 => exact HC0_1.out)
               (case side5 => exact uc (Kd.C_below HR0_2.out HB.out))
               (case side6 => exact HC0_2.out)
               rintro e w45 ⟨v337, v340, v343, rfl, ho0, ho1, ho2, hb⟩
               refine ⟨_, rfl, ?_⟩
               have HO338 := mk (Kd.R_lower ho0 (below_size bl))
               have HO341 := mk (Kd.R_lower ho1 (below_size bl))
               have HO344 := mk (Kd.R_lower ho2 (below_size bl))
               replace BK333 := wb BK333 hb
               replace BK334 := wb BK334 hb
               replace HB := wh hb
               (try clear hb)
               (try clear hb2)
               (try clear hk)
               (try clear hi)
               (try clear ho0)
               (try clear ho1)
               (try clear ho2)
               refine hK.out _ _ ⟨bc BK333 0, bc BK333 1, bc BK333 2, bc BK334 0, bc BK334 1⟩ (fun hHeld => ?_)
               clear hK K
               refine nm 23 ?_
               refine two_ (i := 3) (j := 8) (Ni := some 25) (Nj := some 6) #[T_, T_, T_, T_, F_, F_, F_, F_, F_, F_, F_] #[T_, T_, T_, F_, F_, F_, F_, F_, T_, F_, F_] rfl rfl rfl rfl (two_of HT_.out (by kernel_rfl)) (by decide) (by decide) (fun K hK => ?_) (fun K hK => ?_)
               ·skip
                refine gs Try.func7 #[.agg #[.int .i64 a1_0, .int .i64 a1_1]] ?_
                with_reducible refine (laws_toPivot.calls a1_0 a1_1 t345 t346 _ A11.out).mono ?_
                rintro e w46 ⟨rfl, hb⟩
                refine ⟨_, rfl, ?_⟩
                replace HO338 := mk (Kd.R_below (up HO338.out) hb)
                replace HO341 := mk (Kd.R_below (up HO341.out) hb)
                replace HO344 := mk (Kd.R_below (up HO344.out) hb)
                replace BK333 := wb BK333 hb
                replace BK334 := wb BK334 hb
                replace HB := wh hb
                (try clear hb)
                (try clear hb2)
                (try clear hk)
                (try clear hi)
                obtain ⟨Ao47, co47, eo47⟩ := Kd.R_slice HO338.out
                (first | subst eo47 | (injection eo47 with f1_ f2_ f3_; have f4_ := f1_.symm; have f5_ := f3_.symm; clear f1_ f2_ f3_; subst f4_; subst f5_))
                obtain ⟨Ao48, co48, eo48⟩ := Kd.R_slice HO341.out
                (first | subst eo48 | (injection eo48 with f1_ f2_ f3_; have f4_ := f1_.symm; have f5_ := f3_.symm; clear f1_ f2_ f3_; subst f4_; subst f5_))
                obtain ⟨Ao49, co49, eo49⟩ := Kd.R_slice HO344.out
                (first | subst eo49 | (injection eo49 with f1_ f2_ f3_; have f4_ := f1_.symm; have f5_ := f3_.symm; clear f1_ f2_ f3_; subst f4_; subst f5_))
                refine hK.out _ _ ⟨bc BK333 0, bc BK333 1, bc BK333 2, bc BK334 0, bc BK334 1⟩ (fun hHeld => ?_)
                clear hK K
                refine nm 25 ?_
                refine two_ (i := 4) (j := 8) (Ni := some 26) (Nj := some 6) #[T_, T_, T_, T_, T_, F_, F_, F_, F_, F_, F_] #[T_, T_, T_, T_, F_, F_, F_, F_, T_, F_, F_] rfl rfl rfl rfl (two_of HT_.out (by kernel_rfl)) (by decide) (by decide) (fun K hK => ?_) (fun K hK => ?_)
                ·skip
                 refine gs Try.func5 #[.agg #[.slice Ao47 t336.length co47, .slice Ao48 t339.length co48, .slice Ao49 t342.length co49], .agg #[.int .i64 t345, .int .i64 t346]] ?_
                 with_reducible refine (spec_AddPivot.calls k _ _ t336 _ _ t339 _ _ t342 t345 t346 t347 t350 t353 t356 _ ?side1 ?side2 ?side3 ?side4 ?side5 ?side6 A12.out).mono ?_
                 (case side1 => exact uc (Kd.R_reads' HO338.out).2.2)
                 (case side2 => exact (Kd.R_reads' HO338.out).2.1)
                 (case side3 => exact uc (Kd.R_reads' HO341.out).2.2)
                 (case side4 => exact (Kd.R_reads' HO341.out).2.1)
                 (case side5 => exact uc (Kd.R_reads' HO344.out).2.2)
                 (case side6 => exact (Kd.R_reads' HO344.out).2.1)
                 rintro e w50 ⟨v348, v351, v354, rfl, ho0, ho1, ho2, hb⟩
                 refine ⟨_, rfl, ?_⟩
                 have HO349 := mk (Kd.R_lower (Kd.R_new' (Kd.R_new' ho0 (Kd.R_lt (up HO338.out))) (Kd.R_lt (up HO341.out))) (below_size bl))
                 have HO352 := mk (Kd.R_lower (Kd.R_new' (Kd.R_new' ho1 (Kd.R_lt (up HO338.out))) (Kd.R_lt (up HO341.out))) (below_size bl))
                 replace HO338 := mk (Kd.R_mono (Kd.R_told (Kd.R_told (Kd.R_old (up HO338.out) hb) (Kd.R_base ho0)) (Kd.R_base ho1)) (fun _ h_ => h_.1))
                 replace HO341 := mk (Kd.R_mono (Kd.R_told (Kd.R_told (Kd.R_old (up HO341.out) hb) (Kd.R_base ho0)) (Kd.R_base ho1)) (fun _ h_ => h_.1))
                 have HO355 := mk (Kd.R_lower (Kd.R_new' ho2 (Kd.R_lt (up HO344.out))) (below_size bl))
                 replace HO344 := mk (Kd.R_elder' (up HO344.out) (Kd.R_base ho2) hb)
                 replace BK333 := wb BK333 hb
                 replace BK334 := wb BK334 hb
                 replace HB := wh hb
                 (try clear hb)
                 (try clear hb2)
                 (try clear hk)
                 (try clear hi)
                 (try clear ho0)
                 (try clear ho1)
                 (try clear ho2)
                 refine hK.out _ _ ⟨bc BK333 0, bc BK333 1, bc BK333 2, bc BK334 0, bc BK334 1⟩ (fun hHeld => ?_)
                 clear hK K
                 refine nm 26 ?_
                 refine pu 5 21 (tf 6 5) ?_
                 refine pu 6 27 (tf 7 4) ?_
                 refine pu 7 28 (tf 8 3) ?_
                 refine on 8 6 (tf 9 2) (fun K hK => ?_)
                 refine box_step ?hg (N := 6) ?hd (cs := #[.slice none 0 0, .slice none 0 0, .slice none 0 0]) (t := 31) ?hr ?_; (case hd => rfl); (case hg => rfl); (case hr => first | (go_simp; done) | (go_simp; rfl))
                 intro gb357 hg w51 hbox hb
                 replace HO338 := mk (Kd.R_below (up HO338.out) hb)
                 replace HO341 := mk (Kd.R_below (up HO341.out) hb)
                 replace HO344 := mk (Kd.R_below (up HO344.out) hb)
                 replace HO349 := mk (Kd.R_below (up HO349.out) hb)
                 replace HO352 := mk (Kd.R_below (up HO352.out) hb)
                 replace HO355 := mk (Kd.R_below (up HO355.out) hb)
                 have BK357 := mk hbox
                 have GW357 := wg hg
                 have GE357 := wg hg
                 replace HB := wh hb
                 have NB333_357 := nl BK333 hg
                 have NB357_333 := nr BK333 hg
                 replace BK333 := wb BK333 hb
                 have NB334_357 := nl BK334 hg
                 have NB357_334 := nr BK334 hg
                 replace BK334 := wb BK334 hb
                 clear hb hbox hg
                 refine hK.out _ _ ⟨bc BK333 0, bc BK333 1, bc BK333 2, bc BK334 0, bc BK334 1⟩ (fun hHeld => ?_)
                 clear hK K
                 refine nm 6 ?_
                 exact norm_ (by simp only [putAll, Act.put, List.setIfInBounds_toArray, List.set_cons_zero, List.set_cons_succ]) (hCont (.slice Ao47 t336.length co47, .slice Ao48 t339.length co48, .slice Ao49 t342.length co49, v348, v351, v354, gb357) _ ⟨hHeld, (by exact up (Kd.R_mono HO338.out (fun _ hk => by first | exact ⟨hk.1.1, ⟨hk.1.2, hk.2⟩⟩ | (revert hk; simp only [and_imp]; intros; (repeat' (refine And.intro ?_ ?_)) <;> assumption)))), (by exact up (Kd.R_mono HO341.out (fun _ hk => by first | exact ⟨hk.1.1, ⟨hk.1.2, hk.2⟩⟩ | (revert hk; simp only [and_imp]; intros; (repeat' (refine And.intro ?_ ?_)) <;> assumption)))), (by exact up (Kd.R_mono HO344.out (fun _ hk => hk.2))), (by exact up (Kd.R_mono HO349.out (fun _ hk => by first | exact ⟨hk.1.2, ⟨hk.2, hk.1.1⟩⟩ | (revert hk; simp only [and_imp]; intros; (repeat' (refine And.intro ?_ ?_)) <;> assumption)))), (by exact up (Kd.R_mono HO352.out (fun _ hk => by first | exact ⟨hk.1.2, ⟨hk.2, hk.1.1⟩⟩ | (revert hk; simp only [and_imp]; intros; (repeat' (refine And.intro ?_ ?_)) <;> assumption)))), (by exact up (Kd.R_mono HO355.out (fun _ hk => hk.2))), (ub BK333.out), (ub BK334.out), (ub BK357.out), GW357.out, GE357.out, NB333_357.out, NB357_333.out, NB334_357.out, NB357_334.out, bl⟩)
                ·skip
                 refine box_step ?hg (N := 6) ?hd (cs := #[.slice none 0 0, .slice none 0 0, .slice none 0 0]) (t := 31) ?hr ?_; (case hd => rfl); (case hg => rfl); (case hr => first | (go_simp; done) | (go_simp; rfl))
                 intro gb357 hg w47 hbox hb
                 replace HO338 := mk (Kd.R_below (up HO338.out) hb)
                 replace HO341 := mk (Kd.R_below (up HO341.out) hb)
                 replace HO344 := mk (Kd.R_below (up HO344.out) hb)
                 have BK357 := mk hbox
                 have GW357 := wg hg
                 have GE357 := wg hg
                 replace HB := wh hb
                 have NB333_357 := nl BK333 hg
                 have NB357_333 := nr BK333 hg
                 replace BK333 := wb BK333 hb
                 have NB334_357 := nl BK334 hg
                 have NB357_334 := nr BK334 hg
                 replace BK334 := wb BK334 hb
                 clear hb hbox hg
                 obtain ⟨Ao48, co48, eo48⟩ := Kd.R_slice HO338.out
                 (first | subst eo48 | (injection eo48 with f1_ f2_ f3_; have f4_ := f1_.symm; have f5_ := f3_.symm; clear f1_ f2_ f3_; subst f4_; subst f5_))
                 obtain ⟨Ao49, co49, eo49⟩ := Kd.R_slice HO341.out
                 (first | subst eo49 | (injection eo49 with f1_ f2_ f3_; have f4_ := f1_.symm; have f5_ := f3_.symm; clear f1_ f2_ f3_; subst f4_; subst f5_))
                 obtain ⟨Ao50, co50, eo50⟩ := Kd.R_slice HO344.out
                 (first | subst eo50 | (injection eo50 with f1_ f2_ f3_; have f4_ := f1_.symm; have f5_ := f3_.symm; clear f1_ f2_ f3_; subst f4_; subst f5_))
                 refine hK.out _ _ ⟨bc BK333 0, bc BK333 1, bc BK333 2, bc BK334 0, bc BK334 1⟩ (fun hHeld => ?_)
                 clear hK K
                 refine nm 6 ?_
                 refine on 4 26 #[T_,T_,T_,T_,T_,F_,F_,F_,T_,F_,F_] (fun K hK => ?_)
                 refine gs Try.func5 #[.agg #[.slice Ao48 t336.length co48, .slice Ao49 t339.length co49, .slice Ao50 t342.length co50], .agg #[.int .i64 t345, .int .i64 t346]] ?_
                 with_reducible refine (spec_AddPivot.calls k _ _ t336 _ _ t339 _ _ t342 t345 t346 t347 t350 t353 t356 _ ?side1 ?side2 ?side3 ?side4 ?side5 ?side6 A12.out).mono ?_
                 (case side1 => exact uc (Kd.R_reads' HO338.out).2.2)
                 (case side2 => exact (Kd.R_reads' HO338.out).2.1)
                 (case side3 => exact uc (Kd.R_reads' HO341.out).2.2)
                 (case side4 => exact (Kd.R_reads' HO341.out).2.1)
                 (case side5 => exact uc (Kd.R_reads' HO344.out).2.2)
                 (case side6 => exact (Kd.R_reads' HO344.out).2.1)
                 rintro e w51 ⟨v348, v351, v354, rfl, ho0, ho1, ho2, hb⟩
                 refine ⟨_, rfl, ?_⟩
                 have HO349 := mk (Kd.R_lower (Kd.R_new' (Kd.R_new' ho0 (Kd.R_lt (up HO338.out))) (Kd.R_lt (up HO341.out))) (below_size bl))
                 have HO352 := mk (Kd.R_lower (Kd.R_new' (Kd.R_new' ho1 (Kd.R_lt (up HO338.out))) (Kd.R_lt (up HO341.out))) (below_size bl))
                 replace HO338 := mk (Kd.R_mono (Kd.R_told (Kd.R_told (Kd.R_old (up HO338.out) hb) (Kd.R_base ho0)) (Kd.R_base ho1)) (fun _ h_ => h_.1))
                 replace HO341 := mk (Kd.R_mono (Kd.R_told (Kd.R_told (Kd.R_old (up HO341.out) hb) (Kd.R_base ho0)) (Kd.R_base ho1)) (fun _ h_ => h_.1))
                 have HO355 := mk (Kd.R_lower (Kd.R_new' ho2 (Kd.R_lt (up HO344.out))) (below_size bl))
                 replace HO344 := mk (Kd.R_elder' (up HO344.out) (Kd.R_base ho2) hb)
                 replace BK333 := wb BK333 hb
                 replace BK334 := wb BK334 hb
                 replace BK357 := wb BK357 hb
                 replace HB := wh hb
                 (try clear hb)
                 (try clear hb2)
                 (try clear hk)
                 (try clear hi)
                 (try clear ho0)
                 (try clear ho1)
                 (try clear ho2)
                 refine hK.out _ _ ⟨bc BK333 0, bc BK333 1, bc BK333 2, bc BK334 0, bc BK334 1⟩ (fun hHeld => ?_)
                 clear hK K
                 refine nm 26 ?_
                 refine pu 5 21 #[T_,T_,T_,T_,T_,T_,F_,F_,T_,F_,F_] ?_
                 refine pu 6 27 #[T_,T_,T_,T_,T_,T_,T_,F_,T_,F_,F_] ?_
                 refine pu 7 28 (tf 9 2) ?_
                 exact norm_ (by simp only [putAll, Act.put, List.setIfInBounds_toArray, List.set_cons_zero, List.set_cons_succ]) (hCont (.slice Ao48 t336.length co48, .slice Ao49 t339.length co49, .slice Ao50 t342.length co50, v348, v351, v354, gb357) _ ⟨hHeld, (by exact up (Kd.R_mono HO338.out (fun _ hk => by first | exact ⟨hk.1.1, ⟨hk.1.2, hk.2⟩⟩ | (revert hk; simp only [and_imp]; intros; (repeat' (refine And.intro ?_ ?_)) <;> assumption)))), (by exact up (Kd.R_mono HO341.out (fun _ hk => by first | exact ⟨hk.1.1, ⟨hk.1.2, hk.2⟩⟩ | (revert hk; simp only [and_imp]; intros; (repeat' (refine And.intro ?_ ?_)) <;> assumption)))), (by exact up (Kd.R_mono HO344.out (fun _ hk => hk.2))), (by exact up (Kd.R_mono HO349.out (fun _ hk => by first | exact ⟨hk.1.2, ⟨hk.2, hk.1.1⟩⟩ | (revert hk; simp only [and_imp]; intros; (repeat' (refine And.intro ?_ ?_)) <;> assumption)))), (by exact up (Kd.R_mono HO352.out (fun _ hk => by first | exact ⟨hk.1.2, ⟨hk.2, hk.1.1⟩⟩ | (revert hk; simp only [and_imp]; intros; (repeat' (refine And.intro ?_ ?_)) <;> assumption)))), (by exact up (Kd.R_mono HO355.out (fun _ hk => hk.2))), (ub BK333.out), (ub BK334.out), (ub BK357.out), GW357.out, GE357.out, NB333_357.out, NB357_333.out, NB334_357.out, NB357_334.out, bl⟩)
               ·skip
                refine box_step ?hg (N := 6) ?hd (cs := #[.slice none 0 0, .slice none 0 0, .slice none 0 0]) (t := 31) ?hr ?_; (case hd => rfl); (case hg => rfl); (case hr => first | (go_simp; done) | (go_simp; rfl))
                intro gb357 hg w46 hbox hb
                replace HO338 := mk (Kd.R_below (up HO338.out) hb)
                replace HO341 := mk (Kd.R_below (up HO341.out) hb)
                replace HO344 := mk (Kd.R_below (up HO344.out) hb)
                have BK357 := mk hbox
                have GW357 := wg hg
                have GE357 := wg hg
                replace HB := wh hb
                have NB333_357 := nl BK333 hg
                have NB357_333 := nr BK333 hg
                replace BK333 := wb BK333 hb
                have NB334_357 := nl BK334 hg
                have NB357_334 := nr BK334 hg
                replace BK334 := wb BK334 hb
                clear hb hbox hg
                refine hK.out _ _ ⟨bc BK333 0, bc BK333 1, bc BK333 2, bc BK334 0, bc BK334 1⟩ (fun hHeld => ?_)
                clear hK K
                refine nm 6 ?_
                refine on 3 25 #[T_,T_,T_,T_,F_,F_,F_,F_,T_,F_,F_] (fun K hK => ?_)
                refine gs Try.func7 #[.agg #[.int .i64 a1_0, .int .i64 a1_1]] ?_
                with_reducible refine (laws_toPivot.calls a1_0 a1_1 t345 t346 _ A11.out).mono ?_
                rintro e w47 ⟨rfl, hb⟩
                refine ⟨_, rfl, ?_⟩
                replace HO338 := mk (Kd.R_below (up HO338.out) hb)
                replace HO341 := mk (Kd.R_below (up HO341.out) hb)
                replace HO344 := mk (Kd.R_below (up HO344.out) hb)
                replace BK333 := wb BK333 hb
                replace BK334 := wb BK334 hb
                replace BK357 := wb BK357 hb
                replace HB := wh hb
                (try clear hb)
                (try clear hb2)
                (try clear hk)
                (try clear hi)
                obtain ⟨Ao48, co48, eo48⟩ := Kd.R_slice HO338.out
                (first | subst eo48 | (injection eo48 with f1_ f2_ f3_; have f4_ := f1_.symm; have f5_ := f3_.symm; clear f1_ f2_ f3_; subst f4_; subst f5_))
                obtain ⟨Ao49, co49, eo49⟩ := Kd.R_slice HO341.out
                (first | subst eo49 | (injection eo49 with f1_ f2_ f3_; have f4_ := f1_.symm; have f5_ := f3_.symm; clear f1_ f2_ f3_; subst f4_; subst f5_))
                obtain ⟨Ao50, co50, eo50⟩ := Kd.R_slice HO344.out
                (first | subst eo50 | (injection eo50 with f1_ f2_ f3_; have f4_ := f1_.symm; have f5_ := f3_.symm; clear f1_ f2_ f3_; subst f4_; subst f5_))
                refine hK.out _ _ ⟨bc BK333 0, bc BK333 1, bc BK333 2, bc BK334 0, bc BK334 1⟩ (fun hHeld => ?_)
                clear hK K
                refine nm 25 ?_
                refine on 4 26 #[T_,T_,T_,T_,T_,F_,F_,F_,T_,F_,F_] (fun K hK => ?_)
                refine gs Try.func5 #[.agg #[.slice Ao48 t336.length co48, .slice Ao49 t339.length co49, .slice Ao50 t342.length co50], .agg #[.int .i64 t345, .int .i64 t346]] ?_
                with_reducible refine (spec_AddPivot.calls k _ _ t336 _ _ t339 _ _ t342 t345 t346 t347 t350 t353 t356 _ ?side1 ?side2 ?side3 ?side4 ?side5 ?side6 A12.out).mono ?_
                (case side1 => exact uc (Kd.R_reads' HO338.out).2.2)
                (case side2 => exact (Kd.R_reads' HO338.out).2.1)
                (case side3 => exact uc (Kd.R_reads' HO341.out).2.2)
                (case side4 => exact (Kd.R_reads' HO341.out).2.1)
                (case side5 => exact uc (Kd.R_reads' HO344.out).2.2)
                (case side6 => exact (Kd.R_reads' HO344.out).2.1)
                rintro e w51 ⟨v348, v351, v354, rfl, ho0, ho1, ho2, hb⟩
                refine ⟨_, rfl, ?_⟩
                have HO349 := mk (Kd.R_lower (Kd.R_new' (Kd.R_new' ho0 (Kd.R_lt (up HO338.out))) (Kd.R_lt (up HO341.out))) (below_size bl))
                have HO352 := mk (Kd.R_lower (Kd.R_new' (Kd.R_new' ho1 (Kd.R_lt (up HO338.out))) (Kd.R_lt (up HO341.out))) (below_size bl))
                replace HO338 := mk (Kd.R_mono (Kd.R_told (Kd.R_told (Kd.R_old (up HO338.out) hb) (Kd.R_base ho0)) (Kd.R_base ho1)) (fun _ h_ => h_.1))
                replace HO341 := mk (Kd.R_mono (Kd.R_told (Kd.R_told (Kd.R_old (up HO341.out) hb) (Kd.R_base ho0)) (Kd.R_base ho1)) (fun _ h_ => h_.1))
                have HO355 := mk (Kd.R_lower (Kd.R_new' ho2 (Kd.R_lt (up HO344.out))) (below_size bl))
                replace HO344 := mk (Kd.R_elder' (up HO344.out) (Kd.R_base ho2) hb)
                replace BK333 := wb BK333 hb
                replace BK334 := wb BK334 hb
                replace BK357 := wb BK357 hb
                replace HB := wh hb
                (try clear hb)
                (try clear hb2)
                (try clear hk)
                (try clear hi)
                (try clear ho0)
                (try clear ho1)
                (try clear ho2)
                refine hK.out _ _ ⟨bc BK333 0, bc BK333 1, bc BK333 2, bc BK334 0, bc BK334 1⟩ (fun hHeld => ?_)
                clear hK K
                refine nm 26 ?_
                refine pu 5 21 #[T_,T_,T_,T_,T_,T_,F_,F_,T_,F_,F_] ?_
                refine pu 6 27 #[T_,T_,T_,T_,T_,T_,T_,F_,T_,F_,F_] ?_
                refine pu 7 28 (tf 9 2) ?_
                exact norm_ (by simp only [putAll, Act.put, List.setIfInBounds_toArray, List.set_cons_zero, List.set_cons_succ]) (hCont (.slice Ao48 t336.length co48, .slice Ao49 t339.length co49, .slice Ao50 t342.length co50, v348, v351, v354, gb357) _ ⟨hHeld, (by exact up (Kd.R_mono HO338.out (fun _ hk => by first | exact ⟨hk.1.1, ⟨hk.1.2, hk.2⟩⟩ | (revert hk; simp only [and_imp]; intros; (repeat' (refine And.intro ?_ ?_)) <;> assumption)))), (by exact up (Kd.R_mono HO341.out (fun _ hk => by first | exact ⟨hk.1.1, ⟨hk.1.2, hk.2⟩⟩ | (revert hk; simp only [and_imp]; intros; (repeat' (refine And.intro ?_ ?_)) <;> assumption)))), (by exact up (Kd.R_mono HO344.out (fun _ hk => hk.2))), (by exact up (Kd.R_mono HO349.out (fun _ hk => by first | exact ⟨hk.1.2, ⟨hk.2, hk.1.1⟩⟩ | (revert hk; simp only [and_imp]; intros; (repeat' (refine And.intro ?_ ?_)) <;> assumption)))), (by exact up (Kd.R_mono HO352.out (fun _ hk => by first | exact ⟨hk.1.2, ⟨hk.2, hk.1.1⟩⟩ | (revert hk; simp only [and_imp]; intros; (repeat' (refine And.intro ?_ ?_)) <;> assumption)))), (by exact up (Kd.R_mono HO355.out (fun _ hk => hk.2))), (ub BK333.out), (ub BK334.out), (ub BK357.out), GW357.out, GE357.out, NB333_357.out, NB357_333.out, NB334_357.out, NB357_334.out, bl⟩)
              ·skip
               refine box_step ?hg (N := 6) ?hd (cs := #[.slice none 0 0, .slice none 0 0, .slice none 0 0]) (t := 31) ?hr ?_; (case hd => rfl); (case hg => rfl); (case hr => first | (go_simp; done) | (go_simp; rfl))
               intro gb357 hg w45 hbox hb
               have BK357 := mk hbox
               have GW357 := wg hg
               have GE357 := wg hg
               replace HB := wh hb
               have NB333_357 := nl BK333 hg
               have NB357_333 := nr BK333 hg
               replace BK333 := wb BK333 hb
               have NB334_357 := nl BK334 hg
               have NB357_334 := nr BK334 hg
               replace BK334 := wb BK334 hb
               clear hb hbox hg
               refine hK.out _ _ ⟨bc BK333 0, bc BK333 1, bc BK333 2, bc BK334 0, bc BK334 1⟩ (fun hHeld => ?_)
               clear hK K
               refine nm 6 ?_
               refine on 1 23 #[T_,T_,T_,F_,F_,F_,F_,F_,T_,F_,F_] (fun K hK => ?_)
               refine gs Try.func6 #[.agg #[.slice A0_0 l0_0.length c0_0, .slice A0_1 l0_1.length c0_1, .slice A0_2 l0_2.length c0_2]] ?_
               with_reducible refine (laws_toCracker.calls k _ _ l0_0 _ _ l0_1 _ _ l0_2 t336 t339 t342 _ ?side1 ?side2 ?side3 ?side4 ?side5 ?side6 A10.out).mono ?_
               (case side1 => exact uc (Kd.C_below HR0_0.out HB.out))
               (case side2 => exact HC0_0.out)
               (case side3 => exact uc (Kd.C_below HR0_1.out HB.out))
               (case side4 => exact HC0_1.out)
               (case side5 => exact uc (Kd.C_below HR0_2.out HB.out))
               (case side6 => exact HC0_2.out)
               rintro e w46 ⟨v337, v340, v343, rfl, ho0, ho1, ho2, hb⟩
               refine ⟨_, rfl, ?_⟩
               have HO338 := mk (Kd.R_lower ho0 (below_size bl))
               have HO341 := mk (Kd.R_lower ho1 (below_size bl))
               have HO344 := mk (Kd.R_lower ho2 (below_size bl))
               replace BK333 := wb BK333 hb
               replace BK334 := wb BK334 hb
               replace BK357 := wb BK357 hb
               replace HB := wh hb
               (try clear hb)
               (try clear hb2)
               (try clear hk)
               (try clear hi)
               (try clear ho0)
               (try clear ho1)
               (try clear ho2)
               refine hK.out _ _ ⟨bc BK333 0, bc BK333 1, bc BK333 2, bc BK334 0, bc BK334 1⟩ (fun hHeld => ?_)
               clear hK K
               refine nm 23 ?_
               refine on 3 25 #[T_,T_,T_,T_,F_,F_,F_,F_,T_,F_,F_] (fun K hK => ?_)
               refine gs Try.func7 #[.agg #[.int .i64 a1_0, .int .i64 a1_1]] ?_
               with_reducible refine (laws_toPivot.calls a1_0 a1_1 t345 t346 _ A11.out).mono ?_
               rintro e w47 ⟨rfl, hb⟩
               refine ⟨_, rfl, ?_⟩
               replace HO338 := mk (Kd.R_below (up HO338.out) hb)
               replace HO341 := mk (Kd.R_below (up HO341.out) hb)
               replace HO344 := mk (Kd.R_below (up HO344.out) hb)
               replace BK333 := wb BK333 hb
               replace BK334 := wb BK334 hb
               replace BK357 := wb BK357 hb
               replace HB := wh hb
               (try clear hb)
               (try clear hb2)
               (try clear hk)
               (try clear hi)
               obtain ⟨Ao48, co48, eo48⟩ := Kd.R_slice HO338.out
               (first | subst eo48 | (injection eo48 with f1_ f2_ f3_; have f4_ := f1_.symm; have f5_ := f3_.symm; clear f1_ f2_ f3_; subst f4_; subst f5_))
               obtain ⟨Ao49, co49, eo49⟩ := Kd.R_slice HO341.out
               (first | subst eo49 | (injection eo49 with f1_ f2_ f3_; have f4_ := f1_.symm; have f5_ := f3_.symm; clear f1_ f2_ f3_; subst f4_; subst f5_))
               obtain ⟨Ao50, co50, eo50⟩ := Kd.R_slice HO344.out
               (first | subst eo50 | (injection eo50 with f1_ f2_ f3_; have f4_ := f1_.symm; have f5_ := f3_.symm; clear f1_ f2_ f3_; subst f4_; subst f5_))
               refine hK.out _ _ ⟨bc BK333 0, bc BK333 1, bc BK333 2, bc BK334 0, bc BK334 1⟩ (fun hHeld => ?_)
               clear hK K
               refine nm 25 ?_
               refine on 4 26 #[T_,T_,T_,T_,T_,F_,F_,F_,T_,F_,F_] (fun K hK => ?_)
               refine gs Try.func5 #[.agg #[.slice Ao48 t336.length co48, .slice Ao49 t339.length co49, .slice Ao50 t342.length co50], .agg #[.int .i64 t345, .int .i64 t346]] ?_
               with_reducible refine (spec_AddPivot.calls k _ _ t336 _ _ t339 _ _ t342 t345 t346 t347 t350 t353 t356 _ ?side1 ?side2 ?side3 ?side4 ?side5 ?side6 A12.out).mono ?_
               (case side1 => exact uc (Kd.R_reads' HO338.out).2.2)
               (case side2 => exact (Kd.R_reads' HO338.out).2.1)
               (case side3 => exact uc (Kd.R_reads' HO341.out).2.2)
               (case side4 => exact (Kd.R_reads' HO341.out).2.1)
               (case side5 => exact uc (Kd.R_reads' HO344.out).2.2)
               (case side6 => exact (Kd.R_reads' HO344.out).2.1)
               rintro e w51 ⟨v348, v351, v354, rfl, ho0, ho1, ho2, hb⟩
               refine ⟨_, rfl, ?_⟩
               have HO349 := mk (Kd.R_lower (Kd.R_new' (Kd.R_new' ho0 (Kd.R_lt (up HO338.out))) (Kd.R_lt (up HO341.out))) (below_size bl))
               have HO352 := mk (Kd.R_lower (Kd.R_new' (Kd.R_new' ho1 (Kd.R_lt (up HO338.out))) (Kd.R_lt (up HO341.out))) (below_size bl))
               replace HO338 := mk (Kd.R_mono (Kd.R_told (Kd.R_told (Kd.R_old (up HO338.out) hb) (Kd.R_base ho0)) (Kd.R_base ho1)) (fun _ h_ => h_.1))
               replace HO341 := mk (Kd.R_mono (Kd.R_told (Kd.R_told (Kd.R_old (up HO341.out) hb) (Kd.R_base ho0)) (Kd.R_base ho1)) (fun _ h_ => h_.1))
               have HO355 := mk (Kd.R_lower (Kd.R_new' ho2 (Kd.R_lt (up HO344.out))) (below_size bl))
               replace HO344 := mk (Kd.R_elder' (up HO344.out) (Kd.R_base ho2) hb)
               replace BK333 := wb BK333 hb
               replace BK334 := wb BK334 hb
               replace BK357 := wb BK357 hb
               replace HB := wh hb
               (try clear hb)
               (try clear hb2)
               (try clear hk)
               (try clear hi)
               (try clear ho0)
               (try clear ho1)
               (try clear ho2)
               refine hK.out _ _ ⟨bc BK333 0, bc BK333 1, bc BK333 2, bc BK334 0, bc BK334 1⟩ (fun hHeld => ?_)
               clear hK K
               refine nm 26 ?_
               refine pu 5 21 #[T_,T_,T_,T_,T_,T_,F_,F_,T_,F_,F_] ?_
               refine pu 6 27 #[T_,T_,T_,T_,T_,T_,T_,F_,T_,F_,F_] ?_
               refine pu 7 28 (tf 9 2) ?_
               exact norm_ (by simp only [putAll, Act.put, List.setIfInBounds_toArray, List.set_cons_zero, List.set_cons_succ]) (hCont (.slice Ao48 t336.length co48, .slice Ao49 t339.length co49, .slice Ao50 t342.length co50, v348, v351, v354, gb357) _ ⟨hHeld, (by exact up (Kd.R_mono HO338.out (fun _ hk => by first | exact ⟨hk.1.1, ⟨hk.1.2, hk.2⟩⟩ | (revert hk; simp only [and_imp]; intros; (repeat' (refine And.intro ?_ ?_)) <;> assumption)))), (by exact up (Kd.R_mono HO341.out (fun _ hk => by first | exact ⟨hk.1.1, ⟨hk.1.2, hk.2⟩⟩ | (revert hk; simp only [and_imp]; intros; (repeat' (refine And.intro ?_ ?_)) <;> assumption)))), (by exact up (Kd.R_mono HO344.out (fun _ hk => hk.2))), (by exact up (Kd.R_mono HO349.out (fun _ hk => by first | exact ⟨hk.1.2, ⟨hk.2, hk.1.1⟩⟩ | (revert hk; simp only [and_imp]; intros; (repeat' (refine And.intro ?_ ?_)) <;> assumption)))), (by exact up (Kd.R_mono HO352.out (fun _ hk => by first | exact ⟨hk.1.2, ⟨hk.2, hk.1.1⟩⟩ | (revert hk; simp only [and_imp]; intros; (repeat' (refine And.intro ?_ ?_)) <;> assumption)))), (by exact up (Kd.R_mono HO355.out (fun _ hk => hk.2))), (ub BK333.out), (ub BK334.out), (ub BK357.out), GW357.out, GE357.out, NB333_357.out, NB357_333.out, NB334_357.out, NB357_334.out, bl⟩)
             rintro ⟨v337, v340, v343, v348, v351, v354, gb357⟩ w52 ⟨hS_, h0_, h1_, h2_, h3_, h4_, h5_, h6_, h7_, h8_, h9_, h10_, h11_, h12_, h13_, h14_, h15_⟩
             have n0_ : Aside0 (Kd.R (Kd.int .i64) 3 w52 w.heap.size (fun k_ => some k_ ≠ (v340 : Value).ownBlock ∧ some k_ ≠ (v348 : Value).ownBlock ∧ some k_ ≠ (v351 : Value).ownBlock) v337 t336) := ⟨h0_⟩
             have n1_ : Aside0 (Kd.R (Kd.int .i64) 3 w52 w.heap.size (fun k_ => some k_ ≠ (v337 : Value).ownBlock ∧ some k_ ≠ (v348 : Value).ownBlock ∧ some k_ ≠ (v351 : Value).ownBlock) v340 t339) := ⟨h1_⟩
             have n2_ : Aside0 (Kd.R k35 35 w52 w.heap.size (fun k_ => some k_ ≠ (v354 : Value).ownBlock) v343 t342) := ⟨h2_⟩
             have n3_ : Aside0 (Kd.R (Kd.int .i64) 3 w52 w.heap.size (fun k_ => some k_ ≠ (v337 : Value).ownBlock ∧ some k_ ≠ (v340 : Value).ownBlock ∧ some k_ ≠ (v351 : Value).ownBlock) v348 t347) := ⟨h3_⟩
             have n4_ : Aside0 (Kd.R (Kd.int .i64) 3 w52 w.heap.size (fun k_ => some k_ ≠ (v337 : Value).ownBlock ∧ some k_ ≠ (v340 : Value).ownBlock ∧ some k_ ≠ (v348 : Value).ownBlock) v351 t350) := ⟨h4_⟩
             have n5_ : Aside0 (Kd.R k35 35 w52 w.heap.size (fun k_ => some k_ ≠ (v343 : Value).ownBlock) v354 t353) := ⟨h5_⟩
             have n6_ : Aside0 (w52.heap[gb333]? = some (.cells #[.slice A0_0 l0_0.length c0_0, .slice A0_1 l0_1.length c0_1, .slice A0_2 l0_2.length c0_2] 25 (0, 0))) := ⟨h6_⟩
             have n7_ : Aside0 (w52.heap[gb334]? = some (.cells #[.int .i64 a1_0, .int .i64 a1_1] 27 (0, 0))) := ⟨h7_⟩
             have n8_ : Aside0 (w52.heap[gb357]? = some (.cells #[.slice none 0 0, .slice none 0 0, .slice none 0 0] 31 (0, 0))) := ⟨h8_⟩
             have n9_ : Aside0 (w.heap.size ≤ gb357) := ⟨h9_⟩
             have n10_ : Aside0 (w.heap.size ≤ gb357) := ⟨h10_⟩
             have n11_ : Aside0 (gb333 ≠ gb357) := ⟨h11_⟩
             have n12_ : Aside0 (gb357 ≠ gb333) := ⟨h12_⟩
             have n13_ : Aside0 (gb334 ≠ gb357) := ⟨h13_⟩
             have n14_ : Aside0 (gb357 ≠ gb334) := ⟨h14_⟩
             have n15_ : Aside0 (Below w.heap.size w w52) := ⟨h15_⟩
             clear BK333
             clear BK334
             clear HB
             clear h0_ h1_ h2_ h3_ h4_ h5_ h6_ h7_ h8_ h9_ h10_ h11_ h12_ h13_ h14_ h15_
             have HO338 := n0_
             have HO341 := n1_
             have HO344 := n2_
             have HO349 := n3_
             have HO352 := n4_
             have HO355 := n5_
             have BK333 := n6_
             have BK334 := n7_
             have BK357 := n8_
             have GW357 := n9_
             have GE357 := n10_
             have NB333_357 := n11_
             have NB357_333 := n12_
             have NB334_357 := n13_
             have NB357_334 := n14_
             have HB := n15_
             clear n0_ n1_ n2_ n3_ n4_ n5_ n6_ n7_ n8_ n9_ n10_ n11_ n12_ n13_ n14_ n15_
             have hHeld : w52.cell? ⟨gb333, 0, none⟩ = some (.slice A0_0 l0_0.length c0_0) ∧ w52.cell? ⟨gb333, 1, none⟩ = some (.slice A0_1 l0_1.length c0_1) ∧ w52.cell? ⟨gb333, 2, none⟩ = some (.slice A0_2 l0_2.length c0_2) ∧ w52.cell? ⟨gb334, 0, none⟩ = some (.int .i64 a1_0) ∧ w52.cell? ⟨gb334, 1, none⟩ = some (.int .i64 a1_1) := hS_
             obtain ⟨Ao53, co53, eo53⟩ := Kd.R_slice HO349.out
             (first | subst eo53 | (injection eo53 with f1_ f2_ f3_; have f4_ := f1_.symm; have f5_ := f3_.symm; clear f1_ f2_ f3_; subst f4_; subst f5_))
             obtain ⟨Ao55, co55, eo55⟩ := Kd.R_slice HO352.out
             (first | subst eo55 | (injection eo55 with f1_ f2_ f3_; have f4_ := f1_.symm; have f5_ := f3_.symm; clear f1_ f2_ f3_; subst f4_; subst f5_))
             obtain ⟨Ao57, co57, eo57⟩ := Kd.R_slice HO355.out
             (first | subst eo57 | (injection eo57 with f1_ f2_ f3_; have f4_ := f1_.symm; have f5_ := f3_.symm; clear f1_ f2_ f3_; subst f4_; subst f5_))
             refine norm_ (a' := ?_) ?_ ?_
             rotate_left
             ·simp only [putAll, Act.put, List.setIfInBounds_toArray, List.set_cons_zero, List.set_cons_succ]
              rfl
             refine one_ (i := 9) (N := none) #[T_, T_, T_, T_, T_, T_, T_, T_, T_, T_, F_] rfl rfl (one_of HT_.out (by kernel_rfl)) (by decide) (fun K hK => ?_)
             have hs54 : w52.cell? ⟨gb357, 0, none⟩ = some (.slice none 0 0) := (blk_cell BK357.out 0).trans rfl
             have hfs54 := blk_frozen BK357.out 0
             have hns54_0 := NB333_357.out
             have hns54_1 := NB334_357.out
             have hms54_0 := NB357_333.out
             have hms54_1 := NB357_334.out
             have hs56 : w52.cell? ⟨gb357, 1, none⟩ = some (.slice none 0 0) := (blk_cell BK357.out 1).trans rfl
             have hfs56 := blk_frozen BK357.out 1
             have hns56_0 := NB333_357.out
             have hns56_1 := NB334_357.out
             have hms56_0 := NB357_333.out
             have hms56_1 := NB357_334.out
             have hs58 : w52.cell? ⟨gb357, 2, none⟩ = some (.slice none 0 0) := (blk_cell BK357.out 2).trans rfl
             have hfs58 := blk_frozen BK357.out 2
             have hns58_0 := NB333_357.out
             have hns58_1 := NB334_357.out
             have hms58_0 := NB357_333.out
             have hms58_1 := NB357_334.out
             refine skip_ (w1 := ?_) (by rfl) rfl ?_ ?_
             rotate_left
             ·go_simp
              rfl
             refine hK.out _ _ ⟨((cell_far (p := ⟨gb357, _, none⟩) NB333_357.out _).trans (((cell_far (p := ⟨gb357, _, none⟩) NB333_357.out _).trans (((cell_far (p := ⟨gb357, _, none⟩) NB333_357.out _).trans (hHeld.1)))))), ((cell_far (p := ⟨gb357, _, none⟩) NB333_357.out _).trans (((cell_far (p := ⟨gb357, _, none⟩) NB333_357.out _).trans (((cell_far (p := ⟨gb357, _, none⟩) NB333_357.out _).trans (hHeld.2.1)))))), ((cell_far (p := ⟨gb357, _, none⟩) NB333_357.out _).trans (((cell_far (p := ⟨gb357, _, none⟩) NB333_357.out _).trans (((cell_far (p := ⟨gb357, _, none⟩) NB333_357.out _).trans (hHeld.2.2.1)))))), ((cell_far (p := ⟨gb357, _, none⟩) NB334_357.out _).trans (((cell_far (p := ⟨gb357, _, none⟩) NB334_357.out _).trans (((cell_far (p := ⟨gb357, _, none⟩) NB334_357.out _).trans (hHeld.2.2.2.1)))))), ((cell_far (p := ⟨gb357, _, none⟩) NB334_357.out _).trans (((cell_far (p := ⟨gb357, _, none⟩) NB334_357.out _).trans (((cell_far (p := ⟨gb357, _, none⟩) NB334_357.out _).trans (hHeld.2.2.2.2))))))⟩ (fun hHeld => ?_)
             clear hK K
             refine pu 10 7 (tf 11 0) ?_
             refine done_ (done_of HT_.out (by kernel_rfl)) ?_
             have hnb59 := NB333_357.out
             have hnc59 := NB357_333.out
             obtain ⟨hcz60_0, hcz60_1, hcz60_2, hfz60_0, hfz60_1, hfz60_2⟩ := bz3 BK333
             try go_wp2_with (first | ((with_reducible refine gate_callee (f := 6) rfl ?_); refine gl (some 30) rfl Try.func6 #[.agg #[.slice A0_0 l0_0.length c0_0, .slice A0_1 l0_1.length c0_1, .slice A0_2 l0_2.length c0_2]] ?_; (with_reducible refine (laws_toCracker.calls k _ _ l0_0 _ _ l0_1 _ _ l0_2 t358 t361 t364 _ ?side1 ?side2 ?side3 ?side4 ?side5 ?side6 A13.out).mono ?_); (case side1 => exact Kd.C_below HR0_0.out bl); (case side2 => exact HC0_0.out); (case side3 => exact Kd.C_below HR0_1.out bl); (case side4 => exact HC0_1.out); (case side5 => exact Kd.C_below HR0_2.out bl); (case side6 => exact HC0_2.out); rintro e w61 ⟨v359, v362, v365, rfl, ho0, ho1, ho2, hb⟩; refine ⟨_, rfl, ?_⟩; have HO360 := mk (Kd.R_lower (Kd.R_new' (Kd.R_new' (Kd.R_new' (Kd.R_new' ho0 (Kd.R_lt (by exact rs1 HO338 BK357))) (Kd.R_lt (by exact rs1 HO341 BK357))) (Kd.R_lt (by exact rs1 HO349 BK357))) (Kd.R_lt (by exact rs1 HO352 BK357))) (below_size bl)); have HO363 := mk (Kd.R_lower (Kd.R_new' (Kd.R_new' (Kd.R_new' (Kd.R_new' ho1 (Kd.R_lt (by exact rs1 HO338 BK357))) (Kd.R_lt (by exact rs1 HO341 BK357))) (Kd.R_lt (by exact rs1 HO349 BK357))) (Kd.R_lt (by exact rs1 HO352 BK357))) (below_size bl)); replace HO338 := mk (Kd.R_mono (Kd.R_told (Kd.R_told (Kd.R_old (by exact rs1 HO338 BK357) hb) (Kd.R_base ho0)) (Kd.R_base ho1)) (fun _ h_ => h_.1)); replace HO341 := mk (Kd.R_mono (Kd.R_told (Kd.R_told (Kd.R_old (by exact rs1 HO341 BK357) hb) (Kd.R_base ho0)) (Kd.R_base ho1)) (fun _ h_ => h_.1)); replace HO349 := mk (Kd.R_mono (Kd.R_told (Kd.R_told (Kd.R_old (by exact rs1 HO349 BK357) hb) (Kd.R_base ho0)) (Kd.R_base ho1)) (fun _ h_ => h_.1)); replace HO352 := mk (Kd.R_mono (Kd.R_told (Kd.R_told (Kd.R_old (by exact rs1 HO352 BK357) hb) (Kd.R_base ho0)) (Kd.R_base ho1)) (fun _ h_ => h_.1)); have HO366 := mk (Kd.R_lower (Kd.R_new' (Kd.R_new' ho2 (Kd.R_lt (by exact rs1 HO344 BK357))) (Kd.R_lt (by exact rs1 HO355 BK357))) (below_size bl)); replace HO344 := mk (Kd.R_elder' (by exact rs1 HO344 BK357) (Kd.R_base ho2) hb); replace HO355 := mk (Kd.R_elder' (by exact rs1 HO355 BK357) (Kd.R_base ho2) hb); replace BK333 := wx BK333 hb; replace BK334 := wx BK334 hb; replace BK357 := mk (blk_below (g := gb357) (o := .cells #[.slice Ao53 t347.length co53, .slice Ao55 t350.length co55, .slice Ao57 t353.length co57] 31 (0, 0)) bq hb); replace HB := wh hb; (try clear hb); (try clear hb2); (try clear hk); (try clear hi); (try clear ho0); (try clear ho1); (try clear ho2); replace HO349 := mk (Kd.R_mono (ok' := (fun k_ => some k_ ≠ (.slice Ao55 t350.length co55 : Value).ownBlock ∧ some k_ ≠ (v359 : Value).ownBlock ∧ some k_ ≠ (v362 : Value).ownBlock)) HO349.out (fun k_ hk => by first | exact ⟨hk.1.1.2.2, ⟨hk.1.2, hk.2⟩⟩ | (revert hk; simp only [and_imp]; intros; (repeat' (refine And.intro ?_ ?_)) <;> assumption))); replace HO352 := mk (Kd.R_mono (ok' := (fun k_ => some k_ ≠ (.slice Ao53 t347.length co53 : Value).ownBlock ∧ some k_ ≠ (v359 : Value).ownBlock ∧ some k_ ≠ (v362 : Value).ownBlock)) HO352.out (fun k_ hk => by first | exact ⟨hk.1.1.2.2, ⟨hk.1.2, hk.2⟩⟩ | (revert hk; simp only [and_imp]; intros; (repeat' (refine And.intro ?_ ?_)) <;> assumption))); replace HO355 := mk (Kd.R_mono (ok' := (fun k_ => some k_ ≠ (v365 : Value).ownBlock)) HO355.out (fun k_ hk => hk.2)); replace HO360 := mk (Kd.R_mono (ok' := (fun k_ => some k_ ≠ (.slice Ao53 t347.length co53 : Value).ownBlock ∧ some k_ ≠ (.slice Ao55 t350.length co55 : Value).ownBlock ∧ some k_ ≠ (v362 : Value).ownBlock)) HO360.out (fun k_ hk => by first | exact ⟨hk.1.2, ⟨hk.2, hk.1.1.1.1⟩⟩ | (revert hk; simp only [and_imp]; intros; (repeat' (refine And.intro ?_ ?_)) <;> assumption))); replace HO363 := mk (Kd.R_mono (ok' := (fun k_ => some k_ ≠ (.slice Ao53 t347.length co53 : Value).ownBlock ∧ some k_ ≠ (.slice Ao55 t350.length co55 : Value).ownBlock ∧ some k_ ≠ (v359 : Value).ownBlock)) HO363.out (fun k_ hk => by first | exact ⟨hk.1.2, ⟨hk.2, hk.1.1.1.1⟩⟩ | (revert hk; simp only [and_imp]; intros; (repeat' (refine And.intro ?_ ?_)) <;> assumption))); replace HO366 := mk (Kd.R_mono (ok' := (fun k_ => some k_ ≠ (.slice Ao57 t353.length co57 : Value).ownBlock)) HO366.out (fun k_ hk => hk.2)); clear HO338; clear HO341; clear HO344) | ((with_reducible refine gate_dst (N := 8) rfl ?_); refine bx 8 #[.slice none 0 0, .slice none 0 0, .slice none 0 0] 31 ?_; intro gb367 hg w62 hbox hb; replace HO349 := mk (Kd.R_below (up HO349.out) hb); replace HO352 := mk (Kd.R_below (up HO352.out) hb); replace HO355 := mk (Kd.R_below (up HO355.out) hb); replace HO360 := mk (Kd.R_below (up HO360.out) hb); replace HO363 := mk (Kd.R_below (up HO363.out) hb); replace HO366 := mk (Kd.R_below (up HO366.out) hb); have BK367 := mk hbox; have GW367 := wg hg; have GE367 := wg hg; replace HB := wh hb; have NB333_367 := nl BK333 hg; have NB367_333 := nr BK333 hg; replace BK333 := wb BK333 hb; have NB334_367 := nl BK334 hg; have NB367_334 := nr BK334 hg; replace BK334 := wb BK334 hb; have NB357_367 := nl BK357 hg; have NB367_357 := nr BK357 hg; replace BK357 := wb BK357 hb; clear hb hbox hg; obtain ⟨Ao63, co63, eo63⟩ := Kd.R_slice HO360.out; subst eo63; have hnb64 := NB367_333.out; have hnc64 := NB333_367.out; have hnb65 := NB367_334.out; have hnc65 := NB334_367.out; have hnb66 := NB367_357.out; have hnc66 := NB357_367.out; obtain ⟨hcz67_0, hcz67_1, hcz67_2, hfz67_0, hfz67_1, hfz67_2⟩ := bz3 BK367; obtain ⟨Ao68, co68, eo68⟩ := Kd.R_slice HO363.out; subst eo68; obtain ⟨Ao69, co69, eo69⟩ := Kd.R_slice HO366.out; subst eo69))
             have n0_ : Aside0 (Kd.R (Kd.int .i64) 3 (((w62.setCell ⟨gb367, 0, none⟩ (.slice Ao63 t358.length co63)).setCell ⟨gb367, 1, none⟩ (.slice Ao68 t361.length co68)).setCell ⟨gb367, 2, none⟩ (.slice Ao69 t364.length co69)) w.heap.size (fun k_ => some k_ ≠ (.slice Ao55 t350.length co55 : Value).ownBlock ∧ some k_ ≠ (.slice Ao63 t358.length co63 : Value).ownBlock ∧ some k_ ≠ (.slice Ao68 t361.length co68 : Value).ownBlock) (.slice Ao53 t347.length co53) t347) := ⟨(by exact rm (rs1 HO349 BK367))⟩
             have n1_ : Aside0 (Kd.R (Kd.int .i64) 3 (((w62.setCell ⟨gb367, 0, none⟩ (.slice Ao63 t358.length co63)).setCell ⟨gb367, 1, none⟩ (.slice Ao68 t361.length co68)).setCell ⟨gb367, 2, none⟩ (.slice Ao69 t364.length co69)) w.heap.size (fun k_ => some k_ ≠ (.slice Ao53 t347.length co53 : Value).ownBlock ∧ some k_ ≠ (.slice Ao63 t358.length co63 : Value).ownBlock ∧ some k_ ≠ (.slice Ao68 t361.length co68 : Value).ownBlock) (.slice Ao55 t350.length co55) t350) := ⟨(by exact rm (rs1 HO352 BK367))⟩
             have n2_ : Aside0 (Kd.R k35 35 (((w62.setCell ⟨gb367, 0, none⟩ (.slice Ao63 t358.length co63)).setCell ⟨gb367, 1, none⟩ (.slice Ao68 t361.length co68)).setCell ⟨gb367, 2, none⟩ (.slice Ao69 t364.length co69)) w.heap.size (fun k_ => some k_ ≠ (.slice Ao69 t364.length co69 : Value).ownBlock) (.slice Ao57 t353.length co57) t353) := ⟨(by exact rm (rs1 HO355 BK367))⟩
             have n3_ : Aside0 (Kd.R (Kd.int .i64) 3 (((w62.setCell ⟨gb367, 0, none⟩ (.slice Ao63 t358.length co63)).setCell ⟨gb367, 1, none⟩ (.slice Ao68 t361.length co68)).setCell ⟨gb367, 2, none⟩ (.slice Ao69 t364.length co69)) w.heap.size (fun k_ => some k_ ≠ (.slice Ao53 t347.length co53 : Value).ownBlock ∧ some k_ ≠ (.slice Ao55 t350.length co55 : Value).ownBlock ∧ some k_ ≠ (.slice Ao68 t361.length co68 : Value).ownBlock) (.slice Ao63 t358.length co63) t358) := ⟨(by exact rm (rs1 HO360 BK367))⟩
             have n4_ : Aside0 (Kd.R (Kd.int .i64) 3 (((w62.setCell ⟨gb367, 0, none⟩ (.slice Ao63 t358.length co63)).setCell ⟨gb367, 1, none⟩ (.slice Ao68 t361.length co68)).setCell ⟨gb367, 2, none⟩ (.slice Ao69 t364.length co69)) w.heap.size (fun k_ => some k_ ≠ (.slice Ao53 t347.length co53 : Value).ownBlock ∧ some k_ ≠ (.slice Ao55 t350.length co55 : Value).ownBlock ∧ some k_ ≠ (.slice Ao63 t358.length co63 : Value).ownBlock) (.slice Ao68 t361.length co68) t361) := ⟨(by exact rm (rs1 HO363 BK367))⟩
             have n5_ : Aside0 (Kd.R k35 35 (((w62.setCell ⟨gb367, 0, none⟩ (.slice Ao63 t358.length co63)).setCell ⟨gb367, 1, none⟩ (.slice Ao68 t361.length co68)).setCell ⟨gb367, 2, none⟩ (.slice Ao69 t364.length co69)) w.heap.size (fun k_ => some k_ ≠ (.slice Ao57 t353.length co57 : Value).ownBlock) (.slice Ao69 t364.length co69) t364) := ⟨(by exact rm (rs1 HO366 BK367))⟩
             have n6_ : Aside0 ((((w62.setCell ⟨gb367, 0, none⟩ (.slice Ao63 t358.length co63)).setCell ⟨gb367, 1, none⟩ (.slice Ao68 t361.length co68)).setCell ⟨gb367, 2, none⟩ (.slice Ao69 t364.length co69)).heap[gb333]? = some (.cells #[.slice A0_0 l0_0.length c0_0, .slice A0_1 l0_1.length c0_1, .slice A0_2 l0_2.length c0_2] 25 (0, 0))) := ⟨bq⟩
             have n7_ : Aside0 ((((w62.setCell ⟨gb367, 0, none⟩ (.slice Ao63 t358.length co63)).setCell ⟨gb367, 1, none⟩ (.slice Ao68 t361.length co68)).setCell ⟨gb367, 2, none⟩ (.slice Ao69 t364.length co69)).heap[gb334]? = some (.cells #[.int .i64 a1_0, .int .i64 a1_1] 27 (0, 0))) := ⟨bq⟩
             have n8_ : Aside0 ((((w62.setCell ⟨gb367, 0, none⟩ (.slice Ao63 t358.length co63)).setCell ⟨gb367, 1, none⟩ (.slice Ao68 t361.length co68)).setCell ⟨gb367, 2, none⟩ (.slice Ao69 t364.length co69)).heap[gb357]? = some (.cells #[.slice Ao53 t347.length co53, .slice Ao55 t350.length co55, .slice Ao57 t353.length co57] 31 (0, 0))) := ⟨bq⟩
             have n9_ : Aside0 ((((w62.setCell ⟨gb367, 0, none⟩ (.slice Ao63 t358.length co63)).setCell ⟨gb367, 1, none⟩ (.slice Ao68 t361.length co68)).setCell ⟨gb367, 2, none⟩ (.slice Ao69 t364.length co69)).heap[gb367]? = some (.cells #[.slice Ao63 t358.length co63, .slice Ao68 t361.length co68, .slice Ao69 t364.length co69] 31 (0, 0))) := ⟨bq⟩
             have n10_ : Aside0 (Below w.heap.size w (((w62.setCell ⟨gb367, 0, none⟩ (.slice Ao63 t358.length co63)).setCell ⟨gb367, 1, none⟩ (.slice Ao68 t361.length co68)).setCell ⟨gb367, 2, none⟩ (.slice Ao69 t364.length co69))) := ⟨bl⟩
             (try clear HO349)
             (try clear HO352)
             (try clear HO355)
             (try clear HO360)
             (try clear HO363)
             (try clear HO366)
             (try clear BK333)
             (try clear BK334)
             (try clear BK357)
             (try clear BK367)
             (try clear HB)
             generalize (((w62.setCell ⟨gb367, 0, none⟩ (.slice Ao63 t358.length co63)).setCell ⟨gb367, 1, none⟩ (.slice Ao68 t361.length co68)).setCell ⟨gb367, 2, none⟩ (.slice Ao69 t364.length co69)) = w70 at n0_ n1_ n2_ n3_ n4_ n5_ n6_ n7_ n8_ n9_ n10_ ⊢
             have HO349 := n0_
             have HO352 := n1_
             have HO355 := n2_
             have HO360 := n3_
             have HO363 := n4_
             have HO366 := n5_
             have BK333 := n6_
             have BK334 := n7_
             have BK357 := n8_
             have BK367 := n9_
             have HB := n10_
             clear n0_ n1_ n2_ n3_ n4_ n5_ n6_ n7_ n8_ n9_ n10_
             replace HO349 := mk (Kd.R_drew HO349.out)
             replace HO352 := mk (Kd.R_drew HO352.out)
             replace HO355 := mk (Kd.R_drew HO355.out)
             replace HO360 := mk (Kd.R_drew HO360.out)
             replace HO363 := mk (Kd.R_drew HO363.out)
             replace HO366 := mk (Kd.R_drew HO366.out)
             replace BK333 := wd BK333
             replace BK334 := wd BK334
             replace BK357 := wd BK357
             replace BK367 := wd BK367
             replace HB := mk (below_drew1 HB.out)
             refine start_ (n := 10) (S := fun w' => w'.cell? ⟨gb367, 0, none⟩ = some (.slice Ao63 t358.length co63) ∧ w'.cell? ⟨gb367, 1, none⟩ = some (.slice Ao68 t361.length co68) ∧ w'.cell? ⟨gb367, 2, none⟩ = some (.slice Ao69 t364.length co69) ∧ w'.cell? ⟨gb334, 0, none⟩ = some (.int .i64 a1_0) ∧ w'.cell? ⟨gb334, 1, none⟩ = some (.int .i64 a1_1)) (ds := []) #[F_, F_, F_, F_, F_, F_, F_, F_, F_, F_] (by kernel_rfl) rfl rfl ⟨bc BK367 0, bc BK367 1, bc BK367 2, bc BK334 0, bc BK334 1⟩ (fun hHeld => ?_); refine with_tabW laws_FnExactAddPivot.tab7 laws_FnExactAddPivot.bits7 (fun HT_ HW_ => ?_)
             generalize w70.drew = w71 at HO349 HO352 HO355 HO360 HO363 HO366 BK333 BK334 BK357 BK367 HB hHeld ⊢
             refine tk 0 32 (tf 1 9) hHeld ?_
             refine tk 1 33 (tf 2 8) hHeld ?_
             refine join_ (σ := Value × Value × Value × Nat) 2 #[T_, T_, T_, T_, T_, T_, T_, T_, F_, F_] (fun s_ => [(34, .agg #[.int .i64 t368, .int .i64 t369]), (35, .tuple #[.agg #[s_.1, s_.2.1, s_.2.2.1], .bool t379]), (9, .pointer (some ⟨s_.2.2.2, 0, none⟩)), (31, .tuple #[.agg #[s_.1, s_.2.1, s_.2.2.1], .bool t379]), (36, .agg #[s_.1, s_.2.1, s_.2.2.1]), (37, .bool t379)]) (fun s_ w' => (w'.cell? ⟨gb367, 0, none⟩ = some (.slice Ao63 t358.length co63) ∧ w'.cell? ⟨gb367, 1, none⟩ = some (.slice Ao68 t361.length co68) ∧ w'.cell? ⟨gb367, 2, none⟩ = some (.slice Ao69 t364.length co69) ∧ w'.cell? ⟨gb334, 0, none⟩ = some (.int .i64 a1_0) ∧ w'.cell? ⟨gb334, 1, none⟩ = some (.int .i64 a1_1)) ∧ (Kd.R (Kd.int .i64) 3 w' w.heap.size (fun k_ => some k_ ≠ (.slice Ao55 t350.length co55 : Value).ownBlock ∧ some k_ ≠ (.slice Ao63 t358.length co63 : Value).ownBlock ∧ some k_ ≠ (.slice Ao68 t361.length co68 : Value).ownBlock ∧ some k_ ≠ (s_.1 : Value).ownBlock ∧ some k_ ≠ (s_.2.1 : Value).ownBlock) (.slice Ao53 t347.length co53) t347) ∧ (Kd.R (Kd.int .i64) 3 w' w.heap.size (fun k_ => some k_ ≠ (.slice Ao53 t347.length co53 : Value).ownBlock ∧ some k_ ≠ (.slice Ao63 t358.length co63 : Value).ownBlock ∧ some k_ ≠ (.slice Ao68 t361.length co68 : Value).ownBlock ∧ some k_ ≠ (s_.1 : Value).ownBlock ∧ some k_ ≠ (s_.2.1 : Value).ownBlock) (.slice Ao55 t350.length co55) t350) ∧ (Kd.R k35 35 w' w.heap.size (fun k_ => some k_ ≠ (.slice Ao69 t364.length co69 : Value).ownBlock ∧ some k_ ≠ (s_.2.2.1 : Value).ownBlock) (.slice Ao57 t353.length co57) t353) ∧ (Kd.R (Kd.int .i64) 3 w' w.heap.size (fun k_ => some k_ ≠ (.slice Ao53 t347.length co53 : Value).ownBlock ∧ some k_ ≠ (.slice Ao55 t350.length co55 : Value).ownBlock ∧ some k_ ≠ (.slice Ao68 t361.length co68 : Value).ownBlock ∧ some k_ ≠ (s_.1 : Value).ownBlock ∧ some k_ ≠ (s_.2.1 : Value).ownBlock) (.slice Ao63 t358.length co63) t358) ∧ (Kd.R (Kd.int .i64) 3 w' w.heap.size (fun k_ => some k_ ≠ (.slice Ao53 t347.length co53 : Value).ownBlock ∧ some k_ ≠ (.slice Ao55 t350.length co55 : Value).ownBlock ∧ some k_ ≠ (.slice Ao63 t358.length co63 : Value).ownBlock ∧ some k_ ≠ (s_.1 : Value).ownBlock ∧ some k_ ≠ (s_.2.1 : Value).ownBlock) (.slice Ao68 t361.length co68) t361) ∧ (Kd.R k35 35 w' w.heap.size (fun k_ => some k_ ≠ (.slice Ao57 t353.length co57 : Value).ownBlock ∧ some k_ ≠ (s_.2.2.1 : Value).ownBlock) (.slice Ao69 t364.length co69) t364) ∧ (Kd.R (Kd.int .i64) 3 w' w.heap.size (fun k_ => some k_ ≠ (.slice Ao53 t347.length co53 : Value).ownBlock ∧ some k_ ≠ (.slice Ao55 t350.length co55 : Value).ownBlock ∧ some k_ ≠ (.slice Ao63 t358.length co63 : Value).ownBlock ∧ some k_ ≠ (.slice Ao68 t361.length co68 : Value).ownBlock ∧ some k_ ≠ (s_.2.1 : Value).ownBlock) s_.1 t370) ∧ (Kd.R (Kd.int .i64) 3 w' w.heap.size (fun k_ => some k_ ≠ (.slice Ao53 t347.length co53 : Value).ownBlock ∧ some k_ ≠ (.slice Ao55 t350.length co55 : Value).ownBlock ∧ some k_ ≠ (.slice Ao63 t358.length co63 : Value).ownBlock ∧ some k_ ≠ (.slice Ao68 t361.length co68 : Value).ownBlock ∧ some k_ ≠ (s_.1 : Value).ownBlock) s_.2.1 t373) ∧ (Kd.R k35 35 w' w.heap.size (fun k_ => some k_ ≠ (.slice Ao57 t353.length co57 : Value).ownBlock ∧ some k_ ≠ (.slice Ao69 t364.length co69 : Value).ownBlock) s_.2.2.1 t376) ∧ (w'.heap[gb333]? = some (.cells #[.slice A0_0 l0_0.length c0_0, .slice A0_1 l0_1.length c0_1, .slice A0_2 l0_2.length c0_2] 25 (0, 0))) ∧ (w'.heap[gb334]? = some (.cells #[.int .i64 a1_0, .int .i64 a1_1] 27 (0, 0))) ∧ (w'.heap[gb357]? = some (.cells #[.slice Ao53 t347.length co53, .slice Ao55 t350.length co55, .slice Ao57 t353.length co57] 31 (0, 0))) ∧ (w'.heap[gb367]? = some (.cells #[.slice Ao63 t358.length co63, .slice Ao68 t361.length co68, .slice Ao69 t364.length co69] 31 (0, 0))) ∧ (w'.heap[s_.2.2.2]? = some (.cells #[.slice none 0 0, .slice none 0 0, .slice none 0 0] 31 (0, 0))) ∧ (w.heap.size ≤ s_.2.2.2) ∧ (w.heap.size ≤ s_.2.2.2) ∧ (gb333 ≠ s_.2.2.2) ∧ (s_.2.2.2 ≠ gb333) ∧ (gb334 ≠ s_.2.2.2) ∧ (s_.2.2.2 ≠ gb334) ∧ (gb357 ≠ s_.2.2.2) ∧ (s_.2.2.2 ≠ gb357) ∧ (gb367 ≠ s_.2.2.2) ∧ (s_.2.2.2 ≠ gb367) ∧ (Below w.heap.size w w')) ?_ ?_
             rotate_left
             ·intro hCont
              refine two_ (i := 2) (j := 7) (Ni := some 34) (Nj := some 9) #[T_, T_, T_, F_, F_, F_, F_, F_, F_, F_] #[T_, T_, F_, F_, F_, F_, F_, T_, F_, F_] rfl rfl rfl rfl (two_of HT_.out (by kernel_rfl)) (by decide) (by decide) (fun K hK => ?_) (fun K hK => ?_)
              ·skip
               refine gs Try.func7 #[.agg #[.int .i64 a1_0, .int .i64 a1_1]] ?_
               with_reducible refine (laws_toPivot.calls a1_0 a1_1 t368 t369 _ A14.out).mono ?_
               rintro e w72 ⟨rfl, hb⟩
               refine ⟨_, rfl, ?_⟩
               replace HO349 := mk (Kd.R_below (up HO349.out) hb)
               replace HO352 := mk (Kd.R_below (up HO352.out) hb)
               replace HO355 := mk (Kd.R_below (up HO355.out) hb)
               replace HO360 := mk (Kd.R_below (up HO360.out) hb)
               replace HO363 := mk (Kd.R_below (up HO363.out) hb)
               replace HO366 := mk (Kd.R_below (up HO366.out) hb)
               replace BK333 := wb BK333 hb
               replace BK334 := wb BK334 hb
               replace BK357 := wb BK357 hb
               replace BK367 := wb BK367 hb
               replace HB := wh hb
               (try clear hb)
               (try clear hb2)
               (try clear hk)
               (try clear hi)
               refine hK.out _ _ ⟨bc BK367 0, bc BK367 1, bc BK367 2, bc BK334 0, bc BK334 1⟩ (fun hHeld => ?_)
               clear hK K
               refine nm 34 ?_
               refine two_ (i := 3) (j := 7) (Ni := some 35) (Nj := some 9) #[T_, T_, T_, T_, F_, F_, F_, F_, F_, F_] #[T_, T_, T_, F_, F_, F_, F_, T_, F_, F_] rfl rfl rfl rfl (two_of HT_.out (by kernel_rfl)) (by decide) (by decide) (fun K hK => ?_) (fun K hK => ?_)
               ·skip
                refine gs Try.func8 #[.agg #[.slice Ao63 t358.length co63, .slice Ao68 t361.length co68, .slice Ao69 t364.length co69], .agg #[.int .i64 t368, .int .i64 t369]] ?_
                with_reducible refine (impl_AddPivot.calls k _ _ t358 _ _ t361 _ _ t364 t368 t369 t370 t373 t376 t379 _ ?side1 ?side2 ?side3 ?side4 ?side5 ?side6 A15.out).mono ?_
                (case side1 => exact uc (Kd.R_reads' HO360.out).2.2)
                (case side2 => exact (Kd.R_reads' HO360.out).2.1)
                (case side3 => exact uc (Kd.R_reads' HO363.out).2.2)
                (case side4 => exact (Kd.R_reads' HO363.out).2.1)
                (case side5 => exact uc (Kd.R_reads' HO366.out).2.2)
                (case side6 => exact (Kd.R_reads' HO366.out).2.1)
                rintro e w73 ⟨v371, v374, v377, rfl, ho0, ho1, ho2, hb⟩
                refine ⟨_, rfl, ?_⟩
                have HO372 := mk (Kd.R_lower (Kd.R_new' (Kd.R_new' (Kd.R_new' (Kd.R_new' ho0 (Kd.R_lt (up HO349.out))) (Kd.R_lt (up HO352.out))) (Kd.R_lt (up HO360.out))) (Kd.R_lt (up HO363.out))) (below_size bl))
                have HO375 := mk (Kd.R_lower (Kd.R_new' (Kd.R_new' (Kd.R_new' (Kd.R_new' ho1 (Kd.R_lt (up HO349.out))) (Kd.R_lt (up HO352.out))) (Kd.R_lt (up HO360.out))) (Kd.R_lt (up HO363.out))) (below_size bl))
                replace HO349 := mk (Kd.R_mono (Kd.R_told (Kd.R_told (Kd.R_old (up HO349.out) hb) (Kd.R_base ho0)) (Kd.R_base ho1)) (fun _ h_ => h_.1))
                replace HO352 := mk (Kd.R_mono (Kd.R_told (Kd.R_told (Kd.R_old (up HO352.out) hb) (Kd.R_base ho0)) (Kd.R_base ho1)) (fun _ h_ => h_.1))
                replace HO360 := mk (Kd.R_mono (Kd.R_told (Kd.R_told (Kd.R_old (up HO360.out) hb) (Kd.R_base ho0)) (Kd.R_base ho1)) (fun _ h_ => h_.1))
                replace HO363 := mk (Kd.R_mono (Kd.R_told (Kd.R_told (Kd.R_old (up HO363.out) hb) (Kd.R_base ho0)) (Kd.R_base ho1)) (fun _ h_ => h_.1))
                have HO378 := mk (Kd.R_lower (Kd.R_new' (Kd.R_new' ho2 (Kd.R_lt (up HO355.out))) (Kd.R_lt (up HO366.out))) (below_size bl))
                replace HO355 := mk (Kd.R_elder' (up HO355.out) (Kd.R_base ho2) hb)
                replace HO366 := mk (Kd.R_elder' (up HO366.out) (Kd.R_base ho2) hb)
                replace BK333 := wb BK333 hb
                replace BK334 := wb BK334 hb
                replace BK357 := wb BK357 hb
                replace BK367 := wb BK367 hb
                replace HB := wh hb
                (try clear hb)
                (try clear hb2)
                (try clear hk)
                (try clear hi)
                (try clear ho0)
                (try clear ho1)
                (try clear ho2)
                refine hK.out _ _ ⟨bc BK367 0, bc BK367 1, bc BK367 2, bc BK334 0, bc BK334 1⟩ (fun hHeld => ?_)
                clear hK K
                refine nm 35 ?_
                refine pu 4 31 (tf 5 5) ?_
                refine pu 5 36 (tf 6 4) ?_
                refine pu 6 37 (tf 7 3) ?_
                refine on 7 9 (tf 8 2) (fun K hK => ?_)
                refine box_step ?hg (N := 9) ?hd (cs := #[.slice none 0 0, .slice none 0 0, .slice none 0 0]) (t := 31) ?hr ?_; (case hd => rfl); (case hg => rfl); (case hr => first | (go_simp; done) | (go_simp; rfl))
                intro gb380 hg w74 hbox hb
                replace HO349 := mk (Kd.R_below (up HO349.out) hb)
                replace HO352 := mk (Kd.R_below (up HO352.out) hb)
                replace HO355 := mk (Kd.R_below (up HO355.out) hb)
                replace HO360 := mk (Kd.R_below (up HO360.out) hb)
                replace HO363 := mk (Kd.R_below (up HO363.out) hb)
                replace HO366 := mk (Kd.R_below (up HO366.out) hb)
                replace HO372 := mk (Kd.R_below (up HO372.out) hb)
                replace HO375 := mk (Kd.R_below (up HO375.out) hb)
                replace HO378 := mk (Kd.R_below (up HO378.out) hb)
                have BK380 := mk hbox
                have GW380 := wg hg
                have GE380 := wg hg
                replace HB := wh hb
                have NB333_380 := nl BK333 hg
                have NB380_333 := nr BK333 hg
                replace BK333 := wb BK333 hb
                have NB334_380 := nl BK334 hg
                have NB380_334 := nr BK334 hg
                replace BK334 := wb BK334 hb
                have NB357_380 := nl BK357 hg
                have NB380_357 := nr BK357 hg
                replace BK357 := wb BK357 hb
                have NB367_380 := nl BK367 hg
                have NB380_367 := nr BK367 hg
                replace BK367 := wb BK367 hb
                clear hb hbox hg
                refine hK.out _ _ ⟨bc BK367 0, bc BK367 1, bc BK367 2, bc BK334 0, bc BK334 1⟩ (fun hHeld => ?_)
                clear hK K
                refine nm 9 ?_
                exact norm_ (by simp only [putAll, Act.put, List.setIfInBounds_toArray, List.set_cons_zero, List.set_cons_succ]) (hCont (v371, v374, v377, gb380) _ ⟨hHeld, (by exact up (Kd.R_mono HO349.out (fun _ hk => by first | exact ⟨hk.1.1.1, ⟨hk.1.1.2.1, ⟨hk.1.1.2.2, ⟨hk.1.2, hk.2⟩⟩⟩⟩ | (revert hk; simp only [and_imp]; intros; (repeat' (refine And.intro ?_ ?_)) <;> assumption)))), (by exact up (Kd.R_mono HO352.out (fun _ hk => by first | exact ⟨hk.1.1.1, ⟨hk.1.1.2.1, ⟨hk.1.1.2.2, ⟨hk.1.2, hk.2⟩⟩⟩⟩ | (revert hk; simp only [and_imp]; intros; (repeat' (refine And.intro ?_ ?_)) <;> assumption)))), (up HO355.out), (by exact up (Kd.R_mono HO360.out (fun _ hk => by first | exact ⟨hk.1.1.1, ⟨hk.1.1.2.1, ⟨hk.1.1.2.2, ⟨hk.1.2, hk.2⟩⟩⟩⟩ | (revert hk; simp only [and_imp]; intros; (repeat' (refine And.intro ?_ ?_)) <;> assumption)))), (by exact up (Kd.R_mono HO363.out (fun _ hk => by first | exact ⟨hk.1.1.1, ⟨hk.1.1.2.1, ⟨hk.1.1.2.2, ⟨hk.1.2, hk.2⟩⟩⟩⟩ | (revert hk; simp only [and_imp]; intros; (repeat' (refine And.intro ?_ ?_)) <;> assumption)))), (up HO366.out), (by exact up (Kd.R_mono HO372.out (fun _ hk => by first | exact ⟨hk.1.1.1.2, ⟨hk.1.1.2, ⟨hk.1.2, ⟨hk.2, hk.1.1.1.1⟩⟩⟩⟩ | (revert hk; simp only [and_imp]; intros; (repeat' (refine And.intro ?_ ?_)) <;> assumption)))), (by exact up (Kd.R_mono HO375.out (fun _ hk => by first | exact ⟨hk.1.1.1.2, ⟨hk.1.1.2, ⟨hk.1.2, ⟨hk.2, hk.1.1.1.1⟩⟩⟩⟩ | (revert hk; simp only [and_imp]; intros; (repeat' (refine And.intro ?_ ?_)) <;> assumption)))), (by exact up (Kd.R_mono HO378.out (fun _ hk => by first | exact ⟨hk.1.2, hk.2⟩ | (revert hk; simp only [and_imp]; intros; (repeat' (refine And.intro ?_ ?_)) <;> assumption)))), (ub BK333.out), (ub BK334.out), (ub BK357.out), (ub BK367.out), (ub BK380.out), GW380.out, GE380.out, NB333_380.out, NB380_333.out, NB334_380.out, NB380_334.out, NB357_380.out, NB380_357.out, NB367_380.out, NB380_367.out, bl⟩)
               ·skip
                refine box_step ?hg (N := 9) ?hd (cs := #[.slice none 0 0, .slice none 0 0, .slice none 0 0]) (t := 31) ?hr ?_; (case hd => rfl); (case hg => rfl); (case hr => first | (go_simp; done) | (go_simp; rfl))
                intro gb380 hg w73 hbox hb
                replace HO349 := mk (Kd.R_below (up HO349.out) hb)
                replace HO352 := mk (Kd.R_below (up HO352.out) hb)
                replace HO355 := mk (Kd.R_below (up HO355.out) hb)
                replace HO360 := mk (Kd.R_below (up HO360.out) hb)
                replace HO363 := mk (Kd.R_below (up HO363.out) hb)
                replace HO366 := mk (Kd.R_below (up HO366.out) hb)
                have BK380 := mk hbox
                have GW380 := wg hg
                have GE380 := wg hg
                replace HB := wh hb
                have NB333_380 := nl BK333 hg
                have NB380_333 := nr BK333 hg
                replace BK333 := wb BK333 hb
                have NB334_380 := nl BK334 hg
                have NB380_334 := nr BK334 hg
                replace BK334 := wb BK334 hb
                have NB357_380 := nl BK357 hg
                have NB380_357 := nr BK357 hg
                replace BK357 := wb BK357 hb
                have NB367_380 := nl BK367 hg
                have NB380_367 := nr BK367 hg
                replace BK367 := wb BK367 hb
                clear hb hbox hg
                refine hK.out _ _ ⟨bc BK367 0, bc BK367 1, bc BK367 2, bc BK334 0, bc BK334 1⟩ (fun hHeld => ?_)
                clear hK K
                refine nm 9 ?_
                refine on 3 35 #[T_,T_,T_,T_,F_,F_,F_,T_,F_,F_] (fun K hK => ?_)
                refine gs Try.func8 #[.agg #[.slice Ao63 t358.length co63, .slice Ao68 t361.length co68, .slice Ao69 t364.length co69], .agg #[.int .i64 t368, .int .i64 t369]] ?_
                with_reducible refine (impl_AddPivot.calls k _ _ t358 _ _ t361 _ _ t364 t368 t369 t370 t373 t376 t379 _ ?side1 ?side2 ?side3 ?side4 ?side5 ?side6 A15.out).mono ?_
                (case side1 => exact uc (Kd.R_reads' HO360.out).2.2)
                (case side2 => exact (Kd.R_reads' HO360.out).2.1)
                (case side3 => exact uc (Kd.R_reads' HO363.out).2.2)
                (case side4 => exact (Kd.R_reads' HO363.out).2.1)
                (case side5 => exact uc (Kd.R_reads' HO366.out).2.2)
                (case side6 => exact (Kd.R_reads' HO366.out).2.1)
                rintro e w74 ⟨v371, v374, v377, rfl, ho0, ho1, ho2, hb⟩
                refine ⟨_, rfl, ?_⟩
                have HO372 := mk (Kd.R_lower (Kd.R_new' (Kd.R_new' (Kd.R_new' (Kd.R_new' ho0 (Kd.R_lt (up HO349.out))) (Kd.R_lt (up HO352.out))) (Kd.R_lt (up HO360.out))) (Kd.R_lt (up HO363.out))) (below_size bl))
                have HO375 := mk (Kd.R_lower (Kd.R_new' (Kd.R_new' (Kd.R_new' (Kd.R_new' ho1 (Kd.R_lt (up HO349.out))) (Kd.R_lt (up HO352.out))) (Kd.R_lt (up HO360.out))) (Kd.R_lt (up HO363.out))) (below_size bl))
                replace HO349 := mk (Kd.R_mono (Kd.R_told (Kd.R_told (Kd.R_old (up HO349.out) hb) (Kd.R_base ho0)) (Kd.R_base ho1)) (fun _ h_ => h_.1))
                replace HO352 := mk (Kd.R_mono (Kd.R_told (Kd.R_told (Kd.R_old (up HO352.out) hb) (Kd.R_base ho0)) (Kd.R_base ho1)) (fun _ h_ => h_.1))
                replace HO360 := mk (Kd.R_mono (Kd.R_told (Kd.R_told (Kd.R_old (up HO360.out) hb) (Kd.R_base ho0)) (Kd.R_base ho1)) (fun _ h_ => h_.1))
                replace HO363 := mk (Kd.R_mono (Kd.R_told (Kd.R_told (Kd.R_old (up HO363.out) hb) (Kd.R_base ho0)) (Kd.R_base ho1)) (fun _ h_ => h_.1))
                have HO378 := mk (Kd.R_lower (Kd.R_new' (Kd.R_new' ho2 (Kd.R_lt (up HO355.out))) (Kd.R_lt (up HO366.out))) (below_size bl))
                replace HO355 := mk (Kd.R_elder' (up HO355.out) (Kd.R_base ho2) hb)
                replace HO366 := mk (Kd.R_elder' (up HO366.out) (Kd.R_base ho2) hb)
                replace BK333 := wb BK333 hb
                replace BK334 := wb BK334 hb
                replace BK357 := wb BK357 hb
                replace BK367 := wb BK367 hb
                replace BK380 := wb BK380 hb
                replace HB := wh hb
                (try clear hb)
                (try clear hb2)
                (try clear hk)
                (try clear hi)
                (try clear ho0)
                (try clear ho1)
                (try clear ho2)
                refine hK.out _ _ ⟨bc BK367 0, bc BK367 1, bc BK367 2, bc BK334 0, bc BK334 1⟩ (fun hHeld => ?_)
                clear hK K
                refine nm 35 ?_
                refine pu 4 31 #[T_,T_,T_,T_,T_,F_,F_,T_,F_,F_] ?_
                refine pu 5 36 #[T_,T_,T_,T_,T_,T_,F_,T_,F_,F_] ?_
                refine pu 6 37 (tf 8 2) ?_
                exact norm_ (by simp only [putAll, Act.put, List.setIfInBounds_toArray, List.set_cons_zero, List.set_cons_succ]) (hCont (v371, v374, v377, gb380) _ ⟨hHeld, (by exact up (Kd.R_mono HO349.out (fun _ hk => by first | exact ⟨hk.1.1.1, ⟨hk.1.1.2.1, ⟨hk.1.1.2.2, ⟨hk.1.2, hk.2⟩⟩⟩⟩ | (revert hk; simp only [and_imp]; intros; (repeat' (refine And.intro ?_ ?_)) <;> assumption)))), (by exact up (Kd.R_mono HO352.out (fun _ hk => by first | exact ⟨hk.1.1.1, ⟨hk.1.1.2.1, ⟨hk.1.1.2.2, ⟨hk.1.2, hk.2⟩⟩⟩⟩ | (revert hk; simp only [and_imp]; intros; (repeat' (refine And.intro ?_ ?_)) <;> assumption)))), (up HO355.out), (by exact up (Kd.R_mono HO360.out (fun _ hk => by first | exact ⟨hk.1.1.1, ⟨hk.1.1.2.1, ⟨hk.1.1.2.2, ⟨hk.1.2, hk.2⟩⟩⟩⟩ | (revert hk; simp only [and_imp]; intros; (repeat' (refine And.intro ?_ ?_)) <;> assumption)))), (by exact up (Kd.R_mono HO363.out (fun _ hk => by first | exact ⟨hk.1.1.1, ⟨hk.1.1.2.1, ⟨hk.1.1.2.2, ⟨hk.1.2, hk.2⟩⟩⟩⟩ | (revert hk; simp only [and_imp]; intros; (repeat' (refine And.intro ?_ ?_)) <;> assumption)))), (up HO366.out), (by exact up (Kd.R_mono HO372.out (fun _ hk => by first | exact ⟨hk.1.1.1.2, ⟨hk.1.1.2, ⟨hk.1.2, ⟨hk.2, hk.1.1.1.1⟩⟩⟩⟩ | (revert hk; simp only [and_imp]; intros; (repeat' (refine And.intro ?_ ?_)) <;> assumption)))), (by exact up (Kd.R_mono HO375.out (fun _ hk => by first | exact ⟨hk.1.1.1.2, ⟨hk.1.1.2, ⟨hk.1.2, ⟨hk.2, hk.1.1.1.1⟩⟩⟩⟩ | (revert hk; simp only [and_imp]; intros; (repeat' (refine And.intro ?_ ?_)) <;> assumption)))), (by exact up (Kd.R_mono HO378.out (fun _ hk => by first | exact ⟨hk.1.2, hk.2⟩ | (revert hk; simp only [and_imp]; intros; (repeat' (refine And.intro ?_ ?_)) <;> assumption)))), (ub BK333.out), (ub BK334.out), (ub BK357.out), (ub BK367.out), (ub BK380.out), GW380.out, GE380.out, NB333_380.out, NB380_333.out, NB334_380.out, NB380_334.out, NB357_380.out, NB380_357.out, NB367_380.out, NB380_367.out, bl⟩)
              ·skip
               refine box_step ?hg (N := 9) ?hd (cs := #[.slice none 0 0, .slice none 0 0, .slice none 0 0]) (t := 31) ?hr ?_; (case hd => rfl); (case hg => rfl); (case hr => first | (go_simp; done) | (go_simp; rfl))
               intro gb380 hg w72 hbox hb
               replace HO349 := mk (Kd.R_below (up HO349.out) hb)
               replace HO352 := mk (Kd.R_below (up HO352.out) hb)
               replace HO355 := mk (Kd.R_below (up HO355.out) hb)
               replace HO360 := mk (Kd.R_below (up HO360.out) hb)
               replace HO363 := mk (Kd.R_below (up HO363.out) hb)
               replace HO366 := mk (Kd.R_below (up HO366.out) hb)
               have BK380 := mk hbox
               have GW380 := wg hg
               have GE380 := wg hg
               replace HB := wh hb
               have NB333_380 := nl BK333 hg
               have NB380_333 := nr BK333 hg
               replace BK333 := wb BK333 hb
               have NB334_380 := nl BK334 hg
               have NB380_334 := nr BK334 hg
               replace BK334 := wb BK334 hb
               have NB357_380 := nl BK357 hg
               have NB380_357 := nr BK357 hg
               replace BK357 := wb BK357 hb
               have NB367_380 := nl BK367 hg
               have NB380_367 := nr BK367 hg
               replace BK367 := wb BK367 hb
               clear hb hbox hg
               refine hK.out _ _ ⟨bc BK367 0, bc BK367 1, bc BK367 2, bc BK334 0, bc BK334 1⟩ (fun hHeld => ?_)
               clear hK K
               refine nm 9 ?_
               refine on 2 34 #[T_,T_,T_,F_,F_,F_,F_,T_,F_,F_] (fun K hK => ?_)
               refine gs Try.func7 #[.agg #[.int .i64 a1_0, .int .i64 a1_1]] ?_
               with_reducible refine (laws_toPivot.calls a1_0 a1_1 t368 t369 _ A14.out).mono ?_
               rintro e w73 ⟨rfl, hb⟩
               refine ⟨_, rfl, ?_⟩
               replace HO349 := mk (Kd.R_below (up HO349.out) hb)
               replace HO352 := mk (Kd.R_below (up HO352.out) hb)
               replace HO355 := mk (Kd.R_below (up HO355.out) hb)
               replace HO360 := mk (Kd.R_below (up HO360.out) hb)
               replace HO363 := mk (Kd.R_below (up HO363.out) hb)
               replace HO366 := mk (Kd.R_below (up HO366.out) hb)
               replace BK333 := wb BK333 hb
               replace BK334 := wb BK334 hb
               replace BK357 := wb BK357 hb
               replace BK367 := wb BK367 hb
               replace BK380 := wb BK380 hb
               replace HB := wh hb
               (try clear hb)
               (try clear hb2)
               (try clear hk)
               (try clear hi)
               refine hK.out _ _ ⟨bc BK367 0, bc BK367 1, bc BK367 2, bc BK334 0, bc BK334 1⟩ (fun hHeld => ?_)
               clear hK K
               refine nm 34 ?_
               refine on 3 35 #[T_,T_,T_,T_,F_,F_,F_,T_,F_,F_] (fun K hK => ?_)
               refine gs Try.func8 #[.agg #[.slice Ao63 t358.length co63, .slice Ao68 t361.length co68, .slice Ao69 t364.length co69], .agg #[.int .i64 t368, .int .i64 t369]] ?_
               with_reducible refine (impl_AddPivot.calls k _ _ t358 _ _ t361 _ _ t364 t368 t369 t370 t373 t376 t379 _ ?side1 ?side2 ?side3 ?side4 ?side5 ?side6 A15.out).mono ?_
               (case side1 => exact uc (Kd.R_reads' HO360.out).2.2)
               (case side2 => exact (Kd.R_reads' HO360.out).2.1)
               (case side3 => exact uc (Kd.R_reads' HO363.out).2.2)
               (case side4 => exact (Kd.R_reads' HO363.out).2.1)
               (case side5 => exact uc (Kd.R_reads' HO366.out).2.2)
               (case side6 => exact (Kd.R_reads' HO366.out).2.1)
               rintro e w74 ⟨v371, v374, v377, rfl, ho0, ho1, ho2, hb⟩
               refine ⟨_, rfl, ?_⟩
               have HO372 := mk (Kd.R_lower (Kd.R_new' (Kd.R_new' (Kd.R_new' (Kd.R_new' ho0 (Kd.R_lt (up HO349.out))) (Kd.R_lt (up HO352.out))) (Kd.R_lt (up HO360.out))) (Kd.R_lt (up HO363.out))) (below_size bl))
               have HO375 := mk (Kd.R_lower (Kd.R_new' (Kd.R_new' (Kd.R_new' (Kd.R_new' ho1 (Kd.R_lt (up HO349.out))) (Kd.R_lt (up HO352.out))) (Kd.R_lt (up HO360.out))) (Kd.R_lt (up HO363.out))) (below_size bl))
               replace HO349 := mk (Kd.R_mono (Kd.R_told (Kd.R_told (Kd.R_old (up HO349.out) hb) (Kd.R_base ho0)) (Kd.R_base ho1)) (fun _ h_ => h_.1))
               replace HO352 := mk (Kd.R_mono (Kd.R_told (Kd.R_told (Kd.R_old (up HO352.out) hb) (Kd.R_base ho0)) (Kd.R_base ho1)) (fun _ h_ => h_.1))
               replace HO360 := mk (Kd.R_mono (Kd.R_told (Kd.R_told (Kd.R_old (up HO360.out) hb) (Kd.R_base ho0)) (Kd.R_base ho1)) (fun _ h_ => h_.1))
               replace HO363 := mk (Kd.R_mono (Kd.R_told (Kd.R_told (Kd.R_old (up HO363.out) hb) (Kd.R_base ho0)) (Kd.R_base ho1)) (fun _ h_ => h_.1))
               have HO378 := mk (Kd.R_lower (Kd.R_new' (Kd.R_new' ho2 (Kd.R_lt (up HO355.out))) (Kd.R_lt (up HO366.out))) (below_size bl))
               replace HO355 := mk (Kd.R_elder' (up HO355.out) (Kd.R_base ho2) hb)
               replace HO366 := mk (Kd.R_elder' (up HO366.out) (Kd.R_base ho2) hb)
               replace BK333 := wb BK333 hb
               replace BK334 := wb BK334 hb
               replace BK357 := wb BK357 hb
               replace BK367 := wb BK367 hb
               replace BK380 := wb BK380 hb
               replace HB := wh hb
               (try clear hb)
               (try clear hb2)
               (try clear hk)
               (try clear hi)
               (try clear ho0)
               (try clear ho1)
               (try clear ho2)
               refine hK.out _ _ ⟨bc BK367 0, bc BK367 1, bc BK367 2, bc BK334 0, bc BK334 1⟩ (fun hHeld => ?_)
               clear hK K
               refine nm 35 ?_
               refine pu 4 31 #[T_,T_,T_,T_,T_,F_,F_,T_,F_,F_] ?_
               refine pu 5 36 #[T_,T_,T_,T_,T_,T_,F_,T_,F_,F_] ?_
               refine pu 6 37 (tf 8 2) ?_
               exact norm_ (by simp only [putAll, Act.put, List.setIfInBounds_toArray, List.set_cons_zero, List.set_cons_succ]) (hCont (v371, v374, v377, gb380) _ ⟨hHeld, (by exact up (Kd.R_mono HO349.out (fun _ hk => by first | exact ⟨hk.1.1.1, ⟨hk.1.1.2.1, ⟨hk.1.1.2.2, ⟨hk.1.2, hk.2⟩⟩⟩⟩ | (revert hk; simp only [and_imp]; intros; (repeat' (refine And.intro ?_ ?_)) <;> assumption)))), (by exact up (Kd.R_mono HO352.out (fun _ hk => by first | exact ⟨hk.1.1.1, ⟨hk.1.1.2.1, ⟨hk.1.1.2.2, ⟨hk.1.2, hk.2⟩⟩⟩⟩ | (revert hk; simp only [and_imp]; intros; (repeat' (refine And.intro ?_ ?_)) <;> assumption)))), (up HO355.out), (by exact up (Kd.R_mono HO360.out (fun _ hk => by first | exact ⟨hk.1.1.1, ⟨hk.1.1.2.1, ⟨hk.1.1.2.2, ⟨hk.1.2, hk.2⟩⟩⟩⟩ | (revert hk; simp only [and_imp]; intros; (repeat' (refine And.intro ?_ ?_)) <;> assumption)))), (by exact up (Kd.R_mono HO363.out (fun _ hk => by first | exact ⟨hk.1.1.1, ⟨hk.1.1.2.1, ⟨hk.1.1.2.2, ⟨hk.1.2, hk.2⟩⟩⟩⟩ | (revert hk; simp only [and_imp]; intros; (repeat' (refine And.intro ?_ ?_)) <;> assumption)))), (up HO366.out), (by exact up (Kd.R_mono HO372.out (fun _ hk => by first | exact ⟨hk.1.1.1.2, ⟨hk.1.1.2, ⟨hk.1.2, ⟨hk.2, hk.1.1.1.1⟩⟩⟩⟩ | (revert hk; simp only [and_imp]; intros; (repeat' (refine And.intro ?_ ?_)) <;> assumption)))), (by exact up (Kd.R_mono HO375.out (fun _ hk => by first | exact ⟨hk.1.1.1.2, ⟨hk.1.1.2, ⟨hk.1.2, ⟨hk.2, hk.1.1.1.1⟩⟩⟩⟩ | (revert hk; simp only [and_imp]; intros; (repeat' (refine And.intro ?_ ?_)) <;> assumption)))), (by exact up (Kd.R_mono HO378.out (fun _ hk => by first | exact ⟨hk.1.2, hk.2⟩ | (revert hk; simp only [and_imp]; intros; (repeat' (refine And.intro ?_ ?_)) <;> assumption)))), (ub BK333.out), (ub BK334.out), (ub BK357.out), (ub BK367.out), (ub BK380.out), GW380.out, GE380.out, NB333_380.out, NB380_333.out, NB334_380.out, NB380_334.out, NB357_380.out, NB380_357.out, NB367_380.out, NB380_367.out, bl⟩)
             rintro ⟨v371, v374, v377, gb380⟩ w75 ⟨hS_, h0_, h1_, h2_, h3_, h4_, h5_, h6_, h7_, h8_, h9_, h10_, h11_, h12_, h13_, h14_, h15_, h16_, h17_, h18_, h19_, h20_, h21_, h22_, h23_, h24_⟩
             have n0_ : Aside0 (Kd.R (Kd.int .i64) 3 w75 w.heap.size (fun k_ => some k_ ≠ (.slice Ao55 t350.length co55 : Value).ownBlock ∧ some k_ ≠ (.slice Ao63 t358.length co63 : Value).ownBlock ∧ some k_ ≠ (.slice Ao68 t361.length co68 : Value).ownBlock ∧ some k_ ≠ (v371 : Value).ownBlock ∧ some k_ ≠ (v374 : Value).ownBlock) (.slice Ao53 t347.length co53) t347) := ⟨h0_⟩
             have n1_ : Aside0 (Kd.R (Kd.int .i64) 3 w75 w.heap.size (fun k_ => some k_ ≠ (.slice Ao53 t347.length co53 : Value).ownBlock ∧ some k_ ≠ (.slice Ao63 t358.length co63 : Value).ownBlock ∧ some k_ ≠ (.slice Ao68 t361.length co68 : Value).ownBlock ∧ some k_ ≠ (v371 : Value).ownBlock ∧ some k_ ≠ (v374 : Value).ownBlock) (.slice Ao55 t350.length co55) t350) := ⟨h1_⟩
             have n2_ : Aside0 (Kd.R k35 35 w75 w.heap.size (fun k_ => some k_ ≠ (.slice Ao69 t364.length co69 : Value).ownBlock ∧ some k_ ≠ (v377 : Value).ownBlock) (.slice Ao57 t353.length co57) t353) := ⟨h2_⟩
             have n3_ : Aside0 (Kd.R (Kd.int .i64) 3 w75 w.heap.size (fun k_ => some k_ ≠ (.slice Ao53 t347.length co53 : Value).ownBlock ∧ some k_ ≠ (.slice Ao55 t350.length co55 : Value).ownBlock ∧ some k_ ≠ (.slice Ao68 t361.length co68 : Value).ownBlock ∧ some k_ ≠ (v371 : Value).ownBlock ∧ some k_ ≠ (v374 : Value).ownBlock) (.slice Ao63 t358.length co63) t358) := ⟨h3_⟩
             have n4_ : Aside0 (Kd.R (Kd.int .i64) 3 w75 w.heap.size (fun k_ => some k_ ≠ (.slice Ao53 t347.length co53 : Value).ownBlock ∧ some k_ ≠ (.slice Ao55 t350.length co55 : Value).ownBlock ∧ some k_ ≠ (.slice Ao63 t358.length co63 : Value).ownBlock ∧ some k_ ≠ (v371 : Value).ownBlock ∧ some k_ ≠ (v374 : Value).ownBlock) (.slice Ao68 t361.length co68) t361) := ⟨h4_⟩
             have n5_ : Aside0 (Kd.R k35 35 w75 w.heap.size (fun k_ => some k_ ≠ (.slice Ao57 t353.length co57 : Value).ownBlock ∧ some k_ ≠ (v377 : Value).ownBlock) (.slice Ao69 t364.length co69) t364) := ⟨h5_⟩
             have n6_ : Aside0 (Kd.R (Kd.int .i64) 3 w75 w.heap.size (fun k_ => some k_ ≠ (.slice Ao53 t347.length co53 : Value).ownBlock ∧ some k_ ≠ (.slice Ao55 t350.length co55 : Value).ownBlock ∧ some k_ ≠ (.slice Ao63 t358.length co63 : Value).ownBlock ∧ some k_ ≠ (.slice Ao68 t361.length co68 : Value).ownBlock ∧ some k_ ≠ (v374 : Value).ownBlock) v371 t370) := ⟨h6_⟩
             have n7_ : Aside0 (Kd.R (Kd.int .i64) 3 w75 w.heap.size (fun k_ => some k_ ≠ (.slice Ao53 t347.length co53 : Value).ownBlock ∧ some k_ ≠ (.slice Ao55 t350.length co55 : Value).ownBlock ∧ some k_ ≠ (.slice Ao63 t358.length co63 : Value).ownBlock ∧ some k_ ≠ (.slice Ao68 t361.length co68 : Value).ownBlock ∧ some k_ ≠ (v371 : Value).ownBlock) v374 t373) := ⟨h7_⟩
             have n8_ : Aside0 (Kd.R k35 35 w75 w.heap.size (fun k_ => some k_ ≠ (.slice Ao57 t353.length co57 : Value).ownBlock ∧ some k_ ≠ (.slice Ao69 t364.length co69 : Value).ownBlock) v377 t376) := ⟨h8_⟩
             have n9_ : Aside0 (w75.heap[gb333]? = some (.cells #[.slice A0_0 l0_0.length c0_0, .slice A0_1 l0_1.length c0_1, .slice A0_2 l0_2.length c0_2] 25 (0, 0))) := ⟨h9_⟩
             have n10_ : Aside0 (w75.heap[gb334]? = some (.cells #[.int .i64 a1_0, .int .i64 a1_1] 27 (0, 0))) := ⟨h10_⟩
             have n11_ : Aside0 (w75.heap[gb357]? = some (.cells #[.slice Ao53 t347.length co53, .slice Ao55 t350.length co55, .slice Ao57 t353.length co57] 31 (0, 0))) := ⟨h11_⟩
             have n12_ : Aside0 (w75.heap[gb367]? = some (.cells #[.slice Ao63 t358.length co63, .slice Ao68 t361.length co68, .slice Ao69 t364.length co69] 31 (0, 0))) := ⟨h12_⟩
             have n13_ : Aside0 (w75.heap[gb380]? = some (.cells #[.slice none 0 0, .slice none 0 0, .slice none 0 0] 31 (0, 0))) := ⟨h13_⟩
             have n14_ : Aside0 (w.heap.size ≤ gb380) := ⟨h14_⟩
             have n15_ : Aside0 (w.heap.size ≤ gb380) := ⟨h15_⟩
             have n16_ : Aside0 (gb333 ≠ gb380) := ⟨h16_⟩
             have n17_ : Aside0 (gb380 ≠ gb333) := ⟨h17_⟩
             have n18_ : Aside0 (gb334 ≠ gb380) := ⟨h18_⟩
             have n19_ : Aside0 (gb380 ≠ gb334) := ⟨h19_⟩
             have n20_ : Aside0 (gb357 ≠ gb380) := ⟨h20_⟩
             have n21_ : Aside0 (gb380 ≠ gb357) := ⟨h21_⟩
             have n22_ : Aside0 (gb367 ≠ gb380) := ⟨h22_⟩
             have n23_ : Aside0 (gb380 ≠ gb367) := ⟨h23_⟩
             have n24_ : Aside0 (Below w.heap.size w w75) := ⟨h24_⟩
             clear HO349
             clear HO352
             clear HO355
             clear HO360
             clear HO363
             clear HO366
             clear BK333
             clear BK334
             clear BK357
             clear BK367
             clear HB
             clear h0_ h1_ h2_ h3_ h4_ h5_ h6_ h7_ h8_ h9_ h10_ h11_ h12_ h13_ h14_ h15_ h16_ h17_ h18_ h19_ h20_ h21_ h22_ h23_ h24_
             have HO349 := n0_
             have HO352 := n1_
             have HO355 := n2_
             have HO360 := n3_
             have HO363 := n4_
             have HO366 := n5_
             have HO372 := n6_
             have HO375 := n7_
             have HO378 := n8_
             have BK333 := n9_
             have BK334 := n10_
             have BK357 := n11_
             have BK367 := n12_
             have BK380 := n13_
             have GW380 := n14_
             have GE380 := n15_
             have NB333_380 := n16_
             have NB380_333 := n17_
             have NB334_380 := n18_
             have NB380_334 := n19_
             have NB357_380 := n20_
             have NB380_357 := n21_
             have NB367_380 := n22_
             have NB380_367 := n23_
             have HB := n24_
             clear n0_ n1_ n2_ n3_ n4_ n5_ n6_ n7_ n8_ n9_ n10_ n11_ n12_ n13_ n14_ n15_ n16_ n17_ n18_ n19_ n20_ n21_ n22_ n23_ n24_
             have hHeld : w75.cell? ⟨gb367, 0, none⟩ = some (.slice Ao63 t358.length co63) ∧ w75.cell? ⟨gb367, 1, none⟩ = some (.slice Ao68 t361.length co68) ∧ w75.cell? ⟨gb367, 2, none⟩ = some (.slice Ao69 t364.length co69) ∧ w75.cell? ⟨gb334, 0, none⟩ = some (.int .i64 a1_0) ∧ w75.cell? ⟨gb334, 1, none⟩ = some (.int .i64 a1_1) := hS_
             obtain ⟨Ao76, co76, eo76⟩ := Kd.R_slice HO372.out
             (first | subst eo76 | (injection eo76 with f1_ f2_ f3_; have f4_ := f1_.symm; have f5_ := f3_.symm; clear f1_ f2_ f3_; subst f4_; subst f5_))
             obtain ⟨Ao78, co78, eo78⟩ := Kd.R_slice HO375.out
             (first | subst eo78 | (injection eo78 with f1_ f2_ f3_; have f4_ := f1_.symm; have f5_ := f3_.symm; clear f1_ f2_ f3_; subst f4_; subst f5_))
             obtain ⟨Ao80, co80, eo80⟩ := Kd.R_slice HO378.out
             (first | subst eo80 | (injection eo80 with f1_ f2_ f3_; have f4_ := f1_.symm; have f5_ := f3_.symm; clear f1_ f2_ f3_; subst f4_; subst f5_))
             refine norm_ (a' := ?_) ?_ ?_
             rotate_left
             ·simp only [putAll, Act.put, List.setIfInBounds_toArray, List.set_cons_zero, List.set_cons_succ]
              rfl
             refine one_ (i := 8) (N := none) #[T_, T_, T_, T_, T_, T_, T_, T_, T_, F_] rfl rfl (one_of HT_.out (by kernel_rfl)) (by decide) (fun K hK => ?_)
             have hs77 : w75.cell? ⟨gb380, 0, none⟩ = some (.slice none 0 0) := (blk_cell BK380.out 0).trans rfl
             have hfs77 := blk_frozen BK380.out 0
             have hns77_0 := NB333_380.out
             have hns77_1 := NB334_380.out
             have hns77_2 := NB357_380.out
             have hns77_3 := NB367_380.out
             have hms77_0 := NB380_333.out
             have hms77_1 := NB380_334.out
             have hms77_2 := NB380_357.out
             have hms77_3 := NB380_367.out
             have hs79 : w75.cell? ⟨gb380, 1, none⟩ = some (.slice none 0 0) := (blk_cell BK380.out 1).trans rfl
             have hfs79 := blk_frozen BK380.out 1
             have hns79_0 := NB333_380.out
             have hns79_1 := NB334_380.out
             have hns79_2 := NB357_380.out
             have hns79_3 := NB367_380.out
             have hms79_0 := NB380_333.out
             have hms79_1 := NB380_334.out
             have hms79_2 := NB380_357.out
             have hms79_3 := NB380_367.out
             have hs81 : w75.cell? ⟨gb380, 2, none⟩ = some (.slice none 0 0) := (blk_cell BK380.out 2).trans rfl
             have hfs81 := blk_frozen BK380.out 2
             have hns81_0 := NB333_380.out
             have hns81_1 := NB334_380.out
             have hns81_2 := NB357_380.out
             have hns81_3 := NB367_380.out
             have hms81_0 := NB380_333.out
             have hms81_1 := NB380_334.out
             have hms81_2 := NB380_357.out
             have hms81_3 := NB380_367.out
             refine skip_ (w1 := ?_) (by rfl) rfl ?_ ?_
             rotate_left
             ·go_simp
              rfl
             refine hK.out _ _ ⟨((cell_far (p := ⟨gb380, _, none⟩) NB367_380.out _).trans (((cell_far (p := ⟨gb380, _, none⟩) NB367_380.out _).trans (((cell_far (p := ⟨gb380, _, none⟩) NB367_380.out _).trans (hHeld.1)))))), ((cell_far (p := ⟨gb380, _, none⟩) NB367_380.out _).trans (((cell_far (p := ⟨gb380, _, none⟩) NB367_380.out _).trans (((cell_far (p := ⟨gb380, _, none⟩) NB367_380.out _).trans (hHeld.2.1)))))), ((cell_far (p := ⟨gb380, _, none⟩) NB367_380.out _).trans (((cell_far (p := ⟨gb380, _, none⟩) NB367_380.out _).trans (((cell_far (p := ⟨gb380, _, none⟩) NB367_380.out _).trans (hHeld.2.2.1)))))), ((cell_far (p := ⟨gb380, _, none⟩) NB334_380.out _).trans (((cell_far (p := ⟨gb380, _, none⟩) NB334_380.out _).trans (((cell_far (p := ⟨gb380, _, none⟩) NB334_380.out _).trans (hHeld.2.2.2.1)))))), ((cell_far (p := ⟨gb380, _, none⟩) NB334_380.out _).trans (((cell_far (p := ⟨gb380, _, none⟩) NB334_380.out _).trans (((cell_far (p := ⟨gb380, _, none⟩) NB334_380.out _).trans (hHeld.2.2.2.2))))))⟩ (fun hHeld => ?_)
             clear hK K
             refine pu 9 10 (tf 10 0) ?_
             refine done_ (done_of HT_.out (by kernel_rfl)) ?_
             have hnb82 := NB380_333.out
             have hnc82 := NB333_380.out
             have hnb83 := NB380_334.out
             have hnc83 := NB334_380.out
             have hnb84 := NB380_357.out
             have hnc84 := NB357_380.out
             have hnb85 := NB380_367.out
             have hnc85 := NB367_380.out
             obtain ⟨hcz86_0, hcz86_1, hcz86_2, hfz86_0, hfz86_1, hfz86_2⟩ := bz3 BK380
             have hnb87 := NB357_334.out
             have hnc87 := NB334_357.out
             obtain ⟨hcz88_0, hcz88_1, hcz88_2, hfz88_0, hfz88_1, hfz88_2⟩ := bz3 BK357
             try go_wp2_with (first | ((with_reducible refine gate_callee (f := 9) rfl ?_); refine gl (some 40) rfl Try.func9 #[.agg #[.slice Ao76 t370.length co76, .slice Ao78 t373.length co78, .slice Ao80 t376.length co80], .agg #[.slice Ao53 t347.length co53, .slice Ao55 t350.length co55, .slice Ao57 t353.length co57]] ?_; (with_reducible refine (laws_eqCracker.calls k _ _ t370 _ _ t373 _ _ t376 _ _ t347 _ _ t350 _ _ t353 true _ ?side1 ?side2 ?side3 ?side4 ?side5 ?side6 ?side7 ?side8 ?side9 ?side10 ?side11 ?side12 A16.out).mono ?_); (case side1 => refine (Kd.R_reads' (e := 3) (base := w.heap.size) (ok := fun k_ => (some k_ ≠ (.slice Ao53 t347.length co53 : Value).ownBlock ∧ (some k_ ≠ (.slice Ao55 t350.length co55 : Value).ownBlock ∧ (some k_ ≠ (.slice Ao63 t358.length co63 : Value).ownBlock ∧ (some k_ ≠ (.slice Ao68 t361.length co68 : Value).ownBlock ∧ some k_ ≠ (.slice Ao78 t373.length co78 : Value).ownBlock))))) (n := t370.length) (c := co76) ?_).2.2; exact (by exact rs1 HO372 BK380)); (case side2 => exact (Kd.R_reads' HO372.out).2.1); (case side3 => refine (Kd.R_reads' (e := 3) (base := w.heap.size) (ok := fun k_ => (some k_ ≠ (.slice Ao53 t347.length co53 : Value).ownBlock ∧ (some k_ ≠ (.slice Ao55 t350.length co55 : Value).ownBlock ∧ (some k_ ≠ (.slice Ao63 t358.length co63 : Value).ownBlock ∧ (some k_ ≠ (.slice Ao68 t361.length co68 : Value).ownBlock ∧ some k_ ≠ (.slice Ao76 t370.length co76 : Value).ownBlock))))) (n := t373.length) (c := co78) ?_).2.2; exact (by exact rs1 HO375 BK380)); (case side4 => exact (Kd.R_reads' HO375.out).2.1); (case side5 => refine (Kd.R_reads' (e := 35) (base := w.heap.size) (ok := fun k_ => (some k_ ≠ (.slice Ao57 t353.length co57 : Value).ownBlock ∧ some k_ ≠ (.slice Ao69 t364.length co69 : Value).ownBlock)) (n := t376.length) (c := co80) ?_).2.2; exact (by exact rs1 HO378 BK380)); (case side6 => exact (Kd.R_reads' HO378.out).2.1); (case side7 => refine (Kd.R_reads' (e := 3) (base := w.heap.size) (ok := fun k_ => (some k_ ≠ (.slice Ao55 t350.length co55 : Value).ownBlock ∧ (some k_ ≠ (.slice Ao63 t358.length co63 : Value).ownBlock ∧ (some k_ ≠ (.slice Ao68 t361.length co68 : Value).ownBlock ∧ (some k_ ≠ (.slice Ao76 t370.length co76 : Value).ownBlock ∧ some k_ ≠ (.slice Ao78 t373.length co78 : Value).ownBlock))))) (n := t347.length) (c := co53) ?_).2.2; exact (by exact rs1 HO349 BK380)); (case side8 => exact (Kd.R_reads' HO349.out).2.1); (case side9 => refine (Kd.R_reads' (e := 3) (base := w.heap.size) (ok := fun k_ => (some k_ ≠ (.slice Ao53 t347.length co53 : Value).ownBlock ∧ (some k_ ≠ (.slice Ao63 t358.length co63 : Value).ownBlock ∧ (some k_ ≠ (.slice Ao68 t361.length co68 : Value).ownBlock ∧ (some k_ ≠ (.slice Ao76 t370.length co76 : Value).ownBlock ∧ some k_ ≠ (.slice Ao78 t373.length co78 : Value).ownBlock))))) (n := t350.length) (c := co55) ?_).2.2; exact (by exact rs1 HO352 BK380)); (case side10 => exact (Kd.R_reads' HO352.out).2.1); (case side11 => refine (Kd.R_reads' (e := 35) (base := w.heap.size) (ok := fun k_ => (some k_ ≠ (.slice Ao69 t364.length co69 : Value).ownBlock ∧ some k_ ≠ (.slice Ao80 t376.length co80 : Value).ownBlock)) (n := t353.length) (c := co57) ?_).2.2; exact (by exact rs1 HO355 BK380)); (case side12 => exact (Kd.R_reads' HO355.out).2.1); rintro e w89 ⟨rfl, hb⟩; refine ⟨_, rfl, ?_⟩; replace HO349 := mk (Kd.R_below (by exact rs1 HO349 BK380) hb); replace HO352 := mk (Kd.R_below (by exact rs1 HO352 BK380) hb); replace HO355 := mk (Kd.R_below (by exact rs1 HO355 BK380) hb); replace HO360 := mk (Kd.R_below (by exact rs1 HO360 BK380) hb); replace HO363 := mk (Kd.R_below (by exact rs1 HO363 BK380) hb); replace HO366 := mk (Kd.R_below (by exact rs1 HO366 BK380) hb); replace HO372 := mk (Kd.R_below (by exact rs1 HO372 BK380) hb); replace HO375 := mk (Kd.R_below (by exact rs1 HO375 BK380) hb); replace HO378 := mk (Kd.R_below (by exact rs1 HO378 BK380) hb); replace BK333 := wx BK333 hb; replace BK334 := wx BK334 hb; replace BK357 := wx BK357 hb; replace BK367 := wx BK367 hb; replace BK380 := mk (blk_below (g := gb380) (o := .cells #[.slice Ao76 t370.length co76, .slice Ao78 t373.length co78, .slice Ao80 t376.length co80] 31 (0, 0)) bq hb); replace HB := wh hb; (try clear hb); (try clear hb2); (try clear hk); (try clear hi)))
             replace HO349 := mk (Kd.R_drew HO349.out)
             replace HO352 := mk (Kd.R_drew HO352.out)
             replace HO355 := mk (Kd.R_drew HO355.out)
             replace HO360 := mk (Kd.R_drew HO360.out)
             replace HO363 := mk (Kd.R_drew HO363.out)
             replace HO366 := mk (Kd.R_drew HO366.out)
             replace HO372 := mk (Kd.R_drew HO372.out)
             replace HO375 := mk (Kd.R_drew HO375.out)
             replace HO378 := mk (Kd.R_drew HO378.out)
             replace BK333 := wd BK333
             replace BK334 := wd BK334
             replace BK357 := wd BK357
             replace BK367 := wd BK367
             replace BK380 := wd BK380
             replace HB := mk (below_drew1 HB.out)
             refine start_ (n := 5) (S := fun w' => w'.cell? ⟨gb367, 0, none⟩ = some (.slice Ao63 t358.length co63) ∧ w'.cell? ⟨gb367, 1, none⟩ = some (.slice Ao68 t361.length co68) ∧ w'.cell? ⟨gb367, 2, none⟩ = some (.slice Ao69 t364.length co69) ∧ w'.cell? ⟨gb333, 0, none⟩ = some (.slice A0_0 l0_0.length c0_0) ∧ w'.cell? ⟨gb333, 1, none⟩ = some (.slice A0_1 l0_1.length c0_1) ∧ w'.cell? ⟨gb333, 2, none⟩ = some (.slice A0_2 l0_2.length c0_2)) (ds := []) #[F_, F_, F_, F_, F_] (by kernel_rfl) rfl rfl ⟨bc BK367 0, bc BK367 1, bc BK367 2, bc BK333 0, bc BK333 1, bc BK333 2⟩ (fun hHeld => ?_)
             generalize w89.drew = w90 at HO349 HO352 HO355 HO360 HO363 HO366 HO372 HO375 HO378 BK333 BK334 BK357 BK367 BK380 HB hHeld ⊢
             refine tk 0 47 (tf 1 4) hHeld ?_
             refine tk 1 48 (tf 2 3) hHeld ?_
             refine on 2 49 (tf 3 2) (fun K hK => ?_)
             refine gs Try.func6 #[.agg #[.slice A0_0 l0_0.length c0_0, .slice A0_1 l0_1.length c0_1, .slice A0_2 l0_2.length c0_2]] ?_
             with_reducible refine (laws_toCracker.calls k _ _ l0_0 _ _ l0_1 _ _ l0_2 t382 t385 t388 _ ?side1 ?side2 ?side3 ?side4 ?side5 ?side6 A19.out).mono ?_
             (case side1 => exact uc (Kd.C_below HR0_0.out HB.out))
             (case side2 => exact HC0_0.out)
             (case side3 => exact uc (Kd.C_below HR0_1.out HB.out))
             (case side4 => exact HC0_1.out)
             (case side5 => exact uc (Kd.C_below HR0_2.out HB.out))
             (case side6 => exact HC0_2.out)
             rintro e w91 ⟨v383, v386, v389, rfl, ho0, ho1, ho2, hb⟩
             refine ⟨_, rfl, ?_⟩
             have HO384 := mk (Kd.R_lower (Kd.R_new' (Kd.R_new' (Kd.R_new' (Kd.R_new' (Kd.R_new' (Kd.R_new' ho0 (Kd.R_lt (up HO349.out))) (Kd.R_lt (up HO352.out))) (Kd.R_lt (up HO360.out))) (Kd.R_lt (up HO363.out))) (Kd.R_lt (up HO372.out))) (Kd.R_lt (up HO375.out))) (below_size bl))
             have HO387 := mk (Kd.R_lower (Kd.R_new' (Kd.R_new' (Kd.R_new' (Kd.R_new' (Kd.R_new' (Kd.R_new' ho1 (Kd.R_lt (up HO349.out))) (Kd.R_lt (up HO352.out))) (Kd.R_lt (up HO360.out))) (Kd.R_lt (up HO363.out))) (Kd.R_lt (up HO372.out))) (Kd.R_lt (up HO375.out))) (below_size bl))
             replace HO349 := mk (Kd.R_mono (Kd.R_told (Kd.R_told (Kd.R_old (up HO349.out) hb) (Kd.R_base ho0)) (Kd.R_base ho1)) (fun _ h_ => h_.1))
             replace HO352 := mk (Kd.R_mono (Kd.R_told (Kd.R_told (Kd.R_old (up HO352.out) hb) (Kd.R_base ho0)) (Kd.R_base ho1)) (fun _ h_ => h_.1))
             replace HO360 := mk (Kd.R_mono (Kd.R_told (Kd.R_told (Kd.R_old (up HO360.out) hb) (Kd.R_base ho0)) (Kd.R_base ho1)) (fun _ h_ => h_.1))
             replace HO363 := mk (Kd.R_mono (Kd.R_told (Kd.R_told (Kd.R_old (up HO363.out) hb) (Kd.R_base ho0)) (Kd.R_base ho1)) (fun _ h_ => h_.1))
             replace HO372 := mk (Kd.R_mono (Kd.R_told (Kd.R_told (Kd.R_old (up HO372.out) hb) (Kd.R_base ho0)) (Kd.R_base ho1)) (fun _ h_ => h_.1))
             replace HO375 := mk (Kd.R_mono (Kd.R_told (Kd.R_told (Kd.R_old (up HO375.out) hb) (Kd.R_base ho0)) (Kd.R_base ho1)) (fun _ h_ => h_.1))
             have HO390 := mk (Kd.R_lower (Kd.R_new' (Kd.R_new' (Kd.R_new' ho2 (Kd.R_lt (up HO355.out))) (Kd.R_lt (up HO366.out))) (Kd.R_lt (up HO378.out))) (below_size bl))
             replace HO355 := mk (Kd.R_elder' (up HO355.out) (Kd.R_base ho2) hb)
             replace HO366 := mk (Kd.R_elder' (up HO366.out) (Kd.R_base ho2) hb)
             replace HO378 := mk (Kd.R_elder' (up HO378.out) (Kd.R_base ho2) hb)
             replace BK333 := wb BK333 hb
             replace BK334 := wb BK334 hb
             replace BK357 := wb BK357 hb
             replace BK367 := wb BK367 hb
             replace BK380 := wb BK380 hb
             replace HB := wh hb
             (try clear hb)
             (try clear hb2)
             (try clear hk)
             (try clear hi)
             (try clear ho0)
             (try clear ho1)
             (try clear ho2)
             obtain ⟨Ao92, co92, eo92⟩ := Kd.R_slice HO384.out
             (first | subst eo92 | (injection eo92 with f1_ f2_ f3_; have f4_ := f1_.symm; have f5_ := f3_.symm; clear f1_ f2_ f3_; subst f4_; subst f5_))
             obtain ⟨Ao93, co93, eo93⟩ := Kd.R_slice HO387.out
             (first | subst eo93 | (injection eo93 with f1_ f2_ f3_; have f4_ := f1_.symm; have f5_ := f3_.symm; clear f1_ f2_ f3_; subst f4_; subst f5_))
             obtain ⟨Ao94, co94, eo94⟩ := Kd.R_slice HO390.out
             (first | subst eo94 | (injection eo94 with f1_ f2_ f3_; have f4_ := f1_.symm; have f5_ := f3_.symm; clear f1_ f2_ f3_; subst f4_; subst f5_))
             refine hK.out _ _ ⟨bc BK367 0, bc BK367 1, bc BK367 2, bc BK333 0, bc BK333 1, bc BK333 2⟩ (fun hHeld => ?_)
             clear hK K
             refine nm 49 ?_
             refine on 3 50 (tf 4 1) (fun K hK => ?_)
             refine gs Try.func9 #[.agg #[.slice Ao63 t358.length co63, .slice Ao68 t361.length co68, .slice Ao69 t364.length co69], .agg #[.slice Ao92 t382.length co92, .slice Ao93 t385.length co93, .slice Ao94 t388.length co94]] ?_
             with_reducible refine (laws_eqCracker.calls k _ _ t358 _ _ t361 _ _ t364 _ _ t382 _ _ t385 _ _ t388 true _ ?side1 ?side2 ?side3 ?side4 ?side5 ?side6 ?side7 ?side8 ?side9 ?side10 ?side11 ?side12 A20.out).mono ?_
             (case side1 => exact uc (Kd.R_reads' HO360.out).2.2)
             (case side2 => exact (Kd.R_reads' HO360.out).2.1)
             (case side3 => exact uc (Kd.R_reads' HO363.out).2.2)
             (case side4 => exact (Kd.R_reads' HO363.out).2.1)
             (case side5 => exact uc (Kd.R_reads' HO366.out).2.2)
             (case side6 => exact (Kd.R_reads' HO366.out).2.1)
             (case side7 => exact uc (Kd.R_reads' HO384.out).2.2)
             (case side8 => exact (Kd.R_reads' HO384.out).2.1)
             (case side9 => exact uc (Kd.R_reads' HO387.out).2.2)
             (case side10 => exact (Kd.R_reads' HO387.out).2.1)
             (case side11 => exact uc (Kd.R_reads' HO390.out).2.2)
             (case side12 => exact (Kd.R_reads' HO390.out).2.1)
             rintro e w95 ⟨rfl, hb⟩
             refine ⟨_, rfl, ?_⟩
             replace HO349 := mk (Kd.R_below (up HO349.out) hb)
             replace HO352 := mk (Kd.R_below (up HO352.out) hb)
             replace HO355 := mk (Kd.R_below (up HO355.out) hb)
             replace HO360 := mk (Kd.R_below (up HO360.out) hb)
             replace HO363 := mk (Kd.R_below (up HO363.out) hb)
             replace HO366 := mk (Kd.R_below (up HO366.out) hb)
             replace HO372 := mk (Kd.R_below (up HO372.out) hb)
             replace HO375 := mk (Kd.R_below (up HO375.out) hb)
             replace HO378 := mk (Kd.R_below (up HO378.out) hb)
             replace HO384 := mk (Kd.R_below (up HO384.out) hb)
             replace HO387 := mk (Kd.R_below (up HO387.out) hb)
             replace HO390 := mk (Kd.R_below (up HO390.out) hb)
             replace BK333 := wb BK333 hb
             replace BK334 := wb BK334 hb
             replace BK357 := wb BK357 hb
             replace BK367 := wb BK367 hb
             replace BK380 := wb BK380 hb
             replace HB := wh hb
             (try clear hb)
             (try clear hb2)
             (try clear hk)
             (try clear hi)
             refine hK.out _ _ ⟨bc BK367 0, bc BK367 1, bc BK367 2, bc BK333 0, bc BK333 1, bc BK333 2⟩ (fun hHeld => ?_)
             clear hK K
             refine nm 50 ?_
             refine pu 4 51 (tf 5 0) ?_
             refine done_ (by kernel_rfl) ?_
             replace HO349 := mk (Kd.R_mono (ok' := (fun k_ => some k_ ≠ (.slice Ao55 t350.length co55 : Value).ownBlock ∧ some k_ ≠ (.slice Ao63 t358.length co63 : Value).ownBlock ∧ some k_ ≠ (.slice Ao68 t361.length co68 : Value).ownBlock ∧ some k_ ≠ (.slice Ao76 t370.length co76 : Value).ownBlock ∧ some k_ ≠ (.slice Ao78 t373.length co78 : Value).ownBlock)) HO349.out (fun k_ hk => by first | exact ⟨hk.1.1.1, ⟨hk.1.1.2.1, ⟨hk.1.1.2.2.1, ⟨hk.1.1.2.2.2.1, hk.1.1.2.2.2.2⟩⟩⟩⟩ | (revert hk; simp only [and_imp]; intros; (repeat' (refine And.intro ?_ ?_)) <;> assumption)))
             replace HO352 := mk (Kd.R_mono (ok' := (fun k_ => some k_ ≠ (.slice Ao53 t347.length co53 : Value).ownBlock ∧ some k_ ≠ (.slice Ao63 t358.length co63 : Value).ownBlock ∧ some k_ ≠ (.slice Ao68 t361.length co68 : Value).ownBlock ∧ some k_ ≠ (.slice Ao76 t370.length co76 : Value).ownBlock ∧ some k_ ≠ (.slice Ao78 t373.length co78 : Value).ownBlock)) HO352.out (fun k_ hk => by first | exact ⟨hk.1.1.1, ⟨hk.1.1.2.1, ⟨hk.1.1.2.2.1, ⟨hk.1.1.2.2.2.1, hk.1.1.2.2.2.2⟩⟩⟩⟩ | (revert hk; simp only [and_imp]; intros; (repeat' (refine And.intro ?_ ?_)) <;> assumption)))
             replace HO355 := mk (Kd.R_mono (ok' := (fun k_ => some k_ ≠ (.slice Ao69 t364.length co69 : Value).ownBlock ∧ some k_ ≠ (.slice Ao80 t376.length co80 : Value).ownBlock)) HO355.out (fun k_ hk => by first | exact ⟨hk.1.1, hk.1.2⟩ | (revert hk; simp only [and_imp]; intros; (repeat' (refine And.intro ?_ ?_)) <;> assumption)))
             replace HO360 := mk (Kd.R_mono (ok' := (fun k_ => some k_ ≠ (.slice Ao53 t347.length co53 : Value).ownBlock ∧ some k_ ≠ (.slice Ao55 t350.length co55 : Value).ownBlock ∧ some k_ ≠ (.slice Ao68 t361.length co68 : Value).ownBlock ∧ some k_ ≠ (.slice Ao76 t370.length co76 : Value).ownBlock ∧ some k_ ≠ (.slice Ao78 t373.length co78 : Value).ownBlock)) HO360.out (fun k_ hk => by first | exact ⟨hk.1.1.1, ⟨hk.1.1.2.1, ⟨hk.1.1.2.2.1, ⟨hk.1.1.2.2.2.1, hk.1.1.2.2.2.2⟩⟩⟩⟩ | (revert hk; simp only [and_imp]; intros; (repeat' (refine And.intro ?_ ?_)) <;> assumption)))
             replace HO363 := mk (Kd.R_mono (ok' := (fun k_ => some k_ ≠ (.slice Ao53 t347.length co53 : Value).ownBlock ∧ some k_ ≠ (.slice Ao55 t350.length co55 : Value).ownBlock ∧ some k_ ≠ (.slice Ao63 t358.length co63 : Value).ownBlock ∧ some k_ ≠ (.slice Ao76 t370.length co76 : Value).ownBlock ∧ some k_ ≠ (.slice Ao78 t373.length co78 : Value).ownBlock)) HO363.out (fun k_ hk => by first | exact ⟨hk.1.1.1, ⟨hk.1.1.2.1, ⟨hk.1.1.2.2.1, ⟨hk.1.1.2.2.2.1, hk.1.1.2.2.2.2⟩⟩⟩⟩ | (revert hk; simp only [and_imp]; intros; (repeat' (refine And.intro ?_ ?_)) <;> assumption)))
             replace HO366 := mk (Kd.R_mono (ok' := (fun k_ => some k_ ≠ (.slice Ao57 t353.length co57 : Value).ownBlock ∧ some k_ ≠ (.slice Ao80 t376.length co80 : Value).ownBlock)) HO366.out (fun k_ hk => by first | exact ⟨hk.1.1, hk.1.2⟩ | (revert hk; simp only [and_imp]; intros; (repeat' (refine And.intro ?_ ?_)) <;> assumption)))
             replace HO372 := mk (Kd.R_mono (ok' := (fun k_ => some k_ ≠ (.slice Ao53 t347.length co53 : Value).ownBlock ∧ some k_ ≠ (.slice Ao55 t350.length co55 : Value).ownBlock ∧ some k_ ≠ (.slice Ao63 t358.length co63 : Value).ownBlock ∧ some k_ ≠ (.slice Ao68 t361.length co68 : Value).ownBlock ∧ some k_ ≠ (.slice Ao78 t373.length co78 : Value).ownBlock)) HO372.out (fun k_ hk => by first | exact ⟨hk.1.1.1, ⟨hk.1.1.2.1, ⟨hk.1.1.2.2.1, ⟨hk.1.1.2.2.2.1, hk.1.1.2.2.2.2⟩⟩⟩⟩ | (revert hk; simp only [and_imp]; intros; (repeat' (refine And.intro ?_ ?_)) <;> assumption)))
             replace HO375 := mk (Kd.R_mono (ok' := (fun k_ => some k_ ≠ (.slice Ao53 t347.length co53 : Value).ownBlock ∧ some k_ ≠ (.slice Ao55 t350.length co55 : Value).ownBlock ∧ some k_ ≠ (.slice Ao63 t358.length co63 : Value).ownBlock ∧ some k_ ≠ (.slice Ao68 t361.length co68 : Value).ownBlock ∧ some k_ ≠ (.slice Ao76 t370.length co76 : Value).ownBlock)) HO375.out (fun k_ hk => by first | exact ⟨hk.1.1.1, ⟨hk.1.1.2.1, ⟨hk.1.1.2.2.1, ⟨hk.1.1.2.2.2.1, hk.1.1.2.2.2.2⟩⟩⟩⟩ | (revert hk; simp only [and_imp]; intros; (repeat' (refine And.intro ?_ ?_)) <;> assumption)))
             replace HO378 := mk (Kd.R_mono (ok' := (fun k_ => some k_ ≠ (.slice Ao57 t353.length co57 : Value).ownBlock ∧ some k_ ≠ (.slice Ao69 t364.length co69 : Value).ownBlock)) HO378.out (fun k_ hk => by first | exact ⟨hk.1.1, hk.1.2⟩ | (revert hk; simp only [and_imp]; intros; (repeat' (refine And.intro ?_ ?_)) <;> assumption)))
             clear HO384
             clear HO387
             clear HO390
             obtain ⟨hcz96_0, hcz96_1, hcz96_2, hfz96_0, hfz96_1, hfz96_2⟩ := bz3 BK367
             try go_wp2_with (first | ((with_reducible refine gate_callee (f := 10) rfl ?_); refine gl (some 54) rfl Try.func10 #[.agg #[.slice Ao63 t358.length co63, .slice Ao68 t361.length co68, .slice Ao69 t364.length co69], .int .i64 1] ?_; (with_reducible refine (laws_markCracker.calls k (fun k_ => some k_ = (.slice Ao63 t358.length co63 : Value).ownBlock) (.slice Ao63 t358.length co63) t358 (fun k_ => some k_ = (.slice Ao68 t361.length co68 : Value).ownBlock) (.slice Ao68 t361.length co68) t361 (fun k_ => some k_ = (.slice Ao69 t364.length co69 : Value).ownBlock) (.slice Ao69 t364.length co69) t364 1 t392 t393 t394 t395 w _ ?side1 ?side2 ?side3 ?side4 ?side5 ?side6 A22.out).mono ?_); (case side1 => exact bl); (case side2 => exact Kd.R_tight rfl HO360.out); (case side3 => exact fun k_ e_ => by first | exact (HO360.out.1 k_ e_.symm).2.2.1 | (have h_ := (HO360.out.1 k_ e_.symm); first | exact h_ | exact h_.1 | exact h_.1.1 | exact h_.1.1.1 | exact h_.1.1.1.1 | exact h_.1.1.1.1.1 | exact h_.1.1.1.1.1.1 | exact h_.1.1.1.1.1.1.1 | exact h_.2 | exact h_.1.2 | exact h_.1.1.2 | exact h_.1.1.1.2 | exact h_.1.1.1.1.2 | exact h_.1.1.1.1.1.2 | exact h_.1.1.1.1.1.1.2 | exact h_.1.1.1.1.1.1.1.2 | (revert h_; simp only [and_imp]; intros; assumption))); (case side4 => exact Kd.R_tight rfl HO363.out); (case side5 => exact fun k_ e_ => by first | exact (HO363.out.1 k_ e_.symm).2.2.1 | (have h_ := (HO363.out.1 k_ e_.symm); first | exact h_ | exact h_.1 | exact h_.1.1 | exact h_.1.1.1 | exact h_.1.1.1.1 | exact h_.1.1.1.1.1 | exact h_.1.1.1.1.1.1 | exact h_.1.1.1.1.1.1.1 | exact h_.2 | exact h_.1.2 | exact h_.1.1.2 | exact h_.1.1.1.2 | exact h_.1.1.1.1.2 | exact h_.1.1.1.1.1.2 | exact h_.1.1.1.1.1.1.2 | exact h_.1.1.1.1.1.1.1.2 | (revert h_; simp only [and_imp]; intros; assumption))); (case side6 => exact Kd.R_tight rfl HO366.out); rintro e w97 ⟨rfl, hy0, hy1, hy2, hb, hkp⟩; refine ⟨_, rfl, ?_⟩; replace BK333 := mk (blk_kept (ub BK333.out) hkp (fun hs_ => Or.elim hs_ (fun e_ => (fun e_ => (Kd.R_ne HO360.out BK333.out (by decide)) e_) e_) (fun e_ => Or.elim e_ (fun e_ => (fun e_ => (Kd.R_ne HO363.out BK333.out (by decide)) e_) e_) (fun e_ => (fun e_ => (Kd.R_ne HO366.out BK333.out (by decide)) e_) e_)))); replace BK334 := mk (blk_kept (ub BK334.out) hkp (fun hs_ => Or.elim hs_ (fun e_ => (fun e_ => (Kd.R_ne HO360.out BK334.out (by decide)) e_) e_) (fun e_ => Or.elim e_ (fun e_ => (fun e_ => (Kd.R_ne HO363.out BK334.out (by decide)) e_) e_) (fun e_ => (fun e_ => (Kd.R_ne HO366.out BK334.out (by decide)) e_) e_)))); replace HO349 := mk (Kd.R_mono (ok' := fun k_ => some k_ ≠ (.slice Ao55 t350.length co55 : Value).ownBlock ∧ some k_ ≠ (.slice Ao63 t358.length co63 : Value).ownBlock ∧ some k_ ≠ (.slice Ao68 t361.length co68 : Value).ownBlock ∧ some k_ ≠ (.slice Ao76 t370.length co76 : Value).ownBlock ∧ some k_ ≠ (.slice Ao78 t373.length co78 : Value).ownBlock) (Kd.R_keptB ((Kd.R_apart' HO349.out (Kd.R_typed HO366.out) (by decide))) hkp (fun k_ hk_ hs_ => Or.elim hs_ (fun e_ => absurd e_ (by first | exact hk_.1.2.1 | (revert hk_; simp only [and_imp]; intros; assumption))) (fun e_ => Or.elim e_ (fun e_ => absurd e_ (by first | exact hk_.1.2.2.1 | (revert hk_; simp only [and_imp]; intros; assumption))) (fun e_ => absurd e_ (by first | exact hk_.2 | (revert hk_; simp only [and_imp]; intros; assumption)))))) (fun k_ hk_ => by first | exact ⟨hk_.1.1.1, hk_.1.1.2.1, hk_.1.1.2.2.1, hk_.1.1.2.2.2.1, hk_.1.1.2.2.2.2⟩ | (revert hk_; simp only [and_imp]; intros; (repeat' (refine And.intro ?_ ?_)) <;> assumption))); replace HO352 := mk (Kd.R_mono (ok' := fun k_ => some k_ ≠ (.slice Ao53 t347.length co53 : Value).ownBlock ∧ some k_ ≠ (.slice Ao63 t358.length co63 : Value).ownBlock ∧ some k_ ≠ (.slice Ao68 t361.length co68 : Value).ownBlock ∧ some k_ ≠ (.slice Ao76 t370.length co76 : Value).ownBlock ∧ some k_ ≠ (.slice Ao78 t373.length co78 : Value).ownBlock) (Kd.R_keptB ((Kd.R_apart' HO352.out (Kd.R_typed HO366.out) (by decide))) hkp (fun k_ hk_ hs_ => Or.elim hs_ (fun e_ => absurd e_ (by first | exact hk_.1.2.1 | (revert hk_; simp only [and_imp]; intros; assumption))) (fun e_ => Or.elim e_ (fun e_ => absurd e_ (by first | exact hk_.1.2.2.1 | (revert hk_; simp only [and_imp]; intros; assumption))) (fun e_ => absurd e_ (by first | exact hk_.2 | (revert hk_; simp only [and_imp]; intros; assumption)))))) (fun k_ hk_ => by first | exact ⟨hk_.1.1.1, hk_.1.1.2.1, hk_.1.1.2.2.1, hk_.1.1.2.2.2.1, hk_.1.1.2.2.2.2⟩ | (revert hk_; simp only [and_imp]; intros; (repeat' (refine And.intro ?_ ?_)) <;> assumption))); replace HO355 := mk (Kd.R_mono (ok' := fun k_ => some k_ ≠ (.slice Ao69 t364.length co69 : Value).ownBlock ∧ some k_ ≠ (.slice Ao80 t376.length co80 : Value).ownBlock) (Kd.R_keptB ((Kd.R_apart' (Kd.R_apart' HO355.out (Kd.R_typed HO360.out) (by decide)) (Kd.R_typed HO363.out) (by decide))) hkp (fun k_ hk_ hs_ => Or.elim hs_ (fun e_ => absurd e_ (by first | exact hk_.1.2 | (revert hk_; simp only [and_imp]; intros; assumption))) (fun e_ => Or.elim e_ (fun e_ => absurd e_ (by first | exact hk_.2 | (revert hk_; simp only [and_imp]; intros; assumption))) (fun e_ => absurd e_ (by first | exact hk_.1.1.1 | (revert hk_; simp only [and_imp]; intros; assumption)))))) (fun k_ hk_ => by first | exact ⟨hk_.1.1.1.1, hk_.1.1.1.2⟩ | (revert hk_; simp only [and_imp]; intros; (repeat' (refine And.intro ?_ ?_)) <;> assumption))); replace BK357 := mk (blk_kept (ub BK357.out) hkp (fun hs_ => Or.elim hs_ (fun e_ => (fun e_ => (Kd.R_ne HO360.out BK357.out (by decide)) e_) e_) (fun e_ => Or.elim e_ (fun e_ => (fun e_ => (Kd.R_ne HO363.out BK357.out (by decide)) e_) e_) (fun e_ => (fun e_ => (Kd.R_ne HO366.out BK357.out (by decide)) e_) e_)))); replace BK367 := mk (blk_kept (ub BK367.out) hkp (fun hs_ => Or.elim hs_ (fun e_ => (fun e_ => (Kd.R_ne HO360.out BK367.out (by decide)) e_) e_) (fun e_ => Or.elim e_ (fun e_ => (fun e_ => (Kd.R_ne HO363.out BK367.out (by decide)) e_) e_) (fun e_ => (fun e_ => (Kd.R_ne HO366.out BK367.out (by decide)) e_) e_)))); replace HO372 := mk (Kd.R_mono (ok' := fun k_ => some k_ ≠ (.slice Ao53 t347.length co53 : Value).ownBlock ∧ some k_ ≠ (.slice Ao55 t350.length co55 : Value).ownBlock ∧ some k_ ≠ (.slice Ao63 t358.length co63 : Value).ownBlock ∧ some k_ ≠ (.slice Ao68 t361.length co68 : Value).ownBlock ∧ some k_ ≠ (.slice Ao78 t373.length co78 : Value).ownBlock) (Kd.R_keptB ((Kd.R_apart' HO372.out (Kd.R_typed HO366.out) (by decide))) hkp (fun k_ hk_ hs_ => Or.elim hs_ (fun e_ => absurd e_ (by first | exact hk_.1.2.2.1 | (revert hk_; simp only [and_imp]; intros; assumption))) (fun e_ => Or.elim e_ (fun e_ => absurd e_ (by first | exact hk_.1.2.2.2.1 | (revert hk_; simp only [and_imp]; intros; assumption))) (fun e_ => absurd e_ (by first | exact hk_.2 | (revert hk_; simp only [and_imp]; intros; assumption)))))) (fun k_ hk_ => by first | exact ⟨hk_.1.1.1, hk_.1.1.2.1, hk_.1.1.2.2.1, hk_.1.1.2.2.2.1, hk_.1.1.2.2.2.2⟩ | (revert hk_; simp only [and_imp]; intros; (repeat' (refine And.intro ?_ ?_)) <;> assumption))); replace HO375 := mk (Kd.R_mono (ok' := fun k_ => some k_ ≠ (.slice Ao53 t347.length co53 : Value).ownBlock ∧ some k_ ≠ (.slice Ao55 t350.length co55 : Value).ownBlock ∧ some k_ ≠ (.slice Ao63 t358.length co63 : Value).ownBlock ∧ some k_ ≠ (.slice Ao68 t361.length co68 : Value).ownBlock ∧ some k_ ≠ (.slice Ao76 t370.length co76 : Value).ownBlock) (Kd.R_keptB ((Kd.R_apart' HO375.out (Kd.R_typed HO366.out) (by decide))) hkp (fun k_ hk_ hs_ => Or.elim hs_ (fun e_ => absurd e_ (by first | exact hk_.1.2.2.1 | (revert hk_; simp only [and_imp]; intros; assumption))) (fun e_ => Or.elim e_ (fun e_ => absurd e_ (by first | exact hk_.1.2.2.2.1 | (revert hk_; simp only [and_imp]; intros; assumption))) (fun e_ => absurd e_ (by first | exact hk_.2 | (revert hk_; simp only [and_imp]; intros; assumption)))))) (fun k_ hk_ => by first | exact ⟨hk_.1.1.1, hk_.1.1.2.1, hk_.1.1.2.2.1, hk_.1.1.2.2.2.1, hk_.1.1.2.2.2.2⟩ | (revert hk_; simp only [and_imp]; intros; (repeat' (refine And.intro ?_ ?_)) <;> assumption))); replace HO378 := mk (Kd.R_mono (ok' := fun k_ => some k_ ≠ (.slice Ao57 t353.length co57 : Value).ownBlock ∧ some k_ ≠ (.slice Ao69 t364.length co69 : Value).ownBlock) (Kd.R_keptB ((Kd.R_apart' (Kd.R_apart' HO378.out (Kd.R_typed HO360.out) (by decide)) (Kd.R_typed HO363.out) (by decide))) hkp (fun k_ hk_ hs_ => Or.elim hs_ (fun e_ => absurd e_ (by first | exact hk_.1.2 | (revert hk_; simp only [and_imp]; intros; assumption))) (fun e_ => Or.elim e_ (fun e_ => absurd e_ (by first | exact hk_.2 | (revert hk_; simp only [and_imp]; intros; assumption))) (fun e_ => absurd e_ (by first | exact hk_.1.1.2 | (revert hk_; simp only [and_imp]; intros; assumption)))))) (fun k_ hk_ => by first | exact ⟨hk_.1.1.1.1, hk_.1.1.1.2⟩ | (revert hk_; simp only [and_imp]; intros; (repeat' (refine And.intro ?_ ?_)) <;> assumption))); replace BK380 := mk (blk_kept (ub BK380.out) hkp (fun hs_ => Or.elim hs_ (fun e_ => (fun e_ => (Kd.R_ne HO360.out BK380.out (by decide)) e_) e_) (fun e_ => Or.elim e_ (fun e_ => (fun e_ => (Kd.R_ne HO363.out BK380.out (by decide)) e_) e_) (fun e_ => (fun e_ => (Kd.R_ne HO366.out BK380.out (by decide)) e_) e_)))); replace HO360 := mk (Kd.R_reok rfl hy0 (fun k_ e_ => HO360.out.1 k_ e_)); replace HO363 := mk (Kd.R_reok rfl hy1 (fun k_ e_ => HO363.out.1 k_ e_)); replace HO366 := mk (Kd.R_reok rfl hy2 (fun k_ e_ => HO366.out.1 k_ e_)); replace HB := mk hb; (try clear hb); (try clear hkp); (try clear hy0); (try clear hy1); (try clear hy2); replace HO349 := mk (Kd.R_mono (ok' := (fun k_ => some k_ ≠ (.slice Ao55 t350.length co55 : Value).ownBlock ∧ some k_ ≠ (.slice Ao76 t370.length co76 : Value).ownBlock ∧ some k_ ≠ (.slice Ao78 t373.length co78 : Value).ownBlock)) HO349.out (fun k_ hk => by first | exact ⟨hk.1, ⟨hk.2.2.2.1, hk.2.2.2.2⟩⟩ | (revert hk; simp only [and_imp]; intros; (repeat' (refine And.intro ?_ ?_)) <;> assumption))); replace HO352 := mk (Kd.R_mono (ok' := (fun k_ => some k_ ≠ (.slice Ao53 t347.length co53 : Value).ownBlock ∧ some k_ ≠ (.slice Ao76 t370.length co76 : Value).ownBlock ∧ some k_ ≠ (.slice Ao78 t373.length co78 : Value).ownBlock)) HO352.out (fun k_ hk => by first | exact ⟨hk.1, ⟨hk.2.2.2.1, hk.2.2.2.2⟩⟩ | (revert hk; simp only [and_imp]; intros; (repeat' (refine And.intro ?_ ?_)) <;> assumption))); replace HO355 := mk (Kd.R_mono (ok' := (fun k_ => some k_ ≠ (.slice Ao80 t376.length co80 : Value).ownBlock)) HO355.out (fun k_ hk => hk.2)); replace HO372 := mk (Kd.R_mono (ok' := (fun k_ => some k_ ≠ (.slice Ao53 t347.length co53 : Value).ownBlock ∧ some k_ ≠ (.slice Ao55 t350.length co55 : Value).ownBlock ∧ some k_ ≠ (.slice Ao78 t373.length co78 : Value).ownBlock)) HO372.out (fun k_ hk => by first | exact ⟨hk.1, ⟨hk.2.1, hk.2.2.2.2⟩⟩ | (revert hk; simp only [and_imp]; intros; (repeat' (refine And.intro ?_ ?_)) <;> assumption))); replace HO375 := mk (Kd.R_mono (ok' := (fun k_ => some k_ ≠ (.slice Ao53 t347.length co53 : Value).ownBlock ∧ some k_ ≠ (.slice Ao55 t350.length co55 : Value).ownBlock ∧ some k_ ≠ (.slice Ao76 t370.length co76 : Value).ownBlock)) HO375.out (fun k_ hk => by first | exact ⟨hk.1, ⟨hk.2.1, hk.2.2.2.2⟩⟩ | (revert hk; simp only [and_imp]; intros; (repeat' (refine And.intro ?_ ?_)) <;> assumption))); replace HO378 := mk (Kd.R_mono (ok' := (fun k_ => some k_ ≠ (.slice Ao57 t353.length co57 : Value).ownBlock)) HO378.out (fun k_ hk => hk.1)); clear HO360; clear HO363; clear HO366; obtain ⟨hcz98_0, hcz98_1, hcz98_2, hfz98_0, hfz98_1, hfz98_2⟩ := bz3 BK380; obtain ⟨hcz99_0, hcz99_1, hcz99_2, hfz99_0, hfz99_1, hfz99_2⟩ := bz3 BK357) | (go_at_call 9; (with_reducible refine (laws_eqCracker.calls k _ _ t370 _ _ t373 _ _ t376 _ _ t347 _ _ t350 _ _ t353 true _ ?side1 ?side2 ?side3 ?side4 ?side5 ?side6 ?side7 ?side8 ?side9 ?side10 ?side11 ?side12 A24.out).mono ?_); (case side1 => exact uc (Kd.R_reads' HO372.out).2.2); (case side2 => exact (Kd.R_reads' HO372.out).2.1); (case side3 => exact uc (Kd.R_reads' HO375.out).2.2); (case side4 => exact (Kd.R_reads' HO375.out).2.1); (case side5 => exact uc (Kd.R_reads' HO378.out).2.2); (case side6 => exact (Kd.R_reads' HO378.out).2.1); (case side7 => exact uc (Kd.R_reads' HO349.out).2.2); (case side8 => exact (Kd.R_reads' HO349.out).2.1); (case side9 => exact uc (Kd.R_reads' HO352.out).2.2); (case side10 => exact (Kd.R_reads' HO352.out).2.1); (case side11 => exact uc (Kd.R_reads' HO355.out).2.2); (case side12 => exact (Kd.R_reads' HO355.out).2.1); rintro e w100 ⟨rfl, hb⟩; replace HO349 := mk (Kd.R_below (up HO349.out) hb); replace HO352 := mk (Kd.R_below (up HO352.out) hb); replace HO355 := mk (Kd.R_below (up HO355.out) hb); replace HO372 := mk (Kd.R_below (up HO372.out) hb); replace HO375 := mk (Kd.R_below (up HO375.out) hb); replace HO378 := mk (Kd.R_below (up HO378.out) hb); replace BK333 := wb BK333 hb; replace BK334 := wb BK334 hb; replace BK357 := wb BK357 hb; replace BK367 := wb BK367 hb; replace BK380 := wb BK380 hb; replace HB := wh hb; (try clear hb); (try clear hb2); (try clear hk); (try clear hi); obtain ⟨hcz101_0, hcz101_1, hcz101_2, hfz101_0, hfz101_1, hfz101_2⟩ := bz3 BK380) | ((with_reducible refine gate_callee (f := 10) rfl ?_); refine gl (some 70) rfl Try.func10 #[.agg #[.slice Ao76 t370.length co76, .slice Ao78 t373.length co78, .slice Ao80 t376.length co80], .int .i64 1] ?_; (with_reducible refine (laws_markCracker.calls k (fun k_ => some k_ = (.slice Ao76 t370.length co76 : Value).ownBlock) (.slice Ao76 t370.length co76) t370 (fun k_ => some k_ = (.slice Ao78 t373.length co78 : Value).ownBlock) (.slice Ao78 t373.length co78) t373 (fun k_ => some k_ = (.slice Ao80 t376.length co80 : Value).ownBlock) (.slice Ao80 t376.length co80) t376 1 t397 t398 t399 t400 w _ ?side1 ?side2 ?side3 ?side4 ?side5 ?side6 A26.out).mono ?_); (case side1 => exact bl); (case side2 => exact Kd.R_tight rfl HO372.out); (case side3 => exact fun k_ e_ => by first | exact (HO372.out.1 k_ e_.symm).2.2 | (have h_ := (HO372.out.1 k_ e_.symm); first | exact h_ | exact h_.1 | exact h_.1.1 | exact h_.1.1.1 | exact h_.1.1.1.1 | exact h_.1.1.1.1.1 | exact h_.1.1.1.1.1.1 | exact h_.1.1.1.1.1.1.1 | exact h_.2 | exact h_.1.2 | exact h_.1.1.2 | exact h_.1.1.1.2 | exact h_.1.1.1.1.2 | exact h_.1.1.1.1.1.2 | exact h_.1.1.1.1.1.1.2 | exact h_.1.1.1.1.1.1.1.2 | (revert h_; simp only [and_imp]; intros; assumption))); (case side4 => exact Kd.R_tight rfl HO375.out); (case side5 => exact fun k_ e_ => by first | exact (HO375.out.1 k_ e_.symm).2.2 | (have h_ := (HO375.out.1 k_ e_.symm); first | exact h_ | exact h_.1 | exact h_.1.1 | exact h_.1.1.1 | exact h_.1.1.1.1 | exact h_.1.1.1.1.1 | exact h_.1.1.1.1.1.1 | exact h_.1.1.1.1.1.1.1 | exact h_.2 | exact h_.1.2 | exact h_.1.1.2 | exact h_.1.1.1.2 | exact h_.1.1.1.1.2 | exact h_.1.1.1.1.1.2 | exact h_.1.1.1.1.1.1.2 | exact h_.1.1.1.1.1.1.1.2 | (revert h_; simp only [and_imp]; intros; assumption))); (case side6 => exact Kd.R_tight rfl HO378.out); rintro e w102 ⟨rfl, hy0, hy1, hy2, hb, hkp⟩; refine ⟨_, rfl, ?_⟩; replace BK333 := mk (blk_kept (ub BK333.out) hkp (fun hs_ => Or.elim hs_ (fun e_ => (fun e_ => (Kd.R_ne HO372.out BK333.out (by decide)) e_) e_) (fun e_ => Or.elim e_ (fun e_ => (fun e_ => (Kd.R_ne HO375.out BK333.out (by decide)) e_) e_) (fun e_ => (fun e_ => (Kd.R_ne HO378.out BK333.out (by decide)) e_) e_)))); replace BK334 := mk (blk_kept (ub BK334.out) hkp (fun hs_ => Or.elim hs_ (fun e_ => (fun e_ => (Kd.R_ne HO372.out BK334.out (by decide)) e_) e_) (fun e_ => Or.elim e_ (fun e_ => (fun e_ => (Kd.R_ne HO375.out BK334.out (by decide)) e_) e_) (fun e_ => (fun e_ => (Kd.R_ne HO378.out BK334.out (by decide)) e_) e_)))); replace HO349 := mk (Kd.R_mono (ok' := fun k_ => some k_ ≠ (.slice Ao55 t350.length co55 : Value).ownBlock ∧ some k_ ≠ (.slice Ao76 t370.length co76 : Value).ownBlock ∧ some k_ ≠ (.slice Ao78 t373.length co78 : Value).ownBlock) (Kd.R_keptB ((Kd.R_apart' HO349.out (Kd.R_typed HO378.out) (by decide))) hkp (fun k_ hk_ hs_ => Or.elim hs_ (fun e_ => absurd e_ (by first | exact hk_.1.2.1 | (revert hk_; simp only [and_imp]; intros; assumption))) (fun e_ => Or.elim e_ (fun e_ => absurd e_ (by first | exact hk_.1.2.2 | (revert hk_; simp only [and_imp]; intros; assumption))) (fun e_ => absurd e_ (by first | exact hk_.2 | (revert hk_; simp only [and_imp]; intros; assumption)))))) (fun k_ hk_ => by first | exact ⟨hk_.1.1.1, hk_.1.1.2.1, hk_.1.1.2.2⟩ | (revert hk_; simp only [and_imp]; intros; (repeat' (refine And.intro ?_ ?_)) <;> assumption))); replace HO352 := mk (Kd.R_mono (ok' := fun k_ => some k_ ≠ (.slice Ao53 t347.length co53 : Value).ownBlock ∧ some k_ ≠ (.slice Ao76 t370.length co76 : Value).ownBlock ∧ some k_ ≠ (.slice Ao78 t373.length co78 : Value).ownBlock) (Kd.R_keptB ((Kd.R_apart' HO352.out (Kd.R_typed HO378.out) (by decide))) hkp (fun k_ hk_ hs_ => Or.elim hs_ (fun e_ => absurd e_ (by first | exact hk_.1.2.1 | (revert hk_; simp only [and_imp]; intros; assumption))) (fun e_ => Or.elim e_ (fun e_ => absurd e_ (by first | exact hk_.1.2.2 | (revert hk_; simp only [and_imp]; intros; assumption))) (fun e_ => absurd e_ (by first | exact hk_.2 | (revert hk_; simp only [and_imp]; intros; assumption)))))) (fun k_ hk_ => by first | exact ⟨hk_.1.1.1, hk_.1.1.2.1, hk_.1.1.2.2⟩ | (revert hk_; simp only [and_imp]; intros; (repeat' (refine And.intro ?_ ?_)) <;> assumption))); replace HO355 := mk (Kd.R_mono (ok' := fun k_ => some k_ ≠ (.slice Ao80 t376.length co80 : Value).ownBlock) (Kd.R_keptB ((Kd.R_apart' (Kd.R_apart' HO355.out (Kd.R_typed HO372.out) (by decide)) (Kd.R_typed HO375.out) (by decide))) hkp (fun k_ hk_ hs_ => Or.elim hs_ (fun e_ => absurd e_ (by first | exact hk_.1.2 | (revert hk_; simp only [and_imp]; intros; assumption))) (fun e_ => Or.elim e_ (fun e_ => absurd e_ (by first | exact hk_.2 | (revert hk_; simp only [and_imp]; intros; assumption))) (fun e_ => absurd e_ (by first | exact hk_.1.1 | (revert hk_; simp only [and_imp]; intros; assumption)))))) (fun k_ hk_ => by first | exact hk_.1.1.1 | (revert hk_; simp only [and_imp]; intros; (repeat' (refine And.intro ?_ ?_)) <;> assumption))); replace BK357 := mk (blk_kept (ub BK357.out) hkp (fun hs_ => Or.elim hs_ (fun e_ => (fun e_ => (Kd.R_ne HO372.out BK357.out (by decide)) e_) e_) (fun e_ => Or.elim e_ (fun e_ => (fun e_ => (Kd.R_ne HO375.out BK357.out (by decide)) e_) e_) (fun e_ => (fun e_ => (Kd.R_ne HO378.out BK357.out (by decide)) e_) e_)))); replace BK367 := mk (blk_kept (ub BK367.out) hkp (fun hs_ => Or.elim hs_ (fun e_ => (fun e_ => (Kd.R_ne HO372.out BK367.out (by decide)) e_) e_) (fun e_ => Or.elim e_ (fun e_ => (fun e_ => (Kd.R_ne HO375.out BK367.out (by decide)) e_) e_) (fun e_ => (fun e_ => (Kd.R_ne HO378.out BK367.out (by decide)) e_) e_)))); replace BK380 := mk (blk_kept (ub BK380.out) hkp (fun hs_ => Or.elim hs_ (fun e_ => (fun e_ => (Kd.R_ne HO372.out BK380.out (by decide)) e_) e_) (fun e_ => Or.elim e_ (fun e_ => (fun e_ => (Kd.R_ne HO375.out BK380.out (by decide)) e_) e_) (fun e_ => (fun e_ => (Kd.R_ne HO378.out BK380.out (by decide)) e_) e_)))); replace HO372 := mk (Kd.R_reok rfl hy0 (fun k_ e_ => HO372.out.1 k_ e_)); replace HO375 := mk (Kd.R_reok rfl hy1 (fun k_ e_ => HO375.out.1 k_ e_)); replace HO378 := mk (Kd.R_reok rfl hy2 (fun k_ e_ => HO378.out.1 k_ e_)); replace HB := mk hb; (try clear hb); (try clear hkp); (try clear hy0); (try clear hy1); (try clear hy2); obtain ⟨hcz103_0, hcz103_1, hcz103_2, hfz103_0, hfz103_1, hfz103_2⟩ := bz3 BK380) | ((with_reducible refine gate_callee (f := 11) rfl ?_); refine goesL_ (some 73) rfl rfl Try.func11 (by kernel_rfl) rfl #[.agg #[.slice Ao76 t398.length co76, .slice Ao78 t399.length co78, .slice Ao80 t400.length co80], .int .i64 1] rfl (by (try simp only [List.map_toArray, List.map_cons, List.map_nil]); first | done | (rw [show t398.length = t370.length from (Kd.R_reads' HO372.out).1.symm, show t399.length = t373.length from (Kd.R_reads' HO375.out).1.symm, show t400.length = t376.length from (Kd.R_reads' HO378.out).1.symm] <;> rfl) | rfl | (simp only [List.length_drop, List.length_take]; rfl)) ?_; (with_reducible refine (laws_heldCracker.calls k _ _ t398 _ _ t399 _ _ t400 1 t401 _ ?side1 ?side2 ?side3 ?side4 ?side5 ?side6 A27.out).mono ?_); (case side1 => exact uc (Kd.R_reads' HO372.out).2.2); (case side2 => rw [show t398.length = t370.length from (Kd.R_reads' HO372.out).1.symm]; exact (Kd.R_reads' HO372.out).2.1); (case side3 => exact uc (Kd.R_reads' HO375.out).2.2); (case side4 => rw [show t399.length = t373.length from (Kd.R_reads' HO375.out).1.symm]; exact (Kd.R_reads' HO375.out).2.1); (case side5 => exact uc (Kd.R_reads' HO378.out).2.2); (case side6 => rw [show t400.length = t376.length from (Kd.R_reads' HO378.out).1.symm]; exact (Kd.R_reads' HO378.out).2.1); rintro e w104 ⟨rfl, hb⟩; refine ⟨_, rfl, ?_⟩; replace HO349 := mk (Kd.R_below (up HO349.out) hb); replace HO352 := mk (Kd.R_below (up HO352.out) hb); replace HO355 := mk (Kd.R_below (up HO355.out) hb); replace HO372 := mk (Kd.R_below (up HO372.out) hb); replace HO375 := mk (Kd.R_below (up HO375.out) hb); replace HO378 := mk (Kd.R_below (up HO378.out) hb); replace BK333 := wb BK333 hb; replace BK334 := wb BK334 hb; replace BK357 := wb BK357 hb; replace BK367 := wb BK367 hb; replace BK380 := wb BK380 hb; replace HB := wh hb; (try clear hb); (try clear hb2); (try clear hk); (try clear hi)))
             replace HO349 := mk (Kd.R_drew HO349.out)
             replace HO352 := mk (Kd.R_drew HO352.out)
             replace HO355 := mk (Kd.R_drew HO355.out)
             replace HO372 := mk (Kd.R_drew HO372.out)
             replace HO375 := mk (Kd.R_drew HO375.out)
             replace HO378 := mk (Kd.R_drew HO378.out)
             replace BK333 := wd BK333
             replace BK334 := wd BK334
             replace BK357 := wd BK357
             replace BK367 := wd BK367
             replace BK380 := wd BK380
             replace HB := mk (below_drew1 HB.out)
             refine start_ (n := 11) (S := fun w' => w'.cell? ⟨gb333, 0, none⟩ = some (.slice A0_0 l0_0.length c0_0) ∧ w'.cell? ⟨gb333, 1, none⟩ = some (.slice A0_1 l0_1.length c0_1) ∧ w'.cell? ⟨gb333, 2, none⟩ = some (.slice A0_2 l0_2.length c0_2) ∧ w'.cell? ⟨gb334, 0, none⟩ = some (.int .i64 a1_0) ∧ w'.cell? ⟨gb334, 1, none⟩ = some (.int .i64 a1_1)) (ds := []) #[F_, F_, F_, F_, F_, F_, F_, F_, F_, F_, F_] (by kernel_rfl) rfl rfl ⟨bc BK333 0, bc BK333 1, bc BK333 2, bc BK334 0, bc BK334 1⟩ (fun hHeld => ?_); refine with_tabW laws_FnExactAddPivot.tab24 laws_FnExactAddPivot.bits24 (fun HT_ HW_ => ?_)
             generalize w104.drew = w105 at HO349 HO352 HO355 HO372 HO375 HO378 BK333 BK334 BK357 BK367 BK380 HB hHeld ⊢
             refine tk 0 80 (tf 1 10) hHeld ?_
             refine tk 2 82 #[T_,F_,T_,F_,F_,F_,F_,F_,F_,F_,F_] hHeld ?_
             refine join_ (σ := Value × Value × Value × Value × Value × Value × Nat) 2 #[T_, T_, T_, T_, T_, T_, T_, T_, T_, F_, F_] (fun s_ => [(81, .agg #[s_.1, s_.2.1, s_.2.2.1]), (83, .agg #[.int .i64 t411, .int .i64 t412]), (84, .tuple #[.agg #[s_.2.2.2.1, s_.2.2.2.2.1, s_.2.2.2.2.2.1], .bool t422]), (14, .pointer (some ⟨s_.2.2.2.2.2.2, 0, none⟩)), (79, .tuple #[.agg #[s_.2.2.2.1, s_.2.2.2.2.1, s_.2.2.2.2.2.1], .bool t422]), (85, .agg #[s_.2.2.2.1, s_.2.2.2.2.1, s_.2.2.2.2.2.1]), (86, .bool t422)]) (fun s_ w' => (w'.cell? ⟨gb333, 0, none⟩ = some (.slice A0_0 l0_0.length c0_0) ∧ w'.cell? ⟨gb333, 1, none⟩ = some (.slice A0_1 l0_1.length c0_1) ∧ w'.cell? ⟨gb333, 2, none⟩ = some (.slice A0_2 l0_2.length c0_2) ∧ w'.cell? ⟨gb334, 0, none⟩ = some (.int .i64 a1_0) ∧ w'.cell? ⟨gb334, 1, none⟩ = some (.int .i64 a1_1)) ∧ (Kd.R (Kd.int .i64) 3 w' w.heap.size (fun k_ => some k_ ≠ (.slice Ao55 t350.length co55 : Value).ownBlock ∧ some k_ ≠ (.slice Ao76 t370.length co76 : Value).ownBlock ∧ some k_ ≠ (.slice Ao78 t373.length co78 : Value).ownBlock ∧ some k_ ≠ (s_.1 : Value).ownBlock ∧ some k_ ≠ (s_.2.1 : Value).ownBlock ∧ some k_ ≠ (s_.2.2.2.1 : Value).ownBlock ∧ some k_ ≠ (s_.2.2.2.2.1 : Value).ownBlock) (.slice Ao53 t347.length co53) t347) ∧ (Kd.R (Kd.int .i64) 3 w' w.heap.size (fun k_ => some k_ ≠ (.slice Ao53 t347.length co53 : Value).ownBlock ∧ some k_ ≠ (.slice Ao76 t370.length co76 : Value).ownBlock ∧ some k_ ≠ (.slice Ao78 t373.length co78 : Value).ownBlock ∧ some k_ ≠ (s_.1 : Value).ownBlock ∧ some k_ ≠ (s_.2.1 : Value).ownBlock ∧ some k_ ≠ (s_.2.2.2.1 : Value).ownBlock ∧ some k_ ≠ (s_.2.2.2.2.1 : Value).ownBlock) (.slice Ao55 t350.length co55) t350) ∧ (Kd.R k35 35 w' w.heap.size (fun k_ => some k_ ≠ (.slice Ao80 t376.length co80 : Value).ownBlock ∧ some k_ ≠ (s_.2.2.1 : Value).ownBlock ∧ some k_ ≠ (s_.2.2.2.2.2.1 : Value).ownBlock) (.slice Ao57 t353.length co57) t353) ∧ (Kd.R (Kd.int .i64) 3 w' w.heap.size (fun k_ => some k_ ≠ (.slice Ao53 t347.length co53 : Value).ownBlock ∧ some k_ ≠ (.slice Ao55 t350.length co55 : Value).ownBlock ∧ some k_ ≠ (.slice Ao78 t373.length co78 : Value).ownBlock ∧ some k_ ≠ (s_.1 : Value).ownBlock ∧ some k_ ≠ (s_.2.1 : Value).ownBlock ∧ some k_ ≠ (s_.2.2.2.1 : Value).ownBlock ∧ some k_ ≠ (s_.2.2.2.2.1 : Value).ownBlock) (.slice Ao76 t370.length co76) t398) ∧ (Kd.R (Kd.int .i64) 3 w' w.heap.size (fun k_ => some k_ ≠ (.slice Ao53 t347.length co53 : Value).ownBlock ∧ some k_ ≠ (.slice Ao55 t350.length co55 : Value).ownBlock ∧ some k_ ≠ (.slice Ao76 t370.length co76 : Value).ownBlock ∧ some k_ ≠ (s_.1 : Value).ownBlock ∧ some k_ ≠ (s_.2.1 : Value).ownBlock ∧ some k_ ≠ (s_.2.2.2.1 : Value).ownBlock ∧ some k_ ≠ (s_.2.2.2.2.1 : Value).ownBlock) (.slice Ao78 t373.length co78) t399) ∧ (Kd.R k35 35 w' w.heap.size (fun k_ => some k_ ≠ (.slice Ao57 t353.length co57 : Value).ownBlock ∧ some k_ ≠ (s_.2.2.1 : Value).ownBlock ∧ some k_ ≠ (s_.2.2.2.2.2.1 : Value).ownBlock) (.slice Ao80 t376.length co80) t400) ∧ (Kd.R (Kd.int .i64) 3 w' w.heap.size (fun k_ => some k_ ≠ (.slice Ao53 t347.length co53 : Value).ownBlock ∧ some k_ ≠ (.slice Ao55 t350.length co55 : Value).ownBlock ∧ some k_ ≠ (.slice Ao76 t370.length co76 : Value).ownBlock ∧ some k_ ≠ (.slice Ao78 t373.length co78 : Value).ownBlock ∧ some k_ ≠ (s_.2.1 : Value).ownBlock ∧ some k_ ≠ (s_.2.2.2.1 : Value).ownBlock ∧ some k_ ≠ (s_.2.2.2.2.1 : Value).ownBlock) s_.1 t402) ∧ (Kd.R (Kd.int .i64) 3 w' w.heap.size (fun k_ => some k_ ≠ (.slice Ao53 t347.length co53 : Value).ownBlock ∧ some k_ ≠ (.slice Ao55 t350.length co55 : Value).ownBlock ∧ some k_ ≠ (.slice Ao76 t370.length co76 : Value).ownBlock ∧ some k_ ≠ (.slice Ao78 t373.length co78 : Value).ownBlock ∧ some k_ ≠ (s_.1 : Value).ownBlock ∧ some k_ ≠ (s_.2.2.2.1 : Value).ownBlock ∧ some k_ ≠ (s_.2.2.2.2.1 : Value).ownBlock) s_.2.1 t405) ∧ (Kd.R k35 35 w' w.heap.size (fun k_ => some k_ ≠ (.slice Ao57 t353.length co57 : Value).ownBlock ∧ some k_ ≠ (.slice Ao80 t376.length co80 : Value).ownBlock ∧ some k_ ≠ (s_.2.2.2.2.2.1 : Value).ownBlock) s_.2.2.1 t408) ∧ (Kd.R (Kd.int .i64) 3 w' w.heap.size (fun k_ => some k_ ≠ (.slice Ao53 t347.length co53 : Value).ownBlock ∧ some k_ ≠ (.slice Ao55 t350.length co55 : Value).ownBlock ∧ some k_ ≠ (.slice Ao76 t370.length co76 : Value).ownBlock ∧ some k_ ≠ (.slice Ao78 t373.length co78 : Value).ownBlock ∧ some k_ ≠ (s_.1 : Value).ownBlock ∧ some k_ ≠ (s_.2.1 : Value).ownBlock ∧ some k_ ≠ (s_.2.2.2.2.1 : Value).ownBlock) s_.2.2.2.1 t413) ∧ (Kd.R (Kd.int .i64) 3 w' w.heap.size (fun k_ => some k_ ≠ (.slice Ao53 t347.length co53 : Value).ownBlock ∧ some k_ ≠ (.slice Ao55 t350.length co55 : Value).ownBlock ∧ some k_ ≠ (.slice Ao76 t370.length co76 : Value).ownBlock ∧ some k_ ≠ (.slice Ao78 t373.length co78 : Value).ownBlock ∧ some k_ ≠ (s_.1 : Value).ownBlock ∧ some k_ ≠ (s_.2.1 : Value).ownBlock ∧ some k_ ≠ (s_.2.2.2.1 : Value).ownBlock) s_.2.2.2.2.1 t416) ∧ (Kd.R k35 35 w' w.heap.size (fun k_ => some k_ ≠ (.slice Ao57 t353.length co57 : Value).ownBlock ∧ some k_ ≠ (.slice Ao80 t376.length co80 : Value).ownBlock ∧ some k_ ≠ (s_.2.2.1 : Value).ownBlock) s_.2.2.2.2.2.1 t419) ∧ (w'.heap[gb333]? = some (.cells #[.slice A0_0 l0_0.length c0_0, .slice A0_1 l0_1.length c0_1, .slice A0_2 l0_2.length c0_2] 25 (0, 0))) ∧ (w'.heap[gb334]? = some (.cells #[.int .i64 a1_0, .int .i64 a1_1] 27 (0, 0))) ∧ (w'.heap[gb357]? = some (.cells #[.slice Ao53 t347.length co53, .slice Ao55 t350.length co55, .slice Ao57 t353.length co57] 31 (0, 0))) ∧ (w'.heap[gb367]? = some (.cells #[.slice Ao63 t358.length co63, .slice Ao68 t361.length co68, .slice Ao69 t364.length co69] 31 (0, 0))) ∧ (w'.heap[gb380]? = some (.cells #[.slice Ao76 t370.length co76, .slice Ao78 t373.length co78, .slice Ao80 t376.length co80] 31 (0, 0))) ∧ (w'.heap[s_.2.2.2.2.2.2]? = some (.cells #[.slice none 0 0, .slice none 0 0, .slice none 0 0] 31 (0, 0))) ∧ (w.heap.size ≤ s_.2.2.2.2.2.2) ∧ (w.heap.size ≤ s_.2.2.2.2.2.2) ∧ (gb333 ≠ s_.2.2.2.2.2.2) ∧ (s_.2.2.2.2.2.2 ≠ gb333) ∧ (gb334 ≠ s_.2.2.2.2.2.2) ∧ (s_.2.2.2.2.2.2 ≠ gb334) ∧ (gb357 ≠ s_.2.2.2.2.2.2) ∧ (s_.2.2.2.2.2.2 ≠ gb357) ∧ (gb367 ≠ s_.2.2.2.2.2.2) ∧ (s_.2.2.2.2.2.2 ≠ gb367) ∧ (gb380 ≠ s_.2.2.2.2.2.2) ∧ (s_.2.2.2.2.2.2 ≠ gb380) ∧ (Below w.heap.size w w')) ?_ ?_
             rotate_left
             ·intro hCont
              refine two_ (i := 1) (j := 8) (Ni := some 81) (Nj := some 14) #[T_, T_, T_, F_, F_, F_, F_, F_, F_, F_, F_] #[T_, F_, T_, F_, F_, F_, F_, F_, T_, F_, F_] rfl rfl rfl rfl (two_of HT_.out (by kernel_rfl)) (by decide) (by decide) (fun K hK => ?_) (fun K hK => ?_)
              ·skip
               refine gs Try.func6 #[.agg #[.slice A0_0 l0_0.length c0_0, .slice A0_1 l0_1.length c0_1, .slice A0_2 l0_2.length c0_2]] ?_
               with_reducible refine (laws_toCracker.calls k _ _ l0_0 _ _ l0_1 _ _ l0_2 t402 t405 t408 _ ?side1 ?side2 ?side3 ?side4 ?side5 ?side6 A30.out).mono ?_
               (case side1 => exact uc (Kd.C_below HR0_0.out HB.out))
               (case side2 => exact HC0_0.out)
               (case side3 => exact uc (Kd.C_below HR0_1.out HB.out))
               (case side4 => exact HC0_1.out)
               (case side5 => exact uc (Kd.C_below HR0_2.out HB.out))
               (case side6 => exact HC0_2.out)
               rintro e w106 ⟨v403, v406, v409, rfl, ho0, ho1, ho2, hb⟩
               refine ⟨_, rfl, ?_⟩
               have HO404 := mk (Kd.R_lower (Kd.R_new' (Kd.R_new' (Kd.R_new' (Kd.R_new' ho0 (Kd.R_lt (up HO349.out))) (Kd.R_lt (up HO352.out))) (Kd.R_lt (up HO372.out))) (Kd.R_lt (up HO375.out))) (below_size bl))
               have HO407 := mk (Kd.R_lower (Kd.R_new' (Kd.R_new' (Kd.R_new' (Kd.R_new' ho1 (Kd.R_lt (up HO349.out))) (Kd.R_lt (up HO352.out))) (Kd.R_lt (up HO372.out))) (Kd.R_lt (up HO375.out))) (below_size bl))
               replace HO349 := mk (Kd.R_mono (Kd.R_told (Kd.R_told (Kd.R_old (up HO349.out) hb) (Kd.R_base ho0)) (Kd.R_base ho1)) (fun _ h_ => h_.1))
               replace HO352 := mk (Kd.R_mono (Kd.R_told (Kd.R_told (Kd.R_old (up HO352.out) hb) (Kd.R_base ho0)) (Kd.R_base ho1)) (fun _ h_ => h_.1))
               replace HO372 := mk (Kd.R_mono (Kd.R_told (Kd.R_told (Kd.R_old (up HO372.out) hb) (Kd.R_base ho0)) (Kd.R_base ho1)) (fun _ h_ => h_.1))
               replace HO375 := mk (Kd.R_mono (Kd.R_told (Kd.R_told (Kd.R_old (up HO375.out) hb) (Kd.R_base ho0)) (Kd.R_base ho1)) (fun _ h_ => h_.1))
               have HO410 := mk (Kd.R_lower (Kd.R_new' (Kd.R_new' ho2 (Kd.R_lt (up HO355.out))) (Kd.R_lt (up HO378.out))) (below_size bl))
               replace HO355 := mk (Kd.R_elder' (up HO355.out) (Kd.R_base ho2) hb)
               replace HO378 := mk (Kd.R_elder' (up HO378.out) (Kd.R_base ho2) hb)
               replace BK333 := wb BK333 hb
               replace BK334 := wb BK334 hb
               replace BK357 := wb BK357 hb
               replace BK367 := wb BK367 hb
               replace BK380 := wb BK380 hb
               replace HB := wh hb
               (try clear hb)
               (try clear hb2)
               (try clear hk)
               (try clear hi)
               (try clear ho0)
               (try clear ho1)
               (try clear ho2)
               refine hK.out _ _ ⟨bc BK333 0, bc BK333 1, bc BK333 2, bc BK334 0, bc BK334 1⟩ (fun hHeld => ?_)
               clear hK K
               refine nm 81 ?_
               refine two_ (i := 3) (j := 8) (Ni := some 83) (Nj := some 14) #[T_, T_, T_, T_, F_, F_, F_, F_, F_, F_, F_] #[T_, T_, T_, F_, F_, F_, F_, F_, T_, F_, F_] rfl rfl rfl rfl (two_of HT_.out (by kernel_rfl)) (by decide) (by decide) (fun K hK => ?_) (fun K hK => ?_)
               ·skip
                refine gs Try.func7 #[.agg #[.int .i64 a1_0, .int .i64 a1_1]] ?_
                with_reducible refine (laws_toPivot.calls a1_0 a1_1 t411 t412 _ A31.out).mono ?_
                rintro e w107 ⟨rfl, hb⟩
                refine ⟨_, rfl, ?_⟩
                replace HO349 := mk (Kd.R_below (up HO349.out) hb)
                replace HO352 := mk (Kd.R_below (up HO352.out) hb)
                replace HO355 := mk (Kd.R_below (up HO355.out) hb)
                replace HO372 := mk (Kd.R_below (up HO372.out) hb)
                replace HO375 := mk (Kd.R_below (up HO375.out) hb)
                replace HO378 := mk (Kd.R_below (up HO378.out) hb)
                replace HO404 := mk (Kd.R_below (up HO404.out) hb)
                replace HO407 := mk (Kd.R_below (up HO407.out) hb)
                replace HO410 := mk (Kd.R_below (up HO410.out) hb)
                replace BK333 := wb BK333 hb
                replace BK334 := wb BK334 hb
                replace BK357 := wb BK357 hb
                replace BK367 := wb BK367 hb
                replace BK380 := wb BK380 hb
                replace HB := wh hb
                (try clear hb)
                (try clear hb2)
                (try clear hk)
                (try clear hi)
                obtain ⟨Ao108, co108, eo108⟩ := Kd.R_slice HO404.out
                (first | subst eo108 | (injection eo108 with f1_ f2_ f3_; have f4_ := f1_.symm; have f5_ := f3_.symm; clear f1_ f2_ f3_; subst f4_; subst f5_))
                obtain ⟨Ao109, co109, eo109⟩ := Kd.R_slice HO407.out
                (first | subst eo109 | (injection eo109 with f1_ f2_ f3_; have f4_ := f1_.symm; have f5_ := f3_.symm; clear f1_ f2_ f3_; subst f4_; subst f5_))
                obtain ⟨Ao110, co110, eo110⟩ := Kd.R_slice HO410.out
                (first | subst eo110 | (injection eo110 with f1_ f2_ f3_; have f4_ := f1_.symm; have f5_ := f3_.symm; clear f1_ f2_ f3_; subst f4_; subst f5_))
                refine hK.out _ _ ⟨bc BK333 0, bc BK333 1, bc BK333 2, bc BK334 0, bc BK334 1⟩ (fun hHeld => ?_)
                clear hK K
                refine nm 83 ?_
                refine two_ (i := 4) (j := 8) (Ni := some 84) (Nj := some 14) #[T_, T_, T_, T_, T_, F_, F_, F_, F_, F_, F_] #[T_, T_, T_, T_, F_, F_, F_, F_, T_, F_, F_] rfl rfl rfl rfl (two_of HT_.out (by kernel_rfl)) (by decide) (by decide) (fun K hK => ?_) (fun K hK => ?_)
                ·skip
                 refine gs Try.func8 #[.agg #[.slice Ao108 t402.length co108, .slice Ao109 t405.length co109, .slice Ao110 t408.length co110], .agg #[.int .i64 t411, .int .i64 t412]] ?_
                 with_reducible refine (impl_AddPivot.calls k _ _ t402 _ _ t405 _ _ t408 t411 t412 t413 t416 t419 t422 _ ?side1 ?side2 ?side3 ?side4 ?side5 ?side6 A32.out).mono ?_
                 (case side1 => exact uc (Kd.R_reads' HO404.out).2.2)
                 (case side2 => exact (Kd.R_reads' HO404.out).2.1)
                 (case side3 => exact uc (Kd.R_reads' HO407.out).2.2)
                 (case side4 => exact (Kd.R_reads' HO407.out).2.1)
                 (case side5 => exact uc (Kd.R_reads' HO410.out).2.2)
                 (case side6 => exact (Kd.R_reads' HO410.out).2.1)
                 rintro e w111 ⟨v414, v417, v420, rfl, ho0, ho1, ho2, hb⟩
                 refine ⟨_, rfl, ?_⟩
                 have HO415 := mk (Kd.R_lower (Kd.R_new' (Kd.R_new' (Kd.R_new' (Kd.R_new' (Kd.R_new' (Kd.R_new' ho0 (Kd.R_lt (up HO349.out))) (Kd.R_lt (up HO352.out))) (Kd.R_lt (up HO372.out))) (Kd.R_lt (up HO375.out))) (Kd.R_lt (up HO404.out))) (Kd.R_lt (up HO407.out))) (below_size bl))
                 have HO418 := mk (Kd.R_lower (Kd.R_new' (Kd.R_new' (Kd.R_new' (Kd.R_new' (Kd.R_new' (Kd.R_new' ho1 (Kd.R_lt (up HO349.out))) (Kd.R_lt (up HO352.out))) (Kd.R_lt (up HO372.out))) (Kd.R_lt (up HO375.out))) (Kd.R_lt (up HO404.out))) (Kd.R_lt (up HO407.out))) (below_size bl))
                 replace HO349 := mk (Kd.R_mono (Kd.R_told (Kd.R_told (Kd.R_old (up HO349.out) hb) (Kd.R_base ho0)) (Kd.R_base ho1)) (fun _ h_ => h_.1))
                 replace HO352 := mk (Kd.R_mono (Kd.R_told (Kd.R_told (Kd.R_old (up HO352.out) hb) (Kd.R_base ho0)) (Kd.R_base ho1)) (fun _ h_ => h_.1))
                 replace HO372 := mk (Kd.R_mono (Kd.R_told (Kd.R_told (Kd.R_old (up HO372.out) hb) (Kd.R_base ho0)) (Kd.R_base ho1)) (fun _ h_ => h_.1))
                 replace HO375 := mk (Kd.R_mono (Kd.R_told (Kd.R_told (Kd.R_old (up HO375.out) hb) (Kd.R_base ho0)) (Kd.R_base ho1)) (fun _ h_ => h_.1))
                 replace HO404 := mk (Kd.R_mono (Kd.R_told (Kd.R_told (Kd.R_old (up HO404.out) hb) (Kd.R_base ho0)) (Kd.R_base ho1)) (fun _ h_ => h_.1))
                 replace HO407 := mk (Kd.R_mono (Kd.R_told (Kd.R_told (Kd.R_old (up HO407.out) hb) (Kd.R_base ho0)) (Kd.R_base ho1)) (fun _ h_ => h_.1))
                 have HO421 := mk (Kd.R_lower (Kd.R_new' (Kd.R_new' (Kd.R_new' ho2 (Kd.R_lt (up HO355.out))) (Kd.R_lt (up HO378.out))) (Kd.R_lt (up HO410.out))) (below_size bl))
                 replace HO355 := mk (Kd.R_elder' (up HO355.out) (Kd.R_base ho2) hb)
                 replace HO378 := mk (Kd.R_elder' (up HO378.out) (Kd.R_base ho2) hb)
                 replace HO410 := mk (Kd.R_elder' (up HO410.out) (Kd.R_base ho2) hb)
                 replace BK333 := wb BK333 hb
                 replace BK334 := wb BK334 hb
                 replace BK357 := wb BK357 hb
                 replace BK367 := wb BK367 hb
                 replace BK380 := wb BK380 hb
                 replace HB := wh hb
                 (try clear hb)
                 (try clear hb2)
                 (try clear hk)
                 (try clear hi)
                 (try clear ho0)
                 (try clear ho1)
                 (try clear ho2)
                 refine hK.out _ _ ⟨bc BK333 0, bc BK333 1, bc BK333 2, bc BK334 0, bc BK334 1⟩ (fun hHeld => ?_)
                 clear hK K
                 refine nm 84 ?_
                 refine pu 5 79 (tf 6 5) ?_
                 refine pu 6 85 (tf 7 4) ?_
                 refine pu 7 86 (tf 8 3) ?_
                 refine on 8 14 (tf 9 2) (fun K hK => ?_)
                 refine box_step ?hg (N := 14) ?hd (cs := #[.slice none 0 0, .slice none 0 0, .slice none 0 0]) (t := 31) ?hr ?_; (case hd => rfl); (case hg => rfl); (case hr => first | (go_simp; done) | (go_simp; rfl))
                 intro gb423 hg w112 hbox hb
                 replace HO349 := mk (Kd.R_below (up HO349.out) hb)
                 replace HO352 := mk (Kd.R_below (up HO352.out) hb)
                 replace HO355 := mk (Kd.R_below (up HO355.out) hb)
                 replace HO372 := mk (Kd.R_below (up HO372.out) hb)
                 replace HO375 := mk (Kd.R_below (up HO375.out) hb)
                 replace HO378 := mk (Kd.R_below (up HO378.out) hb)
                 replace HO404 := mk (Kd.R_below (up HO404.out) hb)
                 replace HO407 := mk (Kd.R_below (up HO407.out) hb)
                 replace HO410 := mk (Kd.R_below (up HO410.out) hb)
                 replace HO415 := mk (Kd.R_below (up HO415.out) hb)
                 replace HO418 := mk (Kd.R_below (up HO418.out) hb)
                 replace HO421 := mk (Kd.R_below (up HO421.out) hb)
                 have BK423 := mk hbox
                 have GW423 := wg hg
                 have GE423 := wg hg
                 replace HB := wh hb
                 have NB333_423 := nl BK333 hg
                 have NB423_333 := nr BK333 hg
                 replace BK333 := wb BK333 hb
                 have NB334_423 := nl BK334 hg
                 have NB423_334 := nr BK334 hg
                 replace BK334 := wb BK334 hb
                 have NB357_423 := nl BK357 hg
                 have NB423_357 := nr BK357 hg
                 replace BK357 := wb BK357 hb
                 have NB367_423 := nl BK367 hg
                 have NB423_367 := nr BK367 hg
                 replace BK367 := wb BK367 hb
                 have NB380_423 := nl BK380 hg
                 have NB423_380 := nr BK380 hg
                 replace BK380 := wb BK380 hb
                 clear hb hbox hg
                 refine hK.out _ _ ⟨bc BK333 0, bc BK333 1, bc BK333 2, bc BK334 0, bc BK334 1⟩ (fun hHeld => ?_)
                 clear hK K
                 refine nm 14 ?_
                 exact norm_ (by simp only [putAll, Act.put, List.setIfInBounds_toArray, List.set_cons_zero, List.set_cons_succ]) (hCont (.slice Ao108 t402.length co108, .slice Ao109 t405.length co109, .slice Ao110 t408.length co110, v414, v417, v420, gb423) _ ⟨hHeld, (by exact up (Kd.R_mono HO349.out (fun _ hk => by first | exact ⟨hk.1.1.1.1.1, ⟨hk.1.1.1.1.2.1, ⟨hk.1.1.1.1.2.2, ⟨hk.1.1.1.2, ⟨hk.1.1.2, ⟨hk.1.2, hk.2⟩⟩⟩⟩⟩⟩ | (revert hk; simp only [and_imp]; intros; (repeat' (refine And.intro ?_ ?_)) <;> assumption)))), (by exact up (Kd.R_mono HO352.out (fun _ hk => by first | exact ⟨hk.1.1.1.1.1, ⟨hk.1.1.1.1.2.1, ⟨hk.1.1.1.1.2.2, ⟨hk.1.1.1.2, ⟨hk.1.1.2, ⟨hk.1.2, hk.2⟩⟩⟩⟩⟩⟩ | (revert hk; simp only [and_imp]; intros; (repeat' (refine And.intro ?_ ?_)) <;> assumption)))), (by exact up (Kd.R_mono HO355.out (fun _ hk => by first | exact ⟨hk.1.1, ⟨hk.1.2, hk.2⟩⟩ | (revert hk; simp only [and_imp]; intros; (repeat' (refine And.intro ?_ ?_)) <;> assumption)))), (by exact up (Kd.R_mono HO372.out (fun _ hk => by first | exact ⟨hk.1.1.1.1.1, ⟨hk.1.1.1.1.2.1, ⟨hk.1.1.1.1.2.2, ⟨hk.1.1.1.2, ⟨hk.1.1.2, ⟨hk.1.2, hk.2⟩⟩⟩⟩⟩⟩ | (revert hk; simp only [and_imp]; intros; (repeat' (refine And.intro ?_ ?_)) <;> assumption)))), (by exact up (Kd.R_mono HO375.out (fun _ hk => by first | exact ⟨hk.1.1.1.1.1, ⟨hk.1.1.1.1.2.1, ⟨hk.1.1.1.1.2.2, ⟨hk.1.1.1.2, ⟨hk.1.1.2, ⟨hk.1.2, hk.2⟩⟩⟩⟩⟩⟩ | (revert hk; simp only [and_imp]; intros; (repeat' (refine And.intro ?_ ?_)) <;> assumption)))), (by exact up (Kd.R_mono HO378.out (fun _ hk => by first | exact ⟨hk.1.1, ⟨hk.1.2, hk.2⟩⟩ | (revert hk; simp only [and_imp]; intros; (repeat' (refine And.intro ?_ ?_)) <;> assumption)))), (by exact up (Kd.R_mono HO404.out (fun _ hk => by first | exact ⟨hk.1.1.1.1.1.2, ⟨hk.1.1.1.1.2, ⟨hk.1.1.1.2, ⟨hk.1.1.2, ⟨hk.1.1.1.1.1.1, ⟨hk.1.2, hk.2⟩⟩⟩⟩⟩⟩ | (revert hk; simp only [and_imp]; intros; (repeat' (refine And.intro ?_ ?_)) <;> assumption)))), (by exact up (Kd.R_mono HO407.out (fun _ hk => by first | exact ⟨hk.1.1.1.1.1.2, ⟨hk.1.1.1.1.2, ⟨hk.1.1.1.2, ⟨hk.1.1.2, ⟨hk.1.1.1.1.1.1, ⟨hk.1.2, hk.2⟩⟩⟩⟩⟩⟩ | (revert hk; simp only [and_imp]; intros; (repeat' (refine And.intro ?_ ?_)) <;> assumption)))), (by exact up (Kd.R_mono HO410.out (fun _ hk => by first | exact ⟨hk.1.1.2, ⟨hk.1.2, hk.2⟩⟩ | (revert hk; simp only [and_imp]; intros; (repeat' (refine And.intro ?_ ?_)) <;> assumption)))), (by exact up (Kd.R_mono HO415.out (fun _ hk => by first | exact ⟨hk.1.1.1.1.1.2, ⟨hk.1.1.1.1.2, ⟨hk.1.1.1.2, ⟨hk.1.1.2, ⟨hk.1.2, ⟨hk.2, hk.1.1.1.1.1.1⟩⟩⟩⟩⟩⟩ | (revert hk; simp only [and_imp]; intros; (repeat' (refine And.intro ?_ ?_)) <;> assumption)))), (by exact up (Kd.R_mono HO418.out (fun _ hk => by first | exact ⟨hk.1.1.1.1.1.2, ⟨hk.1.1.1.1.2, ⟨hk.1.1.1.2, ⟨hk.1.1.2, ⟨hk.1.2, ⟨hk.2, hk.1.1.1.1.1.1⟩⟩⟩⟩⟩⟩ | (revert hk; simp only [and_imp]; intros; (repeat' (refine And.intro ?_ ?_)) <;> assumption)))), (by exact up (Kd.R_mono HO421.out (fun _ hk => by first | exact ⟨hk.1.1.2, ⟨hk.1.2, hk.2⟩⟩ | (revert hk; simp only [and_imp]; intros; (repeat' (refine And.intro ?_ ?_)) <;> assumption)))), (ub BK333.out), (ub BK334.out), (ub BK357.out), (ub BK367.out), (ub BK380.out), (ub BK423.out), GW423.out, GE423.out, NB333_423.out, NB423_333.out, NB334_423.out, NB423_334.out, NB357_423.out, NB423_357.out, NB367_423.out, NB423_367.out, NB380_423.out, NB423_380.out, bl⟩)
                ·skip
                 refine box_step ?hg (N := 14) ?hd (cs := #[.slice none 0 0, .slice none 0 0, .slice none 0 0]) (t := 31) ?hr ?_; (case hd => rfl); (case hg => rfl); (case hr => first | (go_simp; done) | (go_simp; rfl))
                 intro gb423 hg w108 hbox hb
                 replace HO349 := mk (Kd.R_below (up HO349.out) hb)
                 replace HO352 := mk (Kd.R_below (up HO352.out) hb)
                 replace HO355 := mk (Kd.R_below (up HO355.out) hb)
                 replace HO372 := mk (Kd.R_below (up HO372.out) hb)
                 replace HO375 := mk (Kd.R_below (up HO375.out) hb)
                 replace HO378 := mk (Kd.R_below (up HO378.out) hb)
                 replace HO404 := mk (Kd.R_below (up HO404.out) hb)
                 replace HO407 := mk (Kd.R_below (up HO407.out) hb)
                 replace HO410 := mk (Kd.R_below (up HO410.out) hb)
                 have BK423 := mk hbox
                 have GW423 := wg hg
                 have GE423 := wg hg
                 replace HB := wh hb
                 have NB333_423 := nl BK333 hg
                 have NB423_333 := nr BK333 hg
                 replace BK333 := wb BK333 hb
                 have NB334_423 := nl BK334 hg
                 have NB423_334 := nr BK334 hg
                 replace BK334 := wb BK334 hb
                 have NB357_423 := nl BK357 hg
                 have NB423_357 := nr BK357 hg
                 replace BK357 := wb BK357 hb
                 have NB367_423 := nl BK367 hg
                 have NB423_367 := nr BK367 hg
                 replace BK367 := wb BK367 hb
                 have NB380_423 := nl BK380 hg
                 have NB423_380 := nr BK380 hg
                 replace BK380 := wb BK380 hb
                 clear hb hbox hg
                 obtain ⟨Ao109, co109, eo109⟩ := Kd.R_slice HO404.out
                 (first | subst eo109 | (injection eo109 with f1_ f2_ f3_; have f4_ := f1_.symm; have f5_ := f3_.symm; clear f1_ f2_ f3_; subst f4_; subst f5_))
                 obtain ⟨Ao110, co110, eo110⟩ := Kd.R_slice HO407.out
                 (first | subst eo110 | (injection eo110 with f1_ f2_ f3_; have f4_ := f1_.symm; have f5_ := f3_.symm; clear f1_ f2_ f3_; subst f4_; subst f5_))
                 obtain ⟨Ao111, co111, eo111⟩ := Kd.R_slice HO410.out
                 (first | subst eo111 | (injection eo111 with f1_ f2_ f3_; have f4_ := f1_.symm; have f5_ := f3_.symm; clear f1_ f2_ f3_; subst f4_; subst f5_))
                 refine hK.out _ _ ⟨bc BK333 0, bc BK333 1, bc BK333 2, bc BK334 0, bc BK334 1⟩ (fun hHeld => ?_)
                 clear hK K
                 refine nm 14 ?_
                 refine on 4 84 #[T_,T_,T_,T_,T_,F_,F_,F_,T_,F_,F_] (fun K hK => ?_)
                 refine gs Try.func8 #[.agg #[.slice Ao109 t402.length co109, .slice Ao110 t405.length co110, .slice Ao111 t408.length co111], .agg #[.int .i64 t411, .int .i64 t412]] ?_
                 with_reducible refine (impl_AddPivot.calls k _ _ t402 _ _ t405 _ _ t408 t411 t412 t413 t416 t419 t422 _ ?side1 ?side2 ?side3 ?side4 ?side5 ?side6 A32.out).mono ?_
                 (case side1 => exact uc (Kd.R_reads' HO404.out).2.2)
                 (case side2 => exact (Kd.R_reads' HO404.out).2.1)
                 (case side3 => exact uc (Kd.R_reads' HO407.out).2.2)
                 (case side4 => exact (Kd.R_reads' HO407.out).2.1)
                 (case side5 => exact uc (Kd.R_reads' HO410.out).2.2)
                 (case side6 => exact (Kd.R_reads' HO410.out).2.1)
                 rintro e w112 ⟨v414, v417, v420, rfl, ho0, ho1, ho2, hb⟩
                 refine ⟨_, rfl, ?_⟩
                 have HO415 := mk (Kd.R_lower (Kd.R_new' (Kd.R_new' (Kd.R_new' (Kd.R_new' (Kd.R_new' (Kd.R_new' ho0 (Kd.R_lt (up HO349.out))) (Kd.R_lt (up HO352.out))) (Kd.R_lt (up HO372.out))) (Kd.R_lt (up HO375.out))) (Kd.R_lt (up HO404.out))) (Kd.R_lt (up HO407.out))) (below_size bl))
                 have HO418 := mk (Kd.R_lower (Kd.R_new' (Kd.R_new' (Kd.R_new' (Kd.R_new' (Kd.R_new' (Kd.R_new' ho1 (Kd.R_lt (up HO349.out))) (Kd.R_lt (up HO352.out))) (Kd.R_lt (up HO372.out))) (Kd.R_lt (up HO375.out))) (Kd.R_lt (up HO404.out))) (Kd.R_lt (up HO407.out))) (below_size bl))
                 replace HO349 := mk (Kd.R_mono (Kd.R_told (Kd.R_told (Kd.R_old (up HO349.out) hb) (Kd.R_base ho0)) (Kd.R_base ho1)) (fun _ h_ => h_.1))
                 replace HO352 := mk (Kd.R_mono (Kd.R_told (Kd.R_told (Kd.R_old (up HO352.out) hb) (Kd.R_base ho0)) (Kd.R_base ho1)) (fun _ h_ => h_.1))
                 replace HO372 := mk (Kd.R_mono (Kd.R_told (Kd.R_told (Kd.R_old (up HO372.out) hb) (Kd.R_base ho0)) (Kd.R_base ho1)) (fun _ h_ => h_.1))
                 replace HO375 := mk (Kd.R_mono (Kd.R_told (Kd.R_told (Kd.R_old (up HO375.out) hb) (Kd.R_base ho0)) (Kd.R_base ho1)) (fun _ h_ => h_.1))
                 replace HO404 := mk (Kd.R_mono (Kd.R_told (Kd.R_told (Kd.R_old (up HO404.out) hb) (Kd.R_base ho0)) (Kd.R_base ho1)) (fun _ h_ => h_.1))
                 replace HO407 := mk (Kd.R_mono (Kd.R_told (Kd.R_told (Kd.R_old (up HO407.out) hb) (Kd.R_base ho0)) (Kd.R_base ho1)) (fun _ h_ => h_.1))
                 have HO421 := mk (Kd.R_lower (Kd.R_new' (Kd.R_new' (Kd.R_new' ho2 (Kd.R_lt (up HO355.out))) (Kd.R_lt (up HO378.out))) (Kd.R_lt (up HO410.out))) (below_size bl))
                 replace HO355 := mk (Kd.R_elder' (up HO355.out) (Kd.R_base ho2) hb)
                 replace HO378 := mk (Kd.R_elder' (up HO378.out) (Kd.R_base ho2) hb)
                 replace HO410 := mk (Kd.R_elder' (up HO410.out) (Kd.R_base ho2) hb)
                 replace BK333 := wb BK333 hb
                 replace BK334 := wb BK334 hb
                 replace BK357 := wb BK357 hb
                 replace BK367 := wb BK367 hb
                 replace BK380 := wb BK380 hb
                 replace BK423 := wb BK423 hb
                 replace HB := wh hb
                 (try clear hb)
                 (try clear hb2)
                 (try clear hk)
                 (try clear hi)
                 (try clear ho0)
                 (try clear ho1)
                 (try clear ho2)
                 refine hK.out _ _ ⟨bc BK333 0, bc BK333 1, bc BK333 2, bc BK334 0, bc BK334 1⟩ (fun hHeld => ?_)
                 clear hK K
                 refine nm 84 ?_
                 refine pu 5 79 #[T_,T_,T_,T_,T_,T_,F_,F_,T_,F_,F_] ?_
                 refine pu 6 85 #[T_,T_,T_,T_,T_,T_,T_,F_,T_,F_,F_] ?_
                 refine pu 7 86 (tf 9 2) ?_
                 exact norm_ (by simp only [putAll, Act.put, List.setIfInBounds_toArray, List.set_cons_zero, List.set_cons_succ]) (hCont (.slice Ao109 t402.length co109, .slice Ao110 t405.length co110, .slice Ao111 t408.length co111, v414, v417, v420, gb423) _ ⟨hHeld, (by exact up (Kd.R_mono HO349.out (fun _ hk => by first | exact ⟨hk.1.1.1.1.1, ⟨hk.1.1.1.1.2.1, ⟨hk.1.1.1.1.2.2, ⟨hk.1.1.1.2, ⟨hk.1.1.2, ⟨hk.1.2, hk.2⟩⟩⟩⟩⟩⟩ | (revert hk; simp only [and_imp]; intros; (repeat' (refine And.intro ?_ ?_)) <;> assumption)))), (by exact up (Kd.R_mono HO352.out (fun _ hk => by first | exact ⟨hk.1.1.1.1.1, ⟨hk.1.1.1.1.2.1, ⟨hk.1.1.1.1.2.2, ⟨hk.1.1.1.2, ⟨hk.1.1.2, ⟨hk.1.2, hk.2⟩⟩⟩⟩⟩⟩ | (revert hk; simp only [and_imp]; intros; (repeat' (refine And.intro ?_ ?_)) <;> assumption)))), (by exact up (Kd.R_mono HO355.out (fun _ hk => by first | exact ⟨hk.1.1, ⟨hk.1.2, hk.2⟩⟩ | (revert hk; simp only [and_imp]; intros; (repeat' (refine And.intro ?_ ?_)) <;> assumption)))), (by exact up (Kd.R_mono HO372.out (fun _ hk => by first | exact ⟨hk.1.1.1.1.1, ⟨hk.1.1.1.1.2.1, ⟨hk.1.1.1.1.2.2, ⟨hk.1.1.1.2, ⟨hk.1.1.2, ⟨hk.1.2, hk.2⟩⟩⟩⟩⟩⟩ | (revert hk; simp only [and_imp]; intros; (repeat' (refine And.intro ?_ ?_)) <;> assumption)))), (by exact up (Kd.R_mono HO375.out (fun _ hk => by first | exact ⟨hk.1.1.1.1.1, ⟨hk.1.1.1.1.2.1, ⟨hk.1.1.1.1.2.2, ⟨hk.1.1.1.2, ⟨hk.1.1.2, ⟨hk.1.2, hk.2⟩⟩⟩⟩⟩⟩ | (revert hk; simp only [and_imp]; intros; (repeat' (refine And.intro ?_ ?_)) <;> assumption)))), (by exact up (Kd.R_mono HO378.out (fun _ hk => by first | exact ⟨hk.1.1, ⟨hk.1.2, hk.2⟩⟩ | (revert hk; simp only [and_imp]; intros; (repeat' (refine And.intro ?_ ?_)) <;> assumption)))), (by exact up (Kd.R_mono HO404.out (fun _ hk => by first | exact ⟨hk.1.1.1.1.1.2, ⟨hk.1.1.1.1.2, ⟨hk.1.1.1.2, ⟨hk.1.1.2, ⟨hk.1.1.1.1.1.1, ⟨hk.1.2, hk.2⟩⟩⟩⟩⟩⟩ | (revert hk; simp only [and_imp]; intros; (repeat' (refine And.intro ?_ ?_)) <;> assumption)))), (by exact up (Kd.R_mono HO407.out (fun _ hk => by first | exact ⟨hk.1.1.1.1.1.2, ⟨hk.1.1.1.1.2, ⟨hk.1.1.1.2, ⟨hk.1.1.2, ⟨hk.1.1.1.1.1.1, ⟨hk.1.2, hk.2⟩⟩⟩⟩⟩⟩ | (revert hk; simp only [and_imp]; intros; (repeat' (refine And.intro ?_ ?_)) <;> assumption)))), (by exact up (Kd.R_mono HO410.out (fun _ hk => by first | exact ⟨hk.1.1.2, ⟨hk.1.2, hk.2⟩⟩ | (revert hk; simp only [and_imp]; intros; (repeat' (refine And.intro ?_ ?_)) <;> assumption)))), (by exact up (Kd.R_mono HO415.out (fun _ hk => by first | exact ⟨hk.1.1.1.1.1.2, ⟨hk.1.1.1.1.2, ⟨hk.1.1.1.2, ⟨hk.1.1.2, ⟨hk.1.2, ⟨hk.2, hk.1.1.1.1.1.1⟩⟩⟩⟩⟩⟩ | (revert hk; simp only [and_imp]; intros; (repeat' (refine And.intro ?_ ?_)) <;> assumption)))), (by exact up (Kd.R_mono HO418.out (fun _ hk => by first | exact ⟨hk.1.1.1.1.1.2, ⟨hk.1.1.1.1.2, ⟨hk.1.1.1.2, ⟨hk.1.1.2, ⟨hk.1.2, ⟨hk.2, hk.1.1.1.1.1.1⟩⟩⟩⟩⟩⟩ | (revert hk; simp only [and_imp]; intros; (repeat' (refine And.intro ?_ ?_)) <;> assumption)))), (by exact up (Kd.R_mono HO421.out (fun _ hk => by first | exact ⟨hk.1.1.2, ⟨hk.1.2, hk.2⟩⟩ | (revert hk; simp only [and_imp]; intros; (repeat' (refine And.intro ?_ ?_)) <;> assumption)))), (ub BK333.out), (ub BK334.out), (ub BK357.out), (ub BK367.out), (ub BK380.out), (ub BK423.out), GW423.out, GE423.out, NB333_423.out, NB423_333.out, NB334_423.out, NB423_334.out, NB357_423.out, NB423_357.out, NB367_423.out, NB423_367.out, NB380_423.out, NB423_380.out, bl⟩)
               ·skip
                refine box_step ?hg (N := 14) ?hd (cs := #[.slice none 0 0, .slice none 0 0, .slice none 0 0]) (t := 31) ?hr ?_; (case hd => rfl); (case hg => rfl); (case hr => first | (go_simp; done) | (go_simp; rfl))
                intro gb423 hg w107 hbox hb
                replace HO349 := mk (Kd.R_below (up HO349.out) hb)
                replace HO352 := mk (Kd.R_below (up HO352.out) hb)
                replace HO355 := mk (Kd.R_below (up HO355.out) hb)
                replace HO372 := mk (Kd.R_below (up HO372.out) hb)
                replace HO375 := mk (Kd.R_below (up HO375.out) hb)
                replace HO378 := mk (Kd.R_below (up HO378.out) hb)
                replace HO404 := mk (Kd.R_below (up HO404.out) hb)
                replace HO407 := mk (Kd.R_below (up HO407.out) hb)
                replace HO410 := mk (Kd.R_below (up HO410.out) hb)
                have BK423 := mk hbox
                have GW423 := wg hg
                have GE423 := wg hg
                replace HB := wh hb
                have NB333_423 := nl BK333 hg
                have NB423_333 := nr BK333 hg
                replace BK333 := wb BK333 hb
                have NB334_423 := nl BK334 hg
                have NB423_334 := nr BK334 hg
                replace BK334 := wb BK334 hb
                have NB357_423 := nl BK357 hg
                have NB423_357 := nr BK357 hg
                replace BK357 := wb BK357 hb
                have NB367_423 := nl BK367 hg
                have NB423_367 := nr BK367 hg
                replace BK367 := wb BK367 hb
                have NB380_423 := nl BK380 hg
                have NB423_380 := nr BK380 hg
                replace BK380 := wb BK380 hb
                clear hb hbox hg
                refine hK.out _ _ ⟨bc BK333 0, bc BK333 1, bc BK333 2, bc BK334 0, bc BK334 1⟩ (fun hHeld => ?_)
                clear hK K
                refine nm 14 ?_
                refine on 3 83 #[T_,T_,T_,T_,F_,F_,F_,F_,T_,F_,F_] (fun K hK => ?_)
                refine gs Try.func7 #[.agg #[.int .i64 a1_0, .int .i64 a1_1]] ?_
                with_reducible refine (laws_toPivot.calls a1_0 a1_1 t411 t412 _ A31.out).mono ?_
                rintro e w108 ⟨rfl, hb⟩
                refine ⟨_, rfl, ?_⟩
                replace HO349 := mk (Kd.R_below (up HO349.out) hb)
                replace HO352 := mk (Kd.R_below (up HO352.out) hb)
                replace HO355 := mk (Kd.R_below (up HO355.out) hb)
                replace HO372 := mk (Kd.R_below (up HO372.out) hb)
                replace HO375 := mk (Kd.R_below (up HO375.out) hb)
                replace HO378 := mk (Kd.R_below (up HO378.out) hb)
                replace HO404 := mk (Kd.R_below (up HO404.out) hb)
                replace HO407 := mk (Kd.R_below (up HO407.out) hb)
                replace HO410 := mk (Kd.R_below (up HO410.out) hb)
                replace BK333 := wb BK333 hb
                replace BK334 := wb BK334 hb
                replace BK357 := wb BK357 hb
                replace BK367 := wb BK367 hb
                replace BK380 := wb BK380 hb
                replace BK423 := wb BK423 hb
                replace HB := wh hb
                (try clear hb)
                (try clear hb2)
                (try clear hk)
                (try clear hi)
                obtain ⟨Ao109, co109, eo109⟩ := Kd.R_slice HO404.out
                (first | subst eo109 | (injection eo109 with f1_ f2_ f3_; have f4_ := f1_.symm; have f5_ := f3_.symm; clear f1_ f2_ f3_; subst f4_; subst f5_))
                obtain ⟨Ao110, co110, eo110⟩ := Kd.R_slice HO407.out
                (first | subst eo110 | (injection eo110 with f1_ f2_ f3_; have f4_ := f1_.symm; have f5_ := f3_.symm; clear f1_ f2_ f3_; subst f4_; subst f5_))
                obtain ⟨Ao111, co111, eo111⟩ := Kd.R_slice HO410.out
                (first | subst eo111 | (injection eo111 with f1_ f2_ f3_; have f4_ := f1_.symm; have f5_ := f3_.symm; clear f1_ f2_ f3_; subst f4_; subst f5_))
                refine hK.out _ _ ⟨bc BK333 0, bc BK333 1, bc BK333 2, bc BK334 0, bc BK334 1⟩ (fun hHeld => ?_)
                clear hK K
                refine nm 83 ?_
                refine on 4 84 #[T_,T_,T_,T_,T_,F_,F_,F_,T_,F_,F_] (fun K hK => ?_)
                refine gs Try.func8 #[.agg #[.slice Ao109 t402.length co109, .slice Ao110 t405.length co110, .slice Ao111 t408.length co111], .agg #[.int .i64 t411, .int .i64 t412]] ?_
                with_reducible refine (impl_AddPivot.calls k _ _ t402 _ _ t405 _ _ t408 t411 t412 t413 t416 t419 t422 _ ?side1 ?side2 ?side3 ?side4 ?side5 ?side6 A32.out).mono ?_
                (case side1 => exact uc (Kd.R_reads' HO404.out).2.2)
                (case side2 => exact (Kd.R_reads' HO404.out).2.1)
                (case side3 => exact uc (Kd.R_reads' HO407.out).2.2)
                (case side4 => exact (Kd.R_reads' HO407.out).2.1)
                (case side5 => exact uc (Kd.R_reads' HO410.out).2.2)
                (case side6 => exact (Kd.R_reads' HO410.out).2.1)
                rintro e w112 ⟨v414, v417, v420, rfl, ho0, ho1, ho2, hb⟩
                refine ⟨_, rfl, ?_⟩
                have HO415 := mk (Kd.R_lower (Kd.R_new' (Kd.R_new' (Kd.R_new' (Kd.R_new' (Kd.R_new' (Kd.R_new' ho0 (Kd.R_lt (up HO349.out))) (Kd.R_lt (up HO352.out))) (Kd.R_lt (up HO372.out))) (Kd.R_lt (up HO375.out))) (Kd.R_lt (up HO404.out))) (Kd.R_lt (up HO407.out))) (below_size bl))
                have HO418 := mk (Kd.R_lower (Kd.R_new' (Kd.R_new' (Kd.R_new' (Kd.R_new' (Kd.R_new' (Kd.R_new' ho1 (Kd.R_lt (up HO349.out))) (Kd.R_lt (up HO352.out))) (Kd.R_lt (up HO372.out))) (Kd.R_lt (up HO375.out))) (Kd.R_lt (up HO404.out))) (Kd.R_lt (up HO407.out))) (below_size bl))
                replace HO349 := mk (Kd.R_mono (Kd.R_told (Kd.R_told (Kd.R_old (up HO349.out) hb) (Kd.R_base ho0)) (Kd.R_base ho1)) (fun _ h_ => h_.1))
                replace HO352 := mk (Kd.R_mono (Kd.R_told (Kd.R_told (Kd.R_old (up HO352.out) hb) (Kd.R_base ho0)) (Kd.R_base ho1)) (fun _ h_ => h_.1))
                replace HO372 := mk (Kd.R_mono (Kd.R_told (Kd.R_told (Kd.R_old (up HO372.out) hb) (Kd.R_base ho0)) (Kd.R_base ho1)) (fun _ h_ => h_.1))
                replace HO375 := mk (Kd.R_mono (Kd.R_told (Kd.R_told (Kd.R_old (up HO375.out) hb) (Kd.R_base ho0)) (Kd.R_base ho1)) (fun _ h_ => h_.1))
                replace HO404 := mk (Kd.R_mono (Kd.R_told (Kd.R_told (Kd.R_old (up HO404.out) hb) (Kd.R_base ho0)) (Kd.R_base ho1)) (fun _ h_ => h_.1))
                replace HO407 := mk (Kd.R_mono (Kd.R_told (Kd.R_told (Kd.R_old (up HO407.out) hb) (Kd.R_base ho0)) (Kd.R_base ho1)) (fun _ h_ => h_.1))
                have HO421 := mk (Kd.R_lower (Kd.R_new' (Kd.R_new' (Kd.R_new' ho2 (Kd.R_lt (up HO355.out))) (Kd.R_lt (up HO378.out))) (Kd.R_lt (up HO410.out))) (below_size bl))
                replace HO355 := mk (Kd.R_elder' (up HO355.out) (Kd.R_base ho2) hb)
                replace HO378 := mk (Kd.R_elder' (up HO378.out) (Kd.R_base ho2) hb)
                replace HO410 := mk (Kd.R_elder' (up HO410.out) (Kd.R_base ho2) hb)
                replace BK333 := wb BK333 hb
                replace BK334 := wb BK334 hb
                replace BK357 := wb BK357 hb
                replace BK367 := wb BK367 hb
                replace BK380 := wb BK380 hb
                replace BK423 := wb BK423 hb
                replace HB := wh hb
                (try clear hb)
                (try clear hb2)
                (try clear hk)
                (try clear hi)
                (try clear ho0)
                (try clear ho1)
                (try clear ho2)
                refine hK.out _ _ ⟨bc BK333 0, bc BK333 1, bc BK333 2, bc BK334 0, bc BK334 1⟩ (fun hHeld => ?_)
                clear hK K
                refine nm 84 ?_
                refine pu 5 79 #[T_,T_,T_,T_,T_,T_,F_,F_,T_,F_,F_] ?_
                refine pu 6 85 #[T_,T_,T_,T_,T_,T_,T_,F_,T_,F_,F_] ?_
                refine pu 7 86 (tf 9 2) ?_
                exact norm_ (by simp only [putAll, Act.put, List.setIfInBounds_toArray, List.set_cons_zero, List.set_cons_succ]) (hCont (.slice Ao109 t402.length co109, .slice Ao110 t405.length co110, .slice Ao111 t408.length co111, v414, v417, v420, gb423) _ ⟨hHeld, (by exact up (Kd.R_mono HO349.out (fun _ hk => by first | exact ⟨hk.1.1.1.1.1, ⟨hk.1.1.1.1.2.1, ⟨hk.1.1.1.1.2.2, ⟨hk.1.1.1.2, ⟨hk.1.1.2, ⟨hk.1.2, hk.2⟩⟩⟩⟩⟩⟩ | (revert hk; simp only [and_imp]; intros; (repeat' (refine And.intro ?_ ?_)) <;> assumption)))), (by exact up (Kd.R_mono HO352.out (fun _ hk => by first | exact ⟨hk.1.1.1.1.1, ⟨hk.1.1.1.1.2.1, ⟨hk.1.1.1.1.2.2, ⟨hk.1.1.1.2, ⟨hk.1.1.2, ⟨hk.1.2, hk.2⟩⟩⟩⟩⟩⟩ | (revert hk; simp only [and_imp]; intros; (repeat' (refine And.intro ?_ ?_)) <;> assumption)))), (by exact up (Kd.R_mono HO355.out (fun _ hk => by first | exact ⟨hk.1.1, ⟨hk.1.2, hk.2⟩⟩ | (revert hk; simp only [and_imp]; intros; (repeat' (refine And.intro ?_ ?_)) <;> assumption)))), (by exact up (Kd.R_mono HO372.out (fun _ hk => by first | exact ⟨hk.1.1.1.1.1, ⟨hk.1.1.1.1.2.1, ⟨hk.1.1.1.1.2.2, ⟨hk.1.1.1.2, ⟨hk.1.1.2, ⟨hk.1.2, hk.2⟩⟩⟩⟩⟩⟩ | (revert hk; simp only [and_imp]; intros; (repeat' (refine And.intro ?_ ?_)) <;> assumption)))), (by exact up (Kd.R_mono HO375.out (fun _ hk => by first | exact ⟨hk.1.1.1.1.1, ⟨hk.1.1.1.1.2.1, ⟨hk.1.1.1.1.2.2, ⟨hk.1.1.1.2, ⟨hk.1.1.2, ⟨hk.1.2, hk.2⟩⟩⟩⟩⟩⟩ | (revert hk; simp only [and_imp]; intros; (repeat' (refine And.intro ?_ ?_)) <;> assumption)))), (by exact up (Kd.R_mono HO378.out (fun _ hk => by first | exact ⟨hk.1.1, ⟨hk.1.2, hk.2⟩⟩ | (revert hk; simp only [and_imp]; intros; (repeat' (refine And.intro ?_ ?_)) <;> assumption)))), (by exact up (Kd.R_mono HO404.out (fun _ hk => by first | exact ⟨hk.1.1.1.1.1.2, ⟨hk.1.1.1.1.2, ⟨hk.1.1.1.2, ⟨hk.1.1.2, ⟨hk.1.1.1.1.1.1, ⟨hk.1.2, hk.2⟩⟩⟩⟩⟩⟩ | (revert hk; simp only [and_imp]; intros; (repeat' (refine And.intro ?_ ?_)) <;> assumption)))), (by exact up (Kd.R_mono HO407.out (fun _ hk => by first | exact ⟨hk.1.1.1.1.1.2, ⟨hk.1.1.1.1.2, ⟨hk.1.1.1.2, ⟨hk.1.1.2, ⟨hk.1.1.1.1.1.1, ⟨hk.1.2, hk.2⟩⟩⟩⟩⟩⟩ | (revert hk; simp only [and_imp]; intros; (repeat' (refine And.intro ?_ ?_)) <;> assumption)))), (by exact up (Kd.R_mono HO410.out (fun _ hk => by first | exact ⟨hk.1.1.2, ⟨hk.1.2, hk.2⟩⟩ | (revert hk; simp only [and_imp]; intros; (repeat' (refine And.intro ?_ ?_)) <;> assumption)))), (by exact up (Kd.R_mono HO415.out (fun _ hk => by first | exact ⟨hk.1.1.1.1.1.2, ⟨hk.1.1.1.1.2, ⟨hk.1.1.1.2, ⟨hk.1.1.2, ⟨hk.1.2, ⟨hk.2, hk.1.1.1.1.1.1⟩⟩⟩⟩⟩⟩ | (revert hk; simp only [and_imp]; intros; (repeat' (refine And.intro ?_ ?_)) <;> assumption)))), (by exact up (Kd.R_mono HO418.out (fun _ hk => by first | exact ⟨hk.1.1.1.1.1.2, ⟨hk.1.1.1.1.2, ⟨hk.1.1.1.2, ⟨hk.1.1.2, ⟨hk.1.2, ⟨hk.2, hk.1.1.1.1.1.1⟩⟩⟩⟩⟩⟩ | (revert hk; simp only [and_imp]; intros; (repeat' (refine And.intro ?_ ?_)) <;> assumption)))), (by exact up (Kd.R_mono HO421.out (fun _ hk => by first | exact ⟨hk.1.1.2, ⟨hk.1.2, hk.2⟩⟩ | (revert hk; simp only [and_imp]; intros; (repeat' (refine And.intro ?_ ?_)) <;> assumption)))), (ub BK333.out), (ub BK334.out), (ub BK357.out), (ub BK367.out), (ub BK380.out), (ub BK423.out), GW423.out, GE423.out, NB333_423.out, NB423_333.out, NB334_423.out, NB423_334.out, NB357_423.out, NB423_357.out, NB367_423.out, NB423_367.out, NB380_423.out, NB423_380.out, bl⟩)
              ·skip
               refine box_step ?hg (N := 14) ?hd (cs := #[.slice none 0 0, .slice none 0 0, .slice none 0 0]) (t := 31) ?hr ?_; (case hd => rfl); (case hg => rfl); (case hr => first | (go_simp; done) | (go_simp; rfl))
               intro gb423 hg w106 hbox hb
               replace HO349 := mk (Kd.R_below (up HO349.out) hb)
               replace HO352 := mk (Kd.R_below (up HO352.out) hb)
               replace HO355 := mk (Kd.R_below (up HO355.out) hb)
               replace HO372 := mk (Kd.R_below (up HO372.out) hb)
               replace HO375 := mk (Kd.R_below (up HO375.out) hb)
               replace HO378 := mk (Kd.R_below (up HO378.out) hb)
               have BK423 := mk hbox
               have GW423 := wg hg
               have GE423 := wg hg
               replace HB := wh hb
               have NB333_423 := nl BK333 hg
               have NB423_333 := nr BK333 hg
               replace BK333 := wb BK333 hb
               have NB334_423 := nl BK334 hg
               have NB423_334 := nr BK334 hg
               replace BK334 := wb BK334 hb
               have NB357_423 := nl BK357 hg
               have NB423_357 := nr BK357 hg
               replace BK357 := wb BK357 hb
               have NB367_423 := nl BK367 hg
               have NB423_367 := nr BK367 hg
               replace BK367 := wb BK367 hb
               have NB380_423 := nl BK380 hg
               have NB423_380 := nr BK380 hg
               replace BK380 := wb BK380 hb
               clear hb hbox hg
               refine hK.out _ _ ⟨bc BK333 0, bc BK333 1, bc BK333 2, bc BK334 0, bc BK334 1⟩ (fun hHeld => ?_)
               clear hK K
               refine nm 14 ?_
               refine on 1 81 #[T_,T_,T_,F_,F_,F_,F_,F_,T_,F_,F_] (fun K hK => ?_)
               refine gs Try.func6 #[.agg #[.slice A0_0 l0_0.length c0_0, .slice A0_1 l0_1.length c0_1, .slice A0_2 l0_2.length c0_2]] ?_
               with_reducible refine (laws_toCracker.calls k _ _ l0_0 _ _ l0_1 _ _ l0_2 t402 t405 t408 _ ?side1 ?side2 ?side3 ?side4 ?side5 ?side6 A30.out).mono ?_
               (case side1 => exact uc (Kd.C_below HR0_0.out HB.out))
               (case side2 => exact HC0_0.out)
               (case side3 => exact uc (Kd.C_below HR0_1.out HB.out))
               (case side4 => exact HC0_1.out)
               (case side5 => exact uc (Kd.C_below HR0_2.out HB.out))
               (case side6 => exact HC0_2.out)
               rintro e w107 ⟨v403, v406, v409, rfl, ho0, ho1, ho2, hb⟩
               refine ⟨_, rfl, ?_⟩
               have HO404 := mk (Kd.R_lower (Kd.R_new' (Kd.R_new' (Kd.R_new' (Kd.R_new' ho0 (Kd.R_lt (up HO349.out))) (Kd.R_lt (up HO352.out))) (Kd.R_lt (up HO372.out))) (Kd.R_lt (up HO375.out))) (below_size bl))
               have HO407 := mk (Kd.R_lower (Kd.R_new' (Kd.R_new' (Kd.R_new' (Kd.R_new' ho1 (Kd.R_lt (up HO349.out))) (Kd.R_lt (up HO352.out))) (Kd.R_lt (up HO372.out))) (Kd.R_lt (up HO375.out))) (below_size bl))
               replace HO349 := mk (Kd.R_mono (Kd.R_told (Kd.R_told (Kd.R_old (up HO349.out) hb) (Kd.R_base ho0)) (Kd.R_base ho1)) (fun _ h_ => h_.1))
               replace HO352 := mk (Kd.R_mono (Kd.R_told (Kd.R_told (Kd.R_old (up HO352.out) hb) (Kd.R_base ho0)) (Kd.R_base ho1)) (fun _ h_ => h_.1))
               replace HO372 := mk (Kd.R_mono (Kd.R_told (Kd.R_told (Kd.R_old (up HO372.out) hb) (Kd.R_base ho0)) (Kd.R_base ho1)) (fun _ h_ => h_.1))
               replace HO375 := mk (Kd.R_mono (Kd.R_told (Kd.R_told (Kd.R_old (up HO375.out) hb) (Kd.R_base ho0)) (Kd.R_base ho1)) (fun _ h_ => h_.1))
               have HO410 := mk (Kd.R_lower (Kd.R_new' (Kd.R_new' ho2 (Kd.R_lt (up HO355.out))) (Kd.R_lt (up HO378.out))) (below_size bl))
               replace HO355 := mk (Kd.R_elder' (up HO355.out) (Kd.R_base ho2) hb)
               replace HO378 := mk (Kd.R_elder' (up HO378.out) (Kd.R_base ho2) hb)
               replace BK333 := wb BK333 hb
               replace BK334 := wb BK334 hb
               replace BK357 := wb BK357 hb
               replace BK367 := wb BK367 hb
               replace BK380 := wb BK380 hb
               replace BK423 := wb BK423 hb
               replace HB := wh hb
               (try clear hb)
               (try clear hb2)
               (try clear hk)
               (try clear hi)
               (try clear ho0)
               (try clear ho1)
               (try clear ho2)
               refine hK.out _ _ ⟨bc BK333 0, bc BK333 1, bc BK333 2, bc BK334 0, bc BK334 1⟩ (fun hHeld => ?_)
               clear hK K
               refine nm 81 ?_
               refine on 3 83 #[T_,T_,T_,T_,F_,F_,F_,F_,T_,F_,F_] (fun K hK => ?_)
               refine gs Try.func7 #[.agg #[.int .i64 a1_0, .int .i64 a1_1]] ?_
               with_reducible refine (laws_toPivot.calls a1_0 a1_1 t411 t412 _ A31.out).mono ?_
               rintro e w108 ⟨rfl, hb⟩
               refine ⟨_, rfl, ?_⟩
               replace HO349 := mk (Kd.R_below (up HO349.out) hb)
               replace HO352 := mk (Kd.R_below (up HO352.out) hb)
               replace HO355 := mk (Kd.R_below (up HO355.out) hb)
               replace HO372 := mk (Kd.R_below (up HO372.out) hb)
               replace HO375 := mk (Kd.R_below (up HO375.out) hb)
               replace HO378 := mk (Kd.R_below (up HO378.out) hb)
               replace HO404 := mk (Kd.R_below (up HO404.out) hb)
               replace HO407 := mk (Kd.R_below (up HO407.out) hb)
               replace HO410 := mk (Kd.R_below (up HO410.out) hb)
               replace BK333 := wb BK333 hb
               replace BK334 := wb BK334 hb
               replace BK357 := wb BK357 hb
               replace BK367 := wb BK367 hb
               replace BK380 := wb BK380 hb
               replace BK423 := wb BK423 hb
               replace HB := wh hb
               (try clear hb)
               (try clear hb2)
               (try clear hk)
               (try clear hi)
               obtain ⟨Ao109, co109, eo109⟩ := Kd.R_slice HO404.out
               (first | subst eo109 | (injection eo109 with f1_ f2_ f3_; have f4_ := f1_.symm; have f5_ := f3_.symm; clear f1_ f2_ f3_; subst f4_; subst f5_))
               obtain ⟨Ao110, co110, eo110⟩ := Kd.R_slice HO407.out
               (first | subst eo110 | (injection eo110 with f1_ f2_ f3_; have f4_ := f1_.symm; have f5_ := f3_.symm; clear f1_ f2_ f3_; subst f4_; subst f5_))
               obtain ⟨Ao111, co111, eo111⟩ := Kd.R_slice HO410.out
               (first | subst eo111 | (injection eo111 with f1_ f2_ f3_; have f4_ := f1_.symm; have f5_ := f3_.symm; clear f1_ f2_ f3_; subst f4_; subst f5_))
               refine hK.out _ _ ⟨bc BK333 0, bc BK333 1, bc BK333 2, bc BK334 0, bc BK334 1⟩ (fun hHeld => ?_)
               clear hK K
               refine nm 83 ?_
               refine on 4 84 #[T_,T_,T_,T_,T_,F_,F_,F_,T_,F_,F_] (fun K hK => ?_)
               refine gs Try.func8 #[.agg #[.slice Ao109 t402.length co109, .slice Ao110 t405.length co110, .slice Ao111 t408.length co111], .agg #[.int .i64 t411, .int .i64 t412]] ?_
               with_reducible refine (impl_AddPivot.calls k _ _ t402 _ _ t405 _ _ t408 t411 t412 t413 t416 t419 t422 _ ?side1 ?side2 ?side3 ?side4 ?side5 ?side6 A32.out).mono ?_
               (case side1 => exact uc (Kd.R_reads' HO404.out).2.2)
               (case side2 => exact (Kd.R_reads' HO404.out).2.1)
               (case side3 => exact uc (Kd.R_reads' HO407.out).2.2)
               (case side4 => exact (Kd.R_reads' HO407.out).2.1)
               (case side5 => exact uc (Kd.R_reads' HO410.out).2.2)
               (case side6 => exact (Kd.R_reads' HO410.out).2.1)
               rintro e w112 ⟨v414, v417, v420, rfl, ho0, ho1, ho2, hb⟩
               refine ⟨_, rfl, ?_⟩
               have HO415 := mk (Kd.R_lower (Kd.R_new' (Kd.R_new' (Kd.R_new' (Kd.R_new' (Kd.R_new' (Kd.R_new' ho0 (Kd.R_lt (up HO349.out))) (Kd.R_lt (up HO352.out))) (Kd.R_lt (up HO372.out))) (Kd.R_lt (up HO375.out))) (Kd.R_lt (up HO404.out))) (Kd.R_lt (up HO407.out))) (below_size bl))
               have HO418 := mk (Kd.R_lower (Kd.R_new' (Kd.R_new' (Kd.R_new' (Kd.R_new' (Kd.R_new' (Kd.R_new' ho1 (Kd.R_lt (up HO349.out))) (Kd.R_lt (up HO352.out))) (Kd.R_lt (up HO372.out))) (Kd.R_lt (up HO375.out))) (Kd.R_lt (up HO404.out))) (Kd.R_lt (up HO407.out))) (below_size bl))
               replace HO349 := mk (Kd.R_mono (Kd.R_told (Kd.R_told (Kd.R_old (up HO349.out) hb) (Kd.R_base ho0)) (Kd.R_base ho1)) (fun _ h_ => h_.1))
               replace HO352 := mk (Kd.R_mono (Kd.R_told (Kd.R_told (Kd.R_old (up HO352.out) hb) (Kd.R_base ho0)) (Kd.R_base ho1)) (fun _ h_ => h_.1))
               replace HO372 := mk (Kd.R_mono (Kd.R_told (Kd.R_told (Kd.R_old (up HO372.out) hb) (Kd.R_base ho0)) (Kd.R_base ho1)) (fun _ h_ => h_.1))
               replace HO375 := mk (Kd.R_mono (Kd.R_told (Kd.R_told (Kd.R_old (up HO375.out) hb) (Kd.R_base ho0)) (Kd.R_base ho1)) (fun _ h_ => h_.1))
               replace HO404 := mk (Kd.R_mono (Kd.R_told (Kd.R_told (Kd.R_old (up HO404.out) hb) (Kd.R_base ho0)) (Kd.R_base ho1)) (fun _ h_ => h_.1))
               replace HO407 := mk (Kd.R_mono (Kd.R_told (Kd.R_told (Kd.R_old (up HO407.out) hb) (Kd.R_base ho0)) (Kd.R_base ho1)) (fun _ h_ => h_.1))
               have HO421 := mk (Kd.R_lower (Kd.R_new' (Kd.R_new' (Kd.R_new' ho2 (Kd.R_lt (up HO355.out))) (Kd.R_lt (up HO378.out))) (Kd.R_lt (up HO410.out))) (below_size bl))
               replace HO355 := mk (Kd.R_elder' (up HO355.out) (Kd.R_base ho2) hb)
               replace HO378 := mk (Kd.R_elder' (up HO378.out) (Kd.R_base ho2) hb)
               replace HO410 := mk (Kd.R_elder' (up HO410.out) (Kd.R_base ho2) hb)
               replace BK333 := wb BK333 hb
               replace BK334 := wb BK334 hb
               replace BK357 := wb BK357 hb
               replace BK367 := wb BK367 hb
               replace BK380 := wb BK380 hb
               replace BK423 := wb BK423 hb
               replace HB := wh hb
               (try clear hb)
               (try clear hb2)
               (try clear hk)
               (try clear hi)
               (try clear ho0)
               (try clear ho1)
               (try clear ho2)
               refine hK.out _ _ ⟨bc BK333 0, bc BK333 1, bc BK333 2, bc BK334 0, bc BK334 1⟩ (fun hHeld => ?_)
               clear hK K
               refine nm 84 ?_
               refine pu 5 79 #[T_,T_,T_,T_,T_,T_,F_,F_,T_,F_,F_] ?_
               refine pu 6 85 #[T_,T_,T_,T_,T_,T_,T_,F_,T_,F_,F_] ?_
               refine pu 7 86 (tf 9 2) ?_
               exact norm_ (by simp only [putAll, Act.put, List.setIfInBounds_toArray, List.set_cons_zero, List.set_cons_succ]) (hCont (.slice Ao109 t402.length co109, .slice Ao110 t405.length co110, .slice Ao111 t408.length co111, v414, v417, v420, gb423) _ ⟨hHeld, (by exact up (Kd.R_mono HO349.out (fun _ hk => by first | exact ⟨hk.1.1.1.1.1, ⟨hk.1.1.1.1.2.1, ⟨hk.1.1.1.1.2.2, ⟨hk.1.1.1.2, ⟨hk.1.1.2, ⟨hk.1.2, hk.2⟩⟩⟩⟩⟩⟩ | (revert hk; simp only [and_imp]; intros; (repeat' (refine And.intro ?_ ?_)) <;> assumption)))), (by exact up (Kd.R_mono HO352.out (fun _ hk => by first | exact ⟨hk.1.1.1.1.1, ⟨hk.1.1.1.1.2.1, ⟨hk.1.1.1.1.2.2, ⟨hk.1.1.1.2, ⟨hk.1.1.2, ⟨hk.1.2, hk.2⟩⟩⟩⟩⟩⟩ | (revert hk; simp only [and_imp]; intros; (repeat' (refine And.intro ?_ ?_)) <;> assumption)))), (by exact up (Kd.R_mono HO355.out (fun _ hk => by first | exact ⟨hk.1.1, ⟨hk.1.2, hk.2⟩⟩ | (revert hk; simp only [and_imp]; intros; (repeat' (refine And.intro ?_ ?_)) <;> assumption)))), (by exact up (Kd.R_mono HO372.out (fun _ hk => by first | exact ⟨hk.1.1.1.1.1, ⟨hk.1.1.1.1.2.1, ⟨hk.1.1.1.1.2.2, ⟨hk.1.1.1.2, ⟨hk.1.1.2, ⟨hk.1.2, hk.2⟩⟩⟩⟩⟩⟩ | (revert hk; simp only [and_imp]; intros; (repeat' (refine And.intro ?_ ?_)) <;> assumption)))), (by exact up (Kd.R_mono HO375.out (fun _ hk => by first | exact ⟨hk.1.1.1.1.1, ⟨hk.1.1.1.1.2.1, ⟨hk.1.1.1.1.2.2, ⟨hk.1.1.1.2, ⟨hk.1.1.2, ⟨hk.1.2, hk.2⟩⟩⟩⟩⟩⟩ | (revert hk; simp only [and_imp]; intros; (repeat' (refine And.intro ?_ ?_)) <;> assumption)))), (by exact up (Kd.R_mono HO378.out (fun _ hk => by first | exact ⟨hk.1.1, ⟨hk.1.2, hk.2⟩⟩ | (revert hk; simp only [and_imp]; intros; (repeat' (refine And.intro ?_ ?_)) <;> assumption)))), (by exact up (Kd.R_mono HO404.out (fun _ hk => by first | exact ⟨hk.1.1.1.1.1.2, ⟨hk.1.1.1.1.2, ⟨hk.1.1.1.2, ⟨hk.1.1.2, ⟨hk.1.1.1.1.1.1, ⟨hk.1.2, hk.2⟩⟩⟩⟩⟩⟩ | (revert hk; simp only [and_imp]; intros; (repeat' (refine And.intro ?_ ?_)) <;> assumption)))), (by exact up (Kd.R_mono HO407.out (fun _ hk => by first | exact ⟨hk.1.1.1.1.1.2, ⟨hk.1.1.1.1.2, ⟨hk.1.1.1.2, ⟨hk.1.1.2, ⟨hk.1.1.1.1.1.1, ⟨hk.1.2, hk.2⟩⟩⟩⟩⟩⟩ | (revert hk; simp only [and_imp]; intros; (repeat' (refine And.intro ?_ ?_)) <;> assumption)))), (by exact up (Kd.R_mono HO410.out (fun _ hk => by first | exact ⟨hk.1.1.2, ⟨hk.1.2, hk.2⟩⟩ | (revert hk; simp only [and_imp]; intros; (repeat' (refine And.intro ?_ ?_)) <;> assumption)))), (by exact up (Kd.R_mono HO415.out (fun _ hk => by first | exact ⟨hk.1.1.1.1.1.2, ⟨hk.1.1.1.1.2, ⟨hk.1.1.1.2, ⟨hk.1.1.2, ⟨hk.1.2, ⟨hk.2, hk.1.1.1.1.1.1⟩⟩⟩⟩⟩⟩ | (revert hk; simp only [and_imp]; intros; (repeat' (refine And.intro ?_ ?_)) <;> assumption)))), (by exact up (Kd.R_mono HO418.out (fun _ hk => by first | exact ⟨hk.1.1.1.1.1.2, ⟨hk.1.1.1.1.2, ⟨hk.1.1.1.2, ⟨hk.1.1.2, ⟨hk.1.2, ⟨hk.2, hk.1.1.1.1.1.1⟩⟩⟩⟩⟩⟩ | (revert hk; simp only [and_imp]; intros; (repeat' (refine And.intro ?_ ?_)) <;> assumption)))), (by exact up (Kd.R_mono HO421.out (fun _ hk => by first | exact ⟨hk.1.1.2, ⟨hk.1.2, hk.2⟩⟩ | (revert hk; simp only [and_imp]; intros; (repeat' (refine And.intro ?_ ?_)) <;> assumption)))), (ub BK333.out), (ub BK334.out), (ub BK357.out), (ub BK367.out), (ub BK380.out), (ub BK423.out), GW423.out, GE423.out, NB333_423.out, NB423_333.out, NB334_423.out, NB423_334.out, NB357_423.out, NB423_357.out, NB367_423.out, NB423_367.out, NB380_423.out, NB423_380.out, bl⟩)
             rintro ⟨v403, v406, v409, v414, v417, v420, gb423⟩ w113 ⟨hS_, h0_, h1_, h2_, h3_, h4_, h5_, h6_, h7_, h8_, h9_, h10_, h11_, h12_, h13_, h14_, h15_, h16_, h17_, h18_, h19_, h20_, h21_, h22_, h23_, h24_, h25_, h26_, h27_, h28_, h29_, h30_⟩
             have n0_ : Aside0 (Kd.R (Kd.int .i64) 3 w113 w.heap.size (fun k_ => some k_ ≠ (.slice Ao55 t350.length co55 : Value).ownBlock ∧ some k_ ≠ (.slice Ao76 t370.length co76 : Value).ownBlock ∧ some k_ ≠ (.slice Ao78 t373.length co78 : Value).ownBlock ∧ some k_ ≠ (v403 : Value).ownBlock ∧ some k_ ≠ (v406 : Value).ownBlock ∧ some k_ ≠ (v414 : Value).ownBlock ∧ some k_ ≠ (v417 : Value).ownBlock) (.slice Ao53 t347.length co53) t347) := ⟨h0_⟩
             have n1_ : Aside0 (Kd.R (Kd.int .i64) 3 w113 w.heap.size (fun k_ => some k_ ≠ (.slice Ao53 t347.length co53 : Value).ownBlock ∧ some k_ ≠ (.slice Ao76 t370.length co76 : Value).ownBlock ∧ some k_ ≠ (.slice Ao78 t373.length co78 : Value).ownBlock ∧ some k_ ≠ (v403 : Value).ownBlock ∧ some k_ ≠ (v406 : Value).ownBlock ∧ some k_ ≠ (v414 : Value).ownBlock ∧ some k_ ≠ (v417 : Value).ownBlock) (.slice Ao55 t350.length co55) t350) := ⟨h1_⟩
             have n2_ : Aside0 (Kd.R k35 35 w113 w.heap.size (fun k_ => some k_ ≠ (.slice Ao80 t376.length co80 : Value).ownBlock ∧ some k_ ≠ (v409 : Value).ownBlock ∧ some k_ ≠ (v420 : Value).ownBlock) (.slice Ao57 t353.length co57) t353) := ⟨h2_⟩
             have n3_ : Aside0 (Kd.R (Kd.int .i64) 3 w113 w.heap.size (fun k_ => some k_ ≠ (.slice Ao53 t347.length co53 : Value).ownBlock ∧ some k_ ≠ (.slice Ao55 t350.length co55 : Value).ownBlock ∧ some k_ ≠ (.slice Ao78 t373.length co78 : Value).ownBlock ∧ some k_ ≠ (v403 : Value).ownBlock ∧ some k_ ≠ (v406 : Value).ownBlock ∧ some k_ ≠ (v414 : Value).ownBlock ∧ some k_ ≠ (v417 : Value).ownBlock) (.slice Ao76 t370.length co76) t398) := ⟨h3_⟩
             have n4_ : Aside0 (Kd.R (Kd.int .i64) 3 w113 w.heap.size (fun k_ => some k_ ≠ (.slice Ao53 t347.length co53 : Value).ownBlock ∧ some k_ ≠ (.slice Ao55 t350.length co55 : Value).ownBlock ∧ some k_ ≠ (.slice Ao76 t370.length co76 : Value).ownBlock ∧ some k_ ≠ (v403 : Value).ownBlock ∧ some k_ ≠ (v406 : Value).ownBlock ∧ some k_ ≠ (v414 : Value).ownBlock ∧ some k_ ≠ (v417 : Value).ownBlock) (.slice Ao78 t373.length co78) t399) := ⟨h4_⟩
             have n5_ : Aside0 (Kd.R k35 35 w113 w.heap.size (fun k_ => some k_ ≠ (.slice Ao57 t353.length co57 : Value).ownBlock ∧ some k_ ≠ (v409 : Value).ownBlock ∧ some k_ ≠ (v420 : Value).ownBlock) (.slice Ao80 t376.length co80) t400) := ⟨h5_⟩
             have n6_ : Aside0 (Kd.R (Kd.int .i64) 3 w113 w.heap.size (fun k_ => some k_ ≠ (.slice Ao53 t347.length co53 : Value).ownBlock ∧ some k_ ≠ (.slice Ao55 t350.length co55 : Value).ownBlock ∧ some k_ ≠ (.slice Ao76 t370.length co76 : Value).ownBlock ∧ some k_ ≠ (.slice Ao78 t373.length co78 : Value).ownBlock ∧ some k_ ≠ (v406 : Value).ownBlock ∧ some k_ ≠ (v414 : Value).ownBlock ∧ some k_ ≠ (v417 : Value).ownBlock) v403 t402) := ⟨h6_⟩
             have n7_ : Aside0 (Kd.R (Kd.int .i64) 3 w113 w.heap.size (fun k_ => some k_ ≠ (.slice Ao53 t347.length co53 : Value).ownBlock ∧ some k_ ≠ (.slice Ao55 t350.length co55 : Value).ownBlock ∧ some k_ ≠ (.slice Ao76 t370.length co76 : Value).ownBlock ∧ some k_ ≠ (.slice Ao78 t373.length co78 : Value).ownBlock ∧ some k_ ≠ (v403 : Value).ownBlock ∧ some k_ ≠ (v414 : Value).ownBlock ∧ some k_ ≠ (v417 : Value).ownBlock) v406 t405) := ⟨h7_⟩
             have n8_ : Aside0 (Kd.R k35 35 w113 w.heap.size (fun k_ => some k_ ≠ (.slice Ao57 t353.length co57 : Value).ownBlock ∧ some k_ ≠ (.slice Ao80 t376.length co80 : Value).ownBlock ∧ some k_ ≠ (v420 : Value).ownBlock) v409 t408) := ⟨h8_⟩
             have n9_ : Aside0 (Kd.R (Kd.int .i64) 3 w113 w.heap.size (fun k_ => some k_ ≠ (.slice Ao53 t347.length co53 : Value).ownBlock ∧ some k_ ≠ (.slice Ao55 t350.length co55 : Value).ownBlock ∧ some k_ ≠ (.slice Ao76 t370.length co76 : Value).ownBlock ∧ some k_ ≠ (.slice Ao78 t373.length co78 : Value).ownBlock ∧ some k_ ≠ (v403 : Value).ownBlock ∧ some k_ ≠ (v406 : Value).ownBlock ∧ some k_ ≠ (v417 : Value).ownBlock) v414 t413) := ⟨h9_⟩
             have n10_ : Aside0 (Kd.R (Kd.int .i64) 3 w113 w.heap.size (fun k_ => some k_ ≠ (.slice Ao53 t347.length co53 : Value).ownBlock ∧ some k_ ≠ (.slice Ao55 t350.length co55 : Value).ownBlock ∧ some k_ ≠ (.slice Ao76 t370.length co76 : Value).ownBlock ∧ some k_ ≠ (.slice Ao78 t373.length co78 : Value).ownBlock ∧ some k_ ≠ (v403 : Value).ownBlock ∧ some k_ ≠ (v406 : Value).ownBlock ∧ some k_ ≠ (v414 : Value).ownBlock) v417 t416) := ⟨h10_⟩
             have n11_ : Aside0 (Kd.R k35 35 w113 w.heap.size (fun k_ => some k_ ≠ (.slice Ao57 t353.length co57 : Value).ownBlock ∧ some k_ ≠ (.slice Ao80 t376.length co80 : Value).ownBlock ∧ some k_ ≠ (v409 : Value).ownBlock) v420 t419) := ⟨h11_⟩
             have n12_ : Aside0 (w113.heap[gb333]? = some (.cells #[.slice A0_0 l0_0.length c0_0, .slice A0_1 l0_1.length c0_1, .slice A0_2 l0_2.length c0_2] 25 (0, 0))) := ⟨h12_⟩
             have n13_ : Aside0 (w113.heap[gb334]? = some (.cells #[.int .i64 a1_0, .int .i64 a1_1] 27 (0, 0))) := ⟨h13_⟩
             have n14_ : Aside0 (w113.heap[gb357]? = some (.cells #[.slice Ao53 t347.length co53, .slice Ao55 t350.length co55, .slice Ao57 t353.length co57] 31 (0, 0))) := ⟨h14_⟩
             have n15_ : Aside0 (w113.heap[gb367]? = some (.cells #[.slice Ao63 t358.length co63, .slice Ao68 t361.length co68, .slice Ao69 t364.length co69] 31 (0, 0))) := ⟨h15_⟩
             have n16_ : Aside0 (w113.heap[gb380]? = some (.cells #[.slice Ao76 t370.length co76, .slice Ao78 t373.length co78, .slice Ao80 t376.length co80] 31 (0, 0))) := ⟨h16_⟩
             have n17_ : Aside0 (w113.heap[gb423]? = some (.cells #[.slice none 0 0, .slice none 0 0, .slice none 0 0] 31 (0, 0))) := ⟨h17_⟩
             have n18_ : Aside0 (w.heap.size ≤ gb423) := ⟨h18_⟩
             have n19_ : Aside0 (w.heap.size ≤ gb423) := ⟨h19_⟩
             have n20_ : Aside0 (gb333 ≠ gb423) := ⟨h20_⟩
             have n21_ : Aside0 (gb423 ≠ gb333) := ⟨h21_⟩
             have n22_ : Aside0 (gb334 ≠ gb423) := ⟨h22_⟩
             have n23_ : Aside0 (gb423 ≠ gb334) := ⟨h23_⟩
             have n24_ : Aside0 (gb357 ≠ gb423) := ⟨h24_⟩
             have n25_ : Aside0 (gb423 ≠ gb357) := ⟨h25_⟩
             have n26_ : Aside0 (gb367 ≠ gb423) := ⟨h26_⟩
             have n27_ : Aside0 (gb423 ≠ gb367) := ⟨h27_⟩
             have n28_ : Aside0 (gb380 ≠ gb423) := ⟨h28_⟩
             have n29_ : Aside0 (gb423 ≠ gb380) := ⟨h29_⟩
             have n30_ : Aside0 (Below w.heap.size w w113) := ⟨h30_⟩
             clear HO349
             clear HO352
             clear HO355
             clear HO372
             clear HO375
             clear HO378
             clear BK333
             clear BK334
             clear BK357
             clear BK367
             clear BK380
             clear HB
             clear h0_ h1_ h2_ h3_ h4_ h5_ h6_ h7_ h8_ h9_ h10_ h11_ h12_ h13_ h14_ h15_ h16_ h17_ h18_ h19_ h20_ h21_ h22_ h23_ h24_ h25_ h26_ h27_ h28_ h29_ h30_
             have HO349 := n0_
             have HO352 := n1_
             have HO355 := n2_
             have HO372 := n3_
             have HO375 := n4_
             have HO378 := n5_
             have HO404 := n6_
             have HO407 := n7_
             have HO410 := n8_
             have HO415 := n9_
             have HO418 := n10_
             have HO421 := n11_
             have BK333 := n12_
             have BK334 := n13_
             have BK357 := n14_
             have BK367 := n15_
             have BK380 := n16_
             have BK423 := n17_
             have GW423 := n18_
             have GE423 := n19_
             have NB333_423 := n20_
             have NB423_333 := n21_
             have NB334_423 := n22_
             have NB423_334 := n23_
             have NB357_423 := n24_
             have NB423_357 := n25_
             have NB367_423 := n26_
             have NB423_367 := n27_
             have NB380_423 := n28_
             have NB423_380 := n29_
             have HB := n30_
             clear n0_ n1_ n2_ n3_ n4_ n5_ n6_ n7_ n8_ n9_ n10_ n11_ n12_ n13_ n14_ n15_ n16_ n17_ n18_ n19_ n20_ n21_ n22_ n23_ n24_ n25_ n26_ n27_ n28_ n29_ n30_
             have hHeld : w113.cell? ⟨gb333, 0, none⟩ = some (.slice A0_0 l0_0.length c0_0) ∧ w113.cell? ⟨gb333, 1, none⟩ = some (.slice A0_1 l0_1.length c0_1) ∧ w113.cell? ⟨gb333, 2, none⟩ = some (.slice A0_2 l0_2.length c0_2) ∧ w113.cell? ⟨gb334, 0, none⟩ = some (.int .i64 a1_0) ∧ w113.cell? ⟨gb334, 1, none⟩ = some (.int .i64 a1_1) := hS_
             obtain ⟨Ao114, co114, eo114⟩ := Kd.R_slice HO415.out
             (first | subst eo114 | (injection eo114 with f1_ f2_ f3_; have f4_ := f1_.symm; have f5_ := f3_.symm; clear f1_ f2_ f3_; subst f4_; subst f5_))
             obtain ⟨Ao116, co116, eo116⟩ := Kd.R_slice HO418.out
             (first | subst eo116 | (injection eo116 with f1_ f2_ f3_; have f4_ := f1_.symm; have f5_ := f3_.symm; clear f1_ f2_ f3_; subst f4_; subst f5_))
             obtain ⟨Ao118, co118, eo118⟩ := Kd.R_slice HO421.out
             (first | subst eo118 | (injection eo118 with f1_ f2_ f3_; have f4_ := f1_.symm; have f5_ := f3_.symm; clear f1_ f2_ f3_; subst f4_; subst f5_))
             refine norm_ (a' := ?_) ?_ ?_
             rotate_left
             ·simp only [putAll, Act.put, List.setIfInBounds_toArray, List.set_cons_zero, List.set_cons_succ]
              rfl
             refine one_ (i := 9) (N := none) #[T_, T_, T_, T_, T_, T_, T_, T_, T_, T_, F_] rfl rfl (one_of HT_.out (by kernel_rfl)) (by decide) (fun K hK => ?_)
             have hs115 : w113.cell? ⟨gb423, 0, none⟩ = some (.slice none 0 0) := (blk_cell BK423.out 0).trans rfl
             have hfs115 := blk_frozen BK423.out 0
             have hns115_0 := NB333_423.out
             have hns115_1 := NB334_423.out
             have hns115_2 := NB357_423.out
             have hns115_3 := NB367_423.out
             have hns115_4 := NB380_423.out
             have hms115_0 := NB423_333.out
             have hms115_1 := NB423_334.out
             have hms115_2 := NB423_357.out
             have hms115_3 := NB423_367.out
             have hms115_4 := NB423_380.out
             have hs117 : w113.cell? ⟨gb423, 1, none⟩ = some (.slice none 0 0) := (blk_cell BK423.out 1).trans rfl
             have hfs117 := blk_frozen BK423.out 1
             have hns117_0 := NB333_423.out
             have hns117_1 := NB334_423.out
             have hns117_2 := NB357_423.out
             have hns117_3 := NB367_423.out
             have hns117_4 := NB380_423.out
             have hms117_0 := NB423_333.out
             have hms117_1 := NB423_334.out
             have hms117_2 := NB423_357.out
             have hms117_3 := NB423_367.out
             have hms117_4 := NB423_380.out
             have hs119 : w113.cell? ⟨gb423, 2, none⟩ = some (.slice none 0 0) := (blk_cell BK423.out 2).trans rfl
             have hfs119 := blk_frozen BK423.out 2
             have hns119_0 := NB333_423.out
             have hns119_1 := NB334_423.out
             have hns119_2 := NB357_423.out
             have hns119_3 := NB367_423.out
             have hns119_4 := NB380_423.out
             have hms119_0 := NB423_333.out
             have hms119_1 := NB423_334.out
             have hms119_2 := NB423_357.out
             have hms119_3 := NB423_367.out
             have hms119_4 := NB423_380.out
             refine skip_ (w1 := ?_) (by rfl) rfl ?_ ?_
             rotate_left
             ·go_simp
              rfl
             refine hK.out _ _ ⟨((cell_far (p := ⟨gb423, _, none⟩) NB333_423.out _).trans (((cell_far (p := ⟨gb423, _, none⟩) NB333_423.out _).trans (((cell_far (p := ⟨gb423, _, none⟩) NB333_423.out _).trans (hHeld.1)))))), ((cell_far (p := ⟨gb423, _, none⟩) NB333_423.out _).trans (((cell_far (p := ⟨gb423, _, none⟩) NB333_423.out _).trans (((cell_far (p := ⟨gb423, _, none⟩) NB333_423.out _).trans (hHeld.2.1)))))), ((cell_far (p := ⟨gb423, _, none⟩) NB333_423.out _).trans (((cell_far (p := ⟨gb423, _, none⟩) NB333_423.out _).trans (((cell_far (p := ⟨gb423, _, none⟩) NB333_423.out _).trans (hHeld.2.2.1)))))), ((cell_far (p := ⟨gb423, _, none⟩) NB334_423.out _).trans (((cell_far (p := ⟨gb423, _, none⟩) NB334_423.out _).trans (((cell_far (p := ⟨gb423, _, none⟩) NB334_423.out _).trans (hHeld.2.2.2.1)))))), ((cell_far (p := ⟨gb423, _, none⟩) NB334_423.out _).trans (((cell_far (p := ⟨gb423, _, none⟩) NB334_423.out _).trans (((cell_far (p := ⟨gb423, _, none⟩) NB334_423.out _).trans (hHeld.2.2.2.2))))))⟩ (fun hHeld => ?_)
             clear hK K
             refine pu 10 15 (tf 11 0) ?_
             refine done_ (done_of HT_.out (by kernel_rfl)) ?_
             have hnb120 := NB423_333.out
             have hnc120 := NB333_423.out
             have hnb121 := NB423_334.out
             have hnc121 := NB334_423.out
             have hnb122 := NB423_357.out
             have hnc122 := NB357_423.out
             have hnb123 := NB423_367.out
             have hnc123 := NB367_423.out
             have hnb124 := NB423_380.out
             have hnc124 := NB380_423.out
             obtain ⟨hcz125_0, hcz125_1, hcz125_2, hfz125_0, hfz125_1, hfz125_2⟩ := bz3 BK423
             obtain ⟨hcz126_0, hcz126_1, hcz126_2, hfz126_0, hfz126_1, hfz126_2⟩ := bz3 BK357
             try go_wp2_with (first | ((with_reducible refine gate_callee (f := 9) rfl ?_); refine gl (some 89) rfl Try.func9 #[.agg #[.slice Ao114 t413.length co114, .slice Ao116 t416.length co116, .slice Ao118 t419.length co118], .agg #[.slice Ao53 t347.length co53, .slice Ao55 t350.length co55, .slice Ao57 t353.length co57]] ?_; (with_reducible refine (laws_eqCracker.calls k _ _ t413 _ _ t416 _ _ t419 _ _ t347 _ _ t350 _ _ t353 true _ ?side1 ?side2 ?side3 ?side4 ?side5 ?side6 ?side7 ?side8 ?side9 ?side10 ?side11 ?side12 A33.out).mono ?_); (case side1 => refine (Kd.R_reads' (e := 3) (base := w.heap.size) (ok := fun k_ => (some k_ ≠ (.slice Ao53 t347.length co53 : Value).ownBlock ∧ (some k_ ≠ (.slice Ao55 t350.length co55 : Value).ownBlock ∧ (some k_ ≠ (.slice Ao76 t370.length co76 : Value).ownBlock ∧ (some k_ ≠ (.slice Ao78 t373.length co78 : Value).ownBlock ∧ (some k_ ≠ (v403 : Value).ownBlock ∧ (some k_ ≠ (v406 : Value).ownBlock ∧ some k_ ≠ (.slice Ao116 t416.length co116 : Value).ownBlock))))))) (n := t413.length) (c := co114) ?_).2.2; exact (by exact rs1 HO415 BK423)); (case side2 => exact (Kd.R_reads' HO415.out).2.1); (case side3 => refine (Kd.R_reads' (e := 3) (base := w.heap.size) (ok := fun k_ => (some k_ ≠ (.slice Ao53 t347.length co53 : Value).ownBlock ∧ (some k_ ≠ (.slice Ao55 t350.length co55 : Value).ownBlock ∧ (some k_ ≠ (.slice Ao76 t370.length co76 : Value).ownBlock ∧ (some k_ ≠ (.slice Ao78 t373.length co78 : Value).ownBlock ∧ (some k_ ≠ (v403 : Value).ownBlock ∧ (some k_ ≠ (v406 : Value).ownBlock ∧ some k_ ≠ (.slice Ao114 t413.length co114 : Value).ownBlock))))))) (n := t416.length) (c := co116) ?_).2.2; exact (by exact rs1 HO418 BK423)); (case side4 => exact (Kd.R_reads' HO418.out).2.1); (case side5 => refine (Kd.R_reads' (e := 35) (base := w.heap.size) (ok := fun k_ => (some k_ ≠ (.slice Ao57 t353.length co57 : Value).ownBlock ∧ (some k_ ≠ (.slice Ao80 t376.length co80 : Value).ownBlock ∧ some k_ ≠ (v409 : Value).ownBlock))) (n := t419.length) (c := co118) ?_).2.2; exact (by exact rs1 HO421 BK423)); (case side6 => exact (Kd.R_reads' HO421.out).2.1); (case side7 => refine (Kd.R_reads' (e := 3) (base := w.heap.size) (ok := fun k_ => (some k_ ≠ (.slice Ao55 t350.length co55 : Value).ownBlock ∧ (some k_ ≠ (.slice Ao76 t370.length co76 : Value).ownBlock ∧ (some k_ ≠ (.slice Ao78 t373.length co78 : Value).ownBlock ∧ (some k_ ≠ (v403 : Value).ownBlock ∧ (some k_ ≠ (v406 : Value).ownBlock ∧ (some k_ ≠ (.slice Ao114 t413.length co114 : Value).ownBlock ∧ some k_ ≠ (.slice Ao116 t416.length co116 : Value).ownBlock))))))) (n := t347.length) (c := co53) ?_).2.2; exact (by exact rs1 HO349 BK423)); (case side8 => exact (Kd.R_reads' HO349.out).2.1); (case side9 => refine (Kd.R_reads' (e := 3) (base := w.heap.size) (ok := fun k_ => (some k_ ≠ (.slice Ao53 t347.length co53 : Value).ownBlock ∧ (some k_ ≠ (.slice Ao76 t370.length co76 : Value).ownBlock ∧ (some k_ ≠ (.slice Ao78 t373.length co78 : Value).ownBlock ∧ (some k_ ≠ (v403 : Value).ownBlock ∧ (some k_ ≠ (v406 : Value).ownBlock ∧ (some k_ ≠ (.slice Ao114 t413.length co114 : Value).ownBlock ∧ some k_ ≠ (.slice Ao116 t416.length co116 : Value).ownBlock))))))) (n := t350.length) (c := co55) ?_).2.2; exact (by exact rs1 HO352 BK423)); (case side10 => exact (Kd.R_reads' HO352.out).2.1); (case side11 => refine (Kd.R_reads' (e := 35) (base := w.heap.size) (ok := fun k_ => (some k_ ≠ (.slice Ao80 t376.length co80 : Value).ownBlock ∧ (some k_ ≠ (v409 : Value).ownBlock ∧ some k_ ≠ (.slice Ao118 t419.length co118 : Value).ownBlock))) (n := t353.length) (c := co57) ?_).2.2; exact (by exact rs1 HO355 BK423)); (case side12 => exact (Kd.R_reads' HO355.out).2.1); rintro e w127 ⟨rfl, hb⟩; refine ⟨_, rfl, ?_⟩; replace HO349 := mk (Kd.R_below (by exact rs1 HO349 BK423) hb); replace HO352 := mk (Kd.R_below (by exact rs1 HO352 BK423) hb); replace HO355 := mk (Kd.R_below (by exact rs1 HO355 BK423) hb); replace HO372 := mk (Kd.R_below (by exact rs1 HO372 BK423) hb); replace HO375 := mk (Kd.R_below (by exact rs1 HO375 BK423) hb); replace HO378 := mk (Kd.R_below (by exact rs1 HO378 BK423) hb); replace HO404 := mk (Kd.R_below (by exact rs1 HO404 BK423) hb); replace HO407 := mk (Kd.R_below (by exact rs1 HO407 BK423) hb); replace HO410 := mk (Kd.R_below (by exact rs1 HO410 BK423) hb); replace HO415 := mk (Kd.R_below (by exact rs1 HO415 BK423) hb); replace HO418 := mk (Kd.R_below (by exact rs1 HO418 BK423) hb); replace HO421 := mk (Kd.R_below (by exact rs1 HO421 BK423) hb); replace BK333 := wx BK333 hb; replace BK334 := wx BK334 hb; replace BK357 := wx BK357 hb; replace BK367 := wx BK367 hb; replace BK380 := wx BK380 hb; replace BK423 := mk (blk_below (g := gb423) (o := .cells #[.slice Ao114 t413.length co114, .slice Ao116 t416.length co116, .slice Ao118 t419.length co118] 31 (0, 0)) bq hb); replace HB := wh hb; (try clear hb); (try clear hb2); (try clear hk); (try clear hi); replace HO372 := mk (Kd.R_mono (ok' := (fun k_ => some k_ ≠ (.slice Ao78 t373.length co78 : Value).ownBlock)) HO372.out (fun k_ hk => by first | exact hk.2.2.1 | (revert hk; simp only [and_imp]; intros; (repeat' (refine And.intro ?_ ?_)) <;> assumption))); replace HO375 := mk (Kd.R_mono (ok' := (fun k_ => some k_ ≠ (.slice Ao76 t370.length co76 : Value).ownBlock)) HO375.out (fun k_ hk => by first | exact hk.2.2.1 | (revert hk; simp only [and_imp]; intros; (repeat' (refine And.intro ?_ ?_)) <;> assumption))); replace HO378 := mk (Kd.R_mono (ok' := (fun _ => True)) HO378.out (fun k_ hk => trivial)); clear HO349; clear HO352; clear HO355; clear HO404; clear HO407; clear HO410; clear HO415; clear HO418; clear HO421; obtain ⟨hcz128_0, hcz128_1, hcz128_2, hfz128_0, hfz128_1, hfz128_2⟩ := bz3 BK380) | ((with_reducible refine gate_callee (f := 11) rfl ?_); refine goesL_ (some 98) rfl rfl Try.func11 (by kernel_rfl) rfl #[.agg #[.slice Ao76 t398.length co76, .slice Ao78 t399.length co78, .slice Ao80 t400.length co80], .int .i64 1] rfl (by (try simp only [List.map_toArray, List.map_cons, List.map_nil]); first | done | (rw [show t398.length = t370.length from (Kd.R_reads' HO372.out).1.symm, show t399.length = t373.length from (Kd.R_reads' HO375.out).1.symm, show t400.length = t376.length from (Kd.R_reads' HO378.out).1.symm] <;> rfl) | rfl | (simp only [List.length_drop, List.length_take]; rfl)) ?_; (with_reducible refine (laws_heldCracker.calls k _ _ t398 _ _ t399 _ _ t400 1 t425 _ ?side1 ?side2 ?side3 ?side4 ?side5 ?side6 A36.out).mono ?_); (case side1 => exact uc (Kd.R_reads' HO372.out).2.2); (case side2 => rw [show t398.length = t370.length from (Kd.R_reads' HO372.out).1.symm]; exact (Kd.R_reads' HO372.out).2.1); (case side3 => exact uc (Kd.R_reads' HO375.out).2.2); (case side4 => rw [show t399.length = t373.length from (Kd.R_reads' HO375.out).1.symm]; exact (Kd.R_reads' HO375.out).2.1); (case side5 => exact uc (Kd.R_reads' HO378.out).2.2); (case side6 => rw [show t400.length = t376.length from (Kd.R_reads' HO378.out).1.symm]; exact (Kd.R_reads' HO378.out).2.1); rintro e w129 ⟨rfl, hb⟩; refine ⟨_, rfl, ?_⟩; replace HO372 := mk (Kd.R_below (up HO372.out) hb); replace HO375 := mk (Kd.R_below (up HO375.out) hb); replace HO378 := mk (Kd.R_below (up HO378.out) hb); replace BK333 := wb BK333 hb; replace BK334 := wb BK334 hb; replace BK357 := wb BK357 hb; replace BK367 := wb BK367 hb; replace BK380 := wb BK380 hb; replace BK423 := wb BK423 hb; replace HB := wh hb; (try clear hb); (try clear hb2); (try clear hk); (try clear hi)))
             go_ret
             exact ⟨by first | rfl | (simp [errW_none, errW_some] <;> rfl) | (simp [*, errW_none, errW_some] <;> rfl), bl⟩
            ·rw [if_neg c38] at H
             exact absurd H (by simp)
         ·replace c34 := Bool.eq_false_iff.mpr c34
          subst c34
          rw [if_neg nf] at H
          exact absurd H (by simp)
        ·rw [if_neg c29] at H
         exact absurd H (by simp)
      ·replace c25 := Bool.eq_false_iff.mpr c25
       subst c25
       rw [if_neg nf] at H
       exact absurd H (by simp)
    ·replace c21 := Bool.eq_false_iff.mpr c21
     subst c21
     rw [if_neg nf] at H
     exact absurd H (by simp)
  ·replace c17 := Bool.eq_false_iff.mpr c17
   subst c17
   rw [if_neg nf] at H
   exact absurd H (by simp)

end Go.Proofs.Ytmliclopdbkbeaa.PFnExactAddPivot
