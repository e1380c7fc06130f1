-- printed by a program of this session, a turned copy of the print of the kit
import Derived.Test.YtlikcmonejefoabSq
import Derived.Test.YtlikcmonejefoabPFnExactRippleInsertx0
import Derived.Test.YtlikcmonejefoabPFnExactRippleInsertx1
import Derived.Test.YtlikcmonejefoabPFnExactRippleInsertx2
import Derived.Test.YtlikcmonejefoabPFnExactRippleInsertx3
import Derived.Test.YtlikcmonejefoabPFnExactRippleInsertx7
import Derived.Test.YtlikcmonejefoabPFnExactRippleInsertx8
import Derived.Test.YtlikcmonejefoabPFnExactRippleInsertx11
namespace Go.Proofs.Ytlikcmonejefoab.PFnExactRippleInsert
open Go.RowKit Go.Proofs.YtlikcmonejefoabW.PrintWords Go.Proofs.YtlikcmonejefoabW.PrintLast Go.Proofs.YtlikcmonejefoabW.PrintMore Go.Proofs.Ytlikcmonejefoab.Sq
attribute [local go_sem] max2_int min2_int max_two min_two max_three min_three max_four min_four Giv.cell_twice   -- for this text's walks alone
set_option linter.unusedVariables false
set_option linter.unusedSimpArgs false

/-! ### laws_FnExactRippleInsert: function 4 -/
def laws_FnExactRippleInsert.f (k : Nat) (l0_0 : List Int) (l0_1 : List Int) (l0_2 : List (S76)) (a1_0 : Int) (a1_1 : Int) : Option (Bool) := (laws_szCracker.f l0_0 l0_1 l0_2 1048576).bind fun t322 => (if t322 < 0 then (some true) else ((laws_toCracker.f k l0_0 l0_1 l0_2).bind fun bt323 => ((laws_toItem.f a1_0 a1_1).bind fun bt332 => ((spec_RippleInsert.f k bt323.1 bt323.2.1 bt323.2.2 bt332.1 bt332.2).bind fun bt334 => ((laws_toCracker.f k l0_0 l0_1 l0_2).bind fun bt346 => ((laws_toItem.f a1_0 a1_1).bind fun bt356 => ((impl_RippleInsert.f k bt346.1 bt346.2.1 bt346.2.2 bt356.1 bt356.2).bind fun bt358 => ((laws_eqCracker.f k bt358.1 bt358.2.1 bt358.2.2.1 bt334.1 bt334.2.1 bt334.2.2.1).bind fun t370 => (if t370 = true then (if bt358.2.2.2.1 = bt334.2.2.2.1 then (if (bt358.2.2.2.2 != bt334.2.2.2.2) = true then (none) else ((laws_toCracker.f k l0_0 l0_1 l0_2).bind fun bt371 => ((laws_eqCracker.f k bt346.1 bt346.2.1 bt346.2.2 bt371.1 bt371.2.1 bt371.2.2).bind fun t380 => (if t380 = true then ((laws_markCracker.f k bt346.1 bt346.2.1 bt346.2.2 1).bind fun bt381 => (if bt381.1 < 0 then (none) else ((laws_eqCracker.f k bt358.1 bt358.2.1 bt358.2.2.1 bt334.1 bt334.2.1 bt334.2.2.1).bind fun t385 => (if t385 = true then ((laws_markCracker.f k bt358.1 bt358.2.1 bt358.2.2.1 1).bind fun bt386 => ((laws_heldCracker.f k bt386.2.1 bt386.2.2.1 bt386.2.2.2 1).bind fun t390 => (if t390 < 0 then (none) else (if t390 = bt386.1 then ((laws_toCracker.f k l0_0 l0_1 l0_2).bind fun bt391 => ((laws_toItem.f a1_0 a1_1).bind fun bt400 => ((impl_RippleInsert.f k bt391.1 bt391.2.1 bt391.2.2 bt400.1 bt400.2).bind fun bt402 => ((laws_eqCracker.f k bt402.1 bt402.2.1 bt402.2.2.1 bt334.1 bt334.2.1 bt334.2.2.1).bind fun t414 => (if t414 = true then (if bt402.2.2.2.1 = bt334.2.2.2.1 then (if (bt402.2.2.2.2 != bt334.2.2.2.2) = true then (none) else ((laws_heldCracker.f k bt386.2.1 bt386.2.2.1 bt386.2.2.2 1).bind fun t415 => (if t415 < 0 then (none) else (if t415 = bt386.1 then (some true) else (none))))) else (none)) else (none)))))) else (none))))) else (none))))) else (none))))) else (none)) else (none))))))))))
theorem laws_FnExactRippleInsert.mono : ∀ a0 a1 a2 a3 a4 k, LeO (laws_FnExactRippleInsert.f k a0 a1 a2 a3 a4) (laws_FnExactRippleInsert.f (k + 1) a0 a1 a2 a3 a4) := by
 intro a0 a1 a2 a3 a4 k
 unfold laws_FnExactRippleInsert.f
 exact mo
instance laws_FnExactRippleInsert.mi (a0 a1 a2 a3 a4 k) : LeC (laws_FnExactRippleInsert.f k a0 a1 a2 a3 a4) (laws_FnExactRippleInsert.f (k + 1) a0 a1 a2 a3 a4) := ⟨laws_FnExactRippleInsert.mono a0 a1 a2 a3 a4 k⟩
def laws_FnExactRippleInsert.T5 : Bool × List (List Nat × List Nat) := (true, [([], []), ([0], [0]), ([], []), ([2, 1], [2]), ([1, 3, 3], [1, 3]), ([4], [4]), ([5], [5]), ([5], [5]), ([5], [5]), ([], []), ([9, 6, 4, 0, 1, 2, 3, 4, 5, 6, 9], [6, 9]), ([7, 10, 0, 1, 2, 3, 4, 5, 6, 7, 9, 10], [7]), ([8, 11, 0, 1, 2, 3, 4, 5, 6, 7, 8, 9, 10, 11], [8])])
def laws_FnExactRippleInsert.B5 : List Nat := [0, 1, 0, 7, 15, 31, 63, 63, 63, 0, 639, 1791, 4095]
theorem laws_FnExactRippleInsert.tab5 : rtab .any (opsOf Try.f4 5) = laws_FnExactRippleInsert.T5 := by kernel_rfl
theorem laws_FnExactRippleInsert.bits5 : waitsOk laws_FnExactRippleInsert.T5.2 laws_FnExactRippleInsert.B5 = true := by kernel_rfl
def laws_FnExactRippleInsert.T7 : Bool × List (List Nat × List Nat) := (true, [([], []), ([], []), ([1], [1]), ([0, 2, 2], [0, 2]), ([3], [3]), ([4], [4]), ([4], [4]), ([4], [4]), ([], []), ([8, 5, 3, 0, 1, 2, 3, 4, 5, 8], [5, 8]), ([6, 9, 0, 1, 2, 3, 4, 5, 6, 8, 9], [6]), ([7, 10, 0, 1, 2, 3, 4, 5, 6, 7, 8, 9, 10], [7])])
def laws_FnExactRippleInsert.B7 : List Nat := [0, 0, 2, 7, 15, 31, 31, 31, 0, 319, 895, 2047]
theorem laws_FnExactRippleInsert.tab7 : rtab .any (opsOf Try.f4 7) = laws_FnExactRippleInsert.T7 := by kernel_rfl
theorem laws_FnExactRippleInsert.bits7 : waitsOk laws_FnExactRippleInsert.T7.2 laws_FnExactRippleInsert.B7 = true := by kernel_rfl
def laws_FnExactRippleInsert.T24 : Bool × List (List Nat × List Nat) := (true, [([], []), ([0], [0]), ([], []), ([2, 1], [2]), ([1, 3, 3], [1, 3]), ([4], [4]), ([5], [5]), ([5], [5]), ([5], [5]), ([], []), ([9, 6, 4, 0, 1, 2, 3, 4, 5, 6, 9], [6, 9]), ([7, 10, 0, 1, 2, 3, 4, 5, 6, 7, 9, 10], [7]), ([8, 11, 0, 1, 2, 3, 4, 5, 6, 7, 8, 9, 10, 11], [8])])
def laws_FnExactRippleInsert.B24 : List Nat := [0, 1, 0, 7, 15, 31, 63, 63, 63, 0, 639, 1791, 4095]
theorem laws_FnExactRippleInsert.tab24 : rtab .any (opsOf Try.f4 24) = laws_FnExactRippleInsert.T24 := by kernel_rfl
theorem laws_FnExactRippleInsert.bits24 : waitsOk laws_FnExactRippleInsert.T24.2 laws_FnExactRippleInsert.B24 = true := by kernel_rfl
set_option maxHeartbeats 8000000 in
set_option maxRecDepth 100000 in
theorem laws_FnExactRippleInsert.calls (k : Nat) (A0_0 : Option Addr) (c0_0 : Nat) (l0_0 : List Int) (A0_1 : Option Addr) (c0_1 : Nat) (l0_1 : List Int) (A0_2 : Option Addr) (c0_2 : Nat) (l0_2 : List (S76)) (a1_0 : Int) (a1_1 : Int) (r : Bool) (w : World) (hr0_0 : Kd.C (Kd.int .i64) w A0_0 l0_0.length l0_0) (hc0_0 : l0_0.length ≤ c0_0) (hr0_1 : Kd.C (Kd.int .i64) w A0_1 l0_1.length l0_1) (hc0_1 : l0_1.length ≤ c0_1) (hr0_2 : Kd.C k76 w A0_2 l0_2.length l0_2) (hc0_2 : l0_2.length ≤ c0_2) (HRT : Aside0 (r = true)) (h : laws_FnExactRippleInsert.f k l0_0 l0_1 l0_2 a1_0 a1_1 = some r) :
  Calls Try.prog 4 #[.agg #[.slice A0_0 l0_0.length c0_0, .slice A0_1 l0_1.length c0_1, .slice A0_2 l0_2.length c0_2], .agg #[.int .i64 a1_0, .int .i64 a1_1]] w fun e w' => e = .returned (.bool r) ∧ Below w.heap.size w w' := by
 have hu25 := Try.underlying25
 have hu37 := Try.underlying37
 have hu29 := Try.underlying29
 have HR0_0 := Aside0.mk hr0_0
 have HC0_0 := Aside0.mk hc0_0
 clear hr0_0 hc0_0
 have HR0_1 := Aside0.mk hr0_1
 have HC0_1 := Aside0.mk hc0_1
 clear hr0_1 hc0_1
 have HR0_2 := Aside0.mk hr0_2
 have HC0_2 := Aside0.mk hc0_2
 clear hr0_2 hc0_2
 have HB := Aside0.mk (Below.refl w.heap.size w)
 have H : ((laws_szCracker.f l0_0 l0_1 l0_2 1048576).bind fun t322 => (if t322 < 0 then (some true) else ((laws_toCracker.f k l0_0 l0_1 l0_2).bind fun bt323 => ((laws_toItem.f a1_0 a1_1).bind fun bt332 => ((spec_RippleInsert.f k bt323.1 bt323.2.1 bt323.2.2 bt332.1 bt332.2).bind fun bt334 => ((laws_toCracker.f k l0_0 l0_1 l0_2).bind fun bt346 => ((laws_toItem.f a1_0 a1_1).bind fun bt356 => ((impl_RippleInsert.f k bt346.1 bt346.2.1 bt346.2.2 bt356.1 bt356.2).bind fun bt358 => ((laws_eqCracker.f k bt358.1 bt358.2.1 bt358.2.2.1 bt334.1 bt334.2.1 bt334.2.2.1).bind fun t370 => (if t370 = true then (if bt358.2.2.2.1 = bt334.2.2.2.1 then (if (bt358.2.2.2.2 != bt334.2.2.2.2) = true then (none) else ((laws_toCracker.f k l0_0 l0_1 l0_2).bind fun bt371 => ((laws_eqCracker.f k bt346.1 bt346.2.1 bt346.2.2 bt371.1 bt371.2.1 bt371.2.2).bind fun t380 => (if t380 = true then ((laws_markCracker.f k bt346.1 bt346.2.1 bt346.2.2 1).bind fun bt381 => (if bt381.1 < 0 then (none) else ((laws_eqCracker.f k bt358.1 bt358.2.1 bt358.2.2.1 bt334.1 bt334.2.1 bt334.2.2.1).bind fun t385 => (if t385 = true then ((laws_markCracker.f k bt358.1 bt358.2.1 bt358.2.2.1 1).bind fun bt386 => ((laws_heldCracker.f k bt386.2.1 bt386.2.2.1 bt386.2.2.2 1).bind fun t390 => (if t390 < 0 then (none) else (if t390 = bt386.1 then ((laws_toCracker.f k l0_0 l0_1 l0_2).bind fun bt391 => ((laws_toItem.f a1_0 a1_1).bind fun bt400 => ((impl_RippleInsert.f k bt391.1 bt391.2.1 bt391.2.2 bt400.1 bt400.2).bind fun bt402 => ((laws_eqCracker.f k bt402.1 bt402.2.1 bt402.2.2.1 bt334.1 bt334.2.1 bt334.2.2.1).bind fun t414 => (if t414 = true then (if bt402.2.2.2.1 = bt334.2.2.2.1 then (if (bt402.2.2.2.2 != bt334.2.2.2.2) = true then (none) else ((laws_heldCracker.f k bt386.2.1 bt386.2.2.1 bt386.2.2.2 1).bind fun t415 => (if t415 < 0 then (none) else (if t415 = bt386.1 then (some true) else (none))))) else (none)) else (none)))))) else (none))))) else (none))))) else (none))))) else (none)) else (none))))))))))) = some r := h
 clear h
 revert H; refine bo ?_; rintro t322 A3 H
 by_cases c4 : t322 < 0
 ·rw [if_pos c4] at H
  have c4b0 : decide (t322 < 0) = true := decide_eq_true c4
  clear c4
  obtain rfl := Option.some.inj H
  go_enter Try.func4, Try.ntmps4
  go_wp2_with (first | ((with_reducible refine gate_dst (N := 2) rfl ?_); refine bx 2 #[.slice A0_0 l0_0.length c0_0, .slice A0_1 l0_1.length c0_1, .slice A0_2 l0_2.length c0_2] 25 ?_; intro gb320 hg w5 hbox hb; have BK320 := mk hbox; have GW320 := wg hg; have GE320 := wg hg; replace HB := wh hb; clear hb hbox hg) | ((with_reducible refine gate_dst (N := 3) rfl ?_); refine bx 3 #[.int .i64 a1_0, .int .i64 a1_1] 37 ?_; intro gb321 hg w6 hbox hb; have BK321 := mk hbox; have GW321 := wg hg; have GE321 := wg hg; replace HB := wh hb; have NB320_321 := nl BK320 hg; have NB321_320 := nr BK320 hg; replace BK320 := wb BK320 hb; clear hb hbox hg; have hnb7 := NB320_321.out; have hnc7 := NB321_320.out; obtain ⟨hcz8_0, hcz8_1, hcz8_2, hfz8_0, hfz8_1, hfz8_2⟩ := bz3 BK320) | ((with_reducible refine gate_callee (f := 6) rfl ?_); refine gl (some 21) rfl Try.func6 #[.agg #[.slice A0_0 l0_0.length c0_0, .slice A0_1 l0_1.length c0_1, .slice A0_2 l0_2.length c0_2], .int .i64 1048576] ?_; (with_reducible refine (laws_szCracker.calls _ _ l0_0 _ _ l0_1 _ _ l0_2 1048576 t322 _ ?side1 ?side2 ?side3 ?side4 ?side5 ?side6 A3.out).mono ?_); (case side1 => exact uc (Kd.C_below HR0_0.out HB.out)); (case side2 => exact HC0_0.out); (case side3 => exact uc (Kd.C_below HR0_1.out HB.out)); (case side4 => exact HC0_1.out); (case side5 => exact uc (Kd.C_below HR0_2.out HB.out)); (case side6 => exact HC0_2.out); rintro e w9 ⟨rfl, hb⟩; refine ⟨_, rfl, ?_⟩; replace BK320 := wb BK320 hb; replace BK321 := wb BK321 hb; replace HB := wh hb; (try clear hb); (try clear hb2); (try clear hk); (try clear hi)))
  go_ret
  exact ⟨by first | rfl | (simp [errW_none, errW_some] <;> rfl) | (simp [*, errW_none, errW_some] <;> rfl), bl⟩
 ·rw [if_neg c4] at H
  have c4b0 : decide (t322 < 0) = false := decide_eq_false c4
  clear c4
  revert H; refine bo ?_; rintro ⟨t323, t326, t329⟩ A10 H
  dsimp only at H
  revert H; refine bo ?_; rintro ⟨t332, t333⟩ A11 H
  dsimp only at H
  revert H; refine bo ?_; rintro ⟨t334, t337, t340, t343, t344⟩ A12 H
  dsimp only at H
  revert H; refine bo ?_; rintro ⟨t346, t349, t352⟩ A13 H
  dsimp only at H
  revert H; refine bo ?_; rintro ⟨t356, t357⟩ A14 H
  dsimp only at H
  revert H; refine bo ?_; rintro ⟨t358, t361, t364, t367, t368⟩ A15 H
  dsimp only at H
  revert H; refine bo ?_; rintro t370 A16 H
  by_cases c17 : t370 = true
  ·subst c17
   rw [if_pos rfl] at H
   by_cases c18 : t367 = t343
   ·rw [if_pos c18] at H
    have c18b0 : (t367 == t343) = true := beq_iff_eq.mpr c18
    have c18b1 : (t367 != t343) = false := bne_eq_false_iff_eq.mpr c18
    clear c18
    by_cases c19 : (t368 != t344) = true
    ·rw [if_pos c19] at H
     exact absurd H (by simp)
    ·rw [if_neg c19] at H
     have c19b0 : (t368 != t344) = false := by simpa using c19
     (try (have c19b1 : decide (t368 = t344) = true := by simpa using c19))
     (try (have c19b2 : (t368 == t344) = true := by simpa using c19))
     clear c19
     revert H; refine bo ?_; rintro ⟨t371, t374, t377⟩ A20 H
     dsimp only at H
     revert H; refine bo ?_; rintro t380 A21 H
     by_cases c22 : t380 = true
     ·subst c22
      rw [if_pos rfl] at H
      revert H; refine bo ?_; rintro ⟨t381, t382, t383, t384⟩ A23 H
      dsimp only at H
      by_cases c24 : t381 < 0
      ·rw [if_pos c24] at H
       exact absurd H (by simp)
      ·rw [if_neg c24] at H
       have c24b0 : decide (t381 < 0) = false := decide_eq_false c24
       clear c24
       revert H; refine bo ?_; rintro t385 A25 H
       by_cases c26 : t385 = true
       ·subst c26
        rw [if_pos rfl] at H
        revert H; refine bo ?_; rintro ⟨t386, t387, t388, t389⟩ A27 H
        dsimp only at H
        revert H; refine bo ?_; rintro t390 A28 H
        by_cases c29 : t390 < 0
        ·rw [if_pos c29] at H
         exact absurd H (by simp)
        ·rw [if_neg c29] at H
         have c29b0 : decide (t390 < 0) = false := decide_eq_false c29
         clear c29
         by_cases c30 : t390 = t386
         ·rw [if_pos c30] at H
          have c30b0 : (t390 == t386) = true := beq_iff_eq.mpr c30
          have c30b1 : (t390 != t386) = false := bne_eq_false_iff_eq.mpr c30
          clear c30
          revert H; refine bo ?_; rintro ⟨t391, t394, t397⟩ A31 H
          dsimp only at H
          revert H; refine bo ?_; rintro ⟨t400, t401⟩ A32 H
          dsimp only at H
          revert H; refine bo ?_; rintro ⟨t402, t405, t408, t411, t412⟩ A33 H
          dsimp only at H
          revert H; refine bo ?_; rintro t414 A34 H
          by_cases c35 : t414 = true
          ·subst c35
           rw [if_pos rfl] at H
           by_cases c36 : t411 = t343
           ·rw [if_pos c36] at H
            have c36b0 : (t411 == t343) = true := beq_iff_eq.mpr c36
            have c36b1 : (t411 != t343) = false := bne_eq_false_iff_eq.mpr c36
            clear c36
            by_cases c37 : (t412 != t344) = true
            ·rw [if_pos c37] at H
             exact absurd H (by simp)
            ·rw [if_neg c37] at H
             have c37b0 : (t412 != t344) = false := by simpa using c37
             (try (have c37b1 : decide (t412 = t344) = true := by simpa using c37))
             (try (have c37b2 : (t412 == t344) = true := by simpa using c37))
             clear c37
             revert H; refine bo ?_; rintro t415 A38 H
             by_cases c39 : t415 < 0
             ·rw [if_pos c39] at H
              exact absurd H (by simp)
             ·rw [if_neg c39] at H
              have c39b0 : decide (t415 < 0) = false := decide_eq_false c39
              clear c39
              by_cases c40 : t415 = t386
              ·rw [if_pos c40] at H
               have c40b0 : (t415 == t386) = true := beq_iff_eq.mpr c40
               have c40b1 : (t415 != t386) = false := bne_eq_false_iff_eq.mpr c40
               clear c40
               obtain rfl := Option.some.inj H
               go_enter Try.func4, Try.ntmps4
               try go_wp2_with (first | ((with_reducible refine gate_dst (N := 2) rfl ?_); refine bx 2 #[.slice A0_0 l0_0.length c0_0, .slice A0_1 l0_1.length c0_1, .slice A0_2 l0_2.length c0_2] 25 ?_; intro gb320 hg w41 hbox hb; have BK320 := mk hbox; have GW320 := wg hg; have GE320 := wg hg; replace HB := wh hb; clear hb hbox hg) | ((with_reducible refine gate_dst (N := 3) rfl ?_); refine bx 3 #[.int .i64 a1_0, .int .i64 a1_1] 37 ?_; intro gb321 hg w42 hbox hb; have BK321 := mk hbox; have GW321 := wg hg; have GE321 := wg hg; replace HB := wh hb; have NB320_321 := nl BK320 hg; have NB321_320 := nr BK320 hg; replace BK320 := wb BK320 hb; clear hb hbox hg; have hnb43 := NB320_321.out; have hnc43 := NB321_320.out; obtain ⟨hcz44_0, hcz44_1, hcz44_2, hfz44_0, hfz44_1, hfz44_2⟩ := bz3 BK320) | ((with_reducible refine gate_callee (f := 6) rfl ?_); refine gl (some 21) rfl Try.func6 #[.agg #[.slice A0_0 l0_0.length c0_0, .slice A0_1 l0_1.length c0_1, .slice A0_2 l0_2.length c0_2], .int .i64 1048576] ?_; (with_reducible refine (laws_szCracker.calls _ _ l0_0 _ _ l0_1 _ _ l0_2 1048576 t322 _ ?side1 ?side2 ?side3 ?side4 ?side5 ?side6 A3.out).mono ?_); (case side1 => exact uc (Kd.C_below HR0_0.out HB.out)); (case side2 => exact HC0_0.out); (case side3 => exact uc (Kd.C_below HR0_1.out HB.out)); (case side4 => exact HC0_1.out); (case side5 => exact uc (Kd.C_below HR0_2.out HB.out)); (case side6 => exact HC0_2.out); rintro e w45 ⟨rfl, hb⟩; refine ⟨_, rfl, ?_⟩; replace BK320 := wb BK320 hb; replace BK321 := wb BK321 hb; replace HB := wh hb; (try clear hb); (try clear hb2); (try clear hk); (try clear hi)))
               replace BK320 := wd BK320
               replace BK321 := wd BK321
               replace HB := mk (below_drew1 HB.out)
               refine start_ (n := 13) (S := fun w' => w'.cell? ⟨gb320, 0, none⟩ = some (.slice A0_0 l0_0.length c0_0) ∧ w'.cell? ⟨gb320, 1, none⟩ = some (.slice A0_1 l0_1.length c0_1) ∧ w'.cell? ⟨gb320, 2, none⟩ = some (.slice A0_2 l0_2.length c0_2) ∧ w'.cell? ⟨gb321, 0, none⟩ = some (.int .i64 a1_0) ∧ w'.cell? ⟨gb321, 1, none⟩ = some (.int .i64 a1_1)) (ds := []) #[F_, F_, F_, F_, F_, F_, F_, F_, F_, F_, F_, F_, F_] (by kernel_rfl) rfl rfl ⟨(blk_cell BK320.out 0).trans rfl, (blk_cell BK320.out 1).trans rfl, (blk_cell BK320.out 2).trans rfl, (blk_cell BK321.out 0).trans rfl, (blk_cell BK321.out 1).trans rfl⟩ (fun hHeld => ?_); refine with_tabW laws_FnExactRippleInsert.tab5 laws_FnExactRippleInsert.bits5 (fun HT_ HW_ => ?_)
               generalize w45.drew = w46 at BK320 BK321 HB hHeld ⊢
               refine tk 0 25 (tf 1 12) hHeld ?_
               refine tk 2 27 #[T_,F_,T_,F_,F_,F_,F_,F_,F_,F_,F_,F_,F_] hHeld ?_
               refine join_ (σ := Value × Value × Value × Value × Value × Value × Nat) 3 #[T_, T_, T_, T_, T_, T_, T_, T_, T_, T_, F_, F_, F_] (fun s_ => [(26, .agg #[s_.1, s_.2.1, s_.2.2.1]), (28, .agg #[.int .i64 t332, .int .i64 t333]), (29, .tuple #[.agg #[s_.2.2.2.1, s_.2.2.2.2.1, s_.2.2.2.2.2.1], .int .i64 t343, .bool t344]), (6, .pointer (some ⟨s_.2.2.2.2.2.2, 0, none⟩)), (24, .tuple #[.agg #[s_.2.2.2.1, s_.2.2.2.2.1, s_.2.2.2.2.2.1], .int .i64 t343, .bool t344]), (30, .agg #[s_.2.2.2.1, s_.2.2.2.2.1, s_.2.2.2.2.2.1]), (31, .int .i64 t343), (32, .bool t344)]) (fun s_ w' => (w'.cell? ⟨gb320, 0, none⟩ = some (.slice A0_0 l0_0.length c0_0) ∧ w'.cell? ⟨gb320, 1, none⟩ = some (.slice A0_1 l0_1.length c0_1) ∧ w'.cell? ⟨gb320, 2, none⟩ = some (.slice A0_2 l0_2.length c0_2) ∧ w'.cell? ⟨gb321, 0, none⟩ = some (.int .i64 a1_0) ∧ w'.cell? ⟨gb321, 1, none⟩ = some (.int .i64 a1_1)) ∧ (Kd.R (Kd.int .i64) 3 w' w.heap.size (fun k_ => some k_ ≠ (s_.2.1 : Value).ownBlock ∧ some k_ ≠ (s_.2.2.2.1 : Value).ownBlock ∧ some k_ ≠ (s_.2.2.2.2.1 : Value).ownBlock) s_.1 t323) ∧ (Kd.R (Kd.int .i64) 3 w' w.heap.size (fun k_ => some k_ ≠ (s_.1 : Value).ownBlock ∧ some k_ ≠ (s_.2.2.2.1 : Value).ownBlock ∧ some k_ ≠ (s_.2.2.2.2.1 : Value).ownBlock) s_.2.1 t326) ∧ (Kd.R k50 50 w' w.heap.size (fun k_ => some k_ ≠ (s_.2.2.2.2.2.1 : Value).ownBlock) s_.2.2.1 t329) ∧ (Kd.R (Kd.int .i64) 3 w' w.heap.size (fun k_ => some k_ ≠ (s_.1 : Value).ownBlock ∧ some k_ ≠ (s_.2.1 : Value).ownBlock ∧ some k_ ≠ (s_.2.2.2.2.1 : Value).ownBlock) s_.2.2.2.1 t334) ∧ (Kd.R (Kd.int .i64) 3 w' w.heap.size (fun k_ => some k_ ≠ (s_.1 : Value).ownBlock ∧ some k_ ≠ (s_.2.1 : Value).ownBlock ∧ some k_ ≠ (s_.2.2.2.1 : Value).ownBlock) s_.2.2.2.2.1 t337) ∧ (Kd.R k50 50 w' w.heap.size (fun k_ => some k_ ≠ (s_.2.2.1 : Value).ownBlock) s_.2.2.2.2.2.1 t340) ∧ (w'.heap[gb320]? = some (.cells #[.slice A0_0 l0_0.length c0_0, .slice A0_1 l0_1.length c0_1, .slice A0_2 l0_2.length c0_2] 25 (0, 0))) ∧ (w'.heap[gb321]? = some (.cells #[.int .i64 a1_0, .int .i64 a1_1] 37 (0, 0))) ∧ (w'.heap[s_.2.2.2.2.2.2]? = some (.cells #[.slice none 0 0, .slice none 0 0, .slice none 0 0] 29 (0, 0))) ∧ (w.heap.size ≤ s_.2.2.2.2.2.2) ∧ (w.heap.size ≤ s_.2.2.2.2.2.2) ∧ (gb320 ≠ s_.2.2.2.2.2.2) ∧ (s_.2.2.2.2.2.2 ≠ gb320) ∧ (gb321 ≠ s_.2.2.2.2.2.2) ∧ (s_.2.2.2.2.2.2 ≠ gb321) ∧ (Below w.heap.size w w')) ?_ ?_
               rotate_left
               ·intro hCont
                refine two_ (i := 1) (j := 9) (Ni := some 26) (Nj := some 6) #[T_, T_, T_, F_, F_, F_, F_, F_, F_, F_, F_, F_, F_] #[T_, F_, T_, F_, F_, F_, F_, F_, F_, T_, F_, F_, F_] rfl rfl rfl rfl (two_of HT_.out (by kernel_rfl)) (by decide) (by decide) (fun K hK => ?_) (fun K hK => ?_)
                ·skip
                 refine gs Try.func8 #[.agg #[.slice A0_0 l0_0.length c0_0, .slice A0_1 l0_1.length c0_1, .slice A0_2 l0_2.length c0_2]] ?_
                 with_reducible refine (laws_toCracker.calls k _ _ l0_0 _ _ l0_1 _ _ l0_2 t323 t326 t329 _ ?side1 ?side2 ?side3 ?side4 ?side5 ?side6 A10.out).mono ?_
                 (case side1 => exact uc (Kd.C_below HR0_0.out HB.out))
                 (case side2 => exact HC0_0.out)
                 (case side3 => exact uc (Kd.C_below HR0_1.out HB.out))
                 (case side4 => exact HC0_1.out)
                 (case side5 => exact uc (Kd.C_below HR0_2.out HB.out))
                 (case side6 => exact HC0_2.out)
                 rintro e w47 ⟨v324, v327, v330, rfl, ho0, ho1, ho2, hb⟩
                 refine ⟨_, rfl, ?_⟩
                 have HO325 := mk (Kd.R_lower ho0 (below_size bl))
                 have HO328 := mk (Kd.R_lower ho1 (below_size bl))
                 have HO331 := mk (Kd.R_lower ho2 (below_size bl))
                 replace BK320 := wb BK320 hb
                 replace BK321 := wb BK321 hb
                 replace HB := wh hb
                 (try clear hb)
                 (try clear hb2)
                 (try clear hk)
                 (try clear hi)
                 (try clear ho0)
                 (try clear ho1)
                 (try clear ho2)
                 refine hK.out _ _ ⟨(blk_cell BK320.out 0).trans rfl, (blk_cell BK320.out 1).trans rfl, (blk_cell BK320.out 2).trans rfl, (blk_cell BK321.out 0).trans rfl, (blk_cell BK321.out 1).trans rfl⟩ (fun hHeld => ?_)
                 clear hK K
                 refine nm 26 ?_
                 refine two_ (i := 3) (j := 9) (Ni := some 28) (Nj := some 6) #[T_, T_, T_, T_, F_, F_, F_, F_, F_, F_, F_, F_, F_] #[T_, T_, T_, F_, F_, F_, F_, F_, F_, T_, F_, F_, F_] rfl rfl rfl rfl (two_of HT_.out (by kernel_rfl)) (by decide) (by decide) (fun K hK => ?_) (fun K hK => ?_)
                 ·skip
                  refine gs Try.func14 #[.agg #[.int .i64 a1_0, .int .i64 a1_1]] ?_
                  with_reducible refine (laws_toItem.calls a1_0 a1_1 t332 t333 _ A11.out).mono ?_
                  rintro e w48 ⟨rfl, hb⟩
                  refine ⟨_, rfl, ?_⟩
                  replace HO325 := mk (Kd.R_below (up HO325.out) hb)
                  replace HO328 := mk (Kd.R_below (up HO328.out) hb)
                  replace HO331 := mk (Kd.R_below (up HO331.out) hb)
                  replace BK320 := wb BK320 hb
                  replace BK321 := wb BK321 hb
                  replace HB := wh hb
                  (try clear hb)
                  (try clear hb2)
                  (try clear hk)
                  (try clear hi)
                  obtain ⟨Ao49, co49, eo49⟩ := Kd.R_slice HO325.out
                  (first | subst eo49 | (injection eo49 with f1_ f2_ f3_; have f4_ := f1_.symm; have f5_ := f3_.symm; clear f1_ f2_ f3_; subst f4_; subst f5_))
                  obtain ⟨Ao50, co50, eo50⟩ := Kd.R_slice HO328.out
                  (first | subst eo50 | (injection eo50 with f1_ f2_ f3_; have f4_ := f1_.symm; have f5_ := f3_.symm; clear f1_ f2_ f3_; subst f4_; subst f5_))
                  obtain ⟨Ao51, co51, eo51⟩ := Kd.R_slice HO331.out
                  (first | subst eo51 | (injection eo51 with f1_ f2_ f3_; have f4_ := f1_.symm; have f5_ := f3_.symm; clear f1_ f2_ f3_; subst f4_; subst f5_))
                  refine hK.out _ _ ⟨(blk_cell BK320.out 0).trans rfl, (blk_cell BK320.out 1).trans rfl, (blk_cell BK320.out 2).trans rfl, (blk_cell BK321.out 0).trans rfl, (blk_cell BK321.out 1).trans rfl⟩ (fun hHeld => ?_)
                  clear hK K
                  refine nm 28 ?_
                  refine two_ (i := 4) (j := 9) (Ni := some 29) (Nj := some 6) #[T_, T_, T_, T_, T_, F_, F_, F_, F_, F_, F_, F_, F_] #[T_, T_, T_, T_, F_, F_, F_, F_, F_, T_, F_, F_, F_] rfl rfl rfl rfl (two_of HT_.out (by kernel_rfl)) (by decide) (by decide) (fun K hK => ?_) (fun K hK => ?_)
                  ·skip
                   refine gs Try.func13 #[.agg #[.slice Ao49 t323.length co49, .slice Ao50 t326.length co50, .slice Ao51 t329.length co51], .agg #[.int .i64 t332, .int .i64 t333]] ?_
                   with_reducible refine (spec_RippleInsert.calls k _ _ t323 _ _ t326 _ _ t329 t332 t333 t334 t337 t340 t343 t344 _ ?side1 ?side2 ?side3 ?side4 ?side5 ?side6 A12.out).mono ?_
                   (case side1 => exact uc (Kd.R_reads' HO325.out).2.2)
                   (case side2 => exact (Kd.R_reads' HO325.out).2.1)
                   (case side3 => exact uc (Kd.R_reads' HO328.out).2.2)
                   (case side4 => exact (Kd.R_reads' HO328.out).2.1)
                   (case side5 => exact uc (Kd.R_reads' HO331.out).2.2)
                   (case side6 => exact (Kd.R_reads' HO331.out).2.1)
                   rintro e w52 ⟨v335, v338, v341, rfl, ho0, ho1, ho2, hb⟩
                   refine ⟨_, rfl, ?_⟩
                   have HO336 := mk (Kd.R_lower (Kd.R_new' (Kd.R_new' ho0 (Kd.R_lt (up HO325.out))) (Kd.R_lt (up HO328.out))) (below_size bl))
                   have HO339 := mk (Kd.R_lower (Kd.R_new' (Kd.R_new' ho1 (Kd.R_lt (up HO325.out))) (Kd.R_lt (up HO328.out))) (below_size bl))
                   replace HO325 := mk (Kd.R_mono (Kd.R_told (Kd.R_told (Kd.R_old (up HO325.out) hb) (Kd.R_base ho0)) (Kd.R_base ho1)) (fun _ h_ => h_.1))
                   replace HO328 := mk (Kd.R_mono (Kd.R_told (Kd.R_told (Kd.R_old (up HO328.out) hb) (Kd.R_base ho0)) (Kd.R_base ho1)) (fun _ h_ => h_.1))
                   have HO342 := mk (Kd.R_lower (Kd.R_new' ho2 (Kd.R_lt (up HO331.out))) (below_size bl))
                   replace HO331 := mk (Kd.R_elder' (up HO331.out) (Kd.R_base ho2) hb)
                   replace BK320 := wb BK320 hb
                   replace BK321 := wb BK321 hb
                   replace HB := wh hb
                   (try clear hb)
                   (try clear hb2)
                   (try clear hk)
                   (try clear hi)
                   (try clear ho0)
                   (try clear ho1)
                   (try clear ho2)
                   refine hK.out _ _ ⟨(blk_cell BK320.out 0).trans rfl, (blk_cell BK320.out 1).trans rfl, (blk_cell BK320.out 2).trans rfl, (blk_cell BK321.out 0).trans rfl, (blk_cell BK321.out 1).trans rfl⟩ (fun hHeld => ?_)
                   clear hK K
                   refine nm 29 ?_
                   refine pu 5 24 (tf 6 7) ?_
                   refine pu 6 30 (tf 7 6) ?_
                   refine pu 7 31 (tf 8 5) ?_
                   refine pu 8 32 (tf 9 4) ?_
                   refine on 9 6 (tf 10 3) (fun K hK => ?_)
                   refine box_step ?hg (N := 6) ?hd (cs := #[.slice none 0 0, .slice none 0 0, .slice none 0 0]) (t := 29) ?hr ?_; (case hd => rfl); (case hg => rfl); (case hr => first | (go_simp; done) | (go_simp; rfl))
                   intro gb345 hg w53 hbox hb
                   replace HO325 := mk (Kd.R_below (up HO325.out) hb)
                   replace HO328 := mk (Kd.R_below (up HO328.out) hb)
                   replace HO331 := mk (Kd.R_below (up HO331.out) hb)
                   replace HO336 := mk (Kd.R_below (up HO336.out) hb)
                   replace HO339 := mk (Kd.R_below (up HO339.out) hb)
                   replace HO342 := mk (Kd.R_below (up HO342.out) hb)
                   have BK345 := mk hbox
                   have GW345 := wg hg
                   have GE345 := wg hg
                   replace HB := wh hb
                   have NB320_345 := nl BK320 hg
                   have NB345_320 := nr BK320 hg
                   replace BK320 := wb BK320 hb
                   have NB321_345 := nl BK321 hg
                   have NB345_321 := nr BK321 hg
                   replace BK321 := wb BK321 hb
                   clear hb hbox hg
                   refine hK.out _ _ ⟨(blk_cell BK320.out 0).trans rfl, (blk_cell BK320.out 1).trans rfl, (blk_cell BK320.out 2).trans rfl, (blk_cell BK321.out 0).trans rfl, (blk_cell BK321.out 1).trans rfl⟩ (fun hHeld => ?_)
                   clear hK K
                   refine nm 6 ?_
                   exact norm_ (by simp only [putAll, Act.put, List.setIfInBounds_toArray, List.set_cons_zero, List.set_cons_succ]) (hCont (.slice Ao49 t323.length co49, .slice Ao50 t326.length co50, .slice Ao51 t329.length co51, v335, v338, v341, gb345) _ ⟨hHeld, (by exact up (Kd.R_mono HO325.out (fun _ hk => by first | exact ⟨hk.1.1, ⟨hk.1.2, hk.2⟩⟩ | (revert hk; simp only [and_imp]; intros; (repeat' (refine And.intro ?_ ?_)) <;> assumption)))), (by exact up (Kd.R_mono HO328.out (fun _ hk => by first | exact ⟨hk.1.1, ⟨hk.1.2, hk.2⟩⟩ | (revert hk; simp only [and_imp]; intros; (repeat' (refine And.intro ?_ ?_)) <;> assumption)))), (by exact up (Kd.R_mono HO331.out (fun _ hk => hk.2))), (by exact up (Kd.R_mono HO336.out (fun _ hk => by first | exact ⟨hk.1.2, ⟨hk.2, hk.1.1⟩⟩ | (revert hk; simp only [and_imp]; intros; (repeat' (refine And.intro ?_ ?_)) <;> assumption)))), (by exact up (Kd.R_mono HO339.out (fun _ hk => by first | exact ⟨hk.1.2, ⟨hk.2, hk.1.1⟩⟩ | (revert hk; simp only [and_imp]; intros; (repeat' (refine And.intro ?_ ?_)) <;> assumption)))), (by exact up (Kd.R_mono HO342.out (fun _ hk => hk.2))), (ub BK320.out), (ub BK321.out), (ub BK345.out), GW345.out, GE345.out, NB320_345.out, NB345_320.out, NB321_345.out, NB345_321.out, bl⟩)
                  ·skip
                   refine box_step ?hg (N := 6) ?hd (cs := #[.slice none 0 0, .slice none 0 0, .slice none 0 0]) (t := 29) ?hr ?_; (case hd => rfl); (case hg => rfl); (case hr => first | (go_simp; done) | (go_simp; rfl))
                   intro gb345 hg w49 hbox hb
                   replace HO325 := mk (Kd.R_below (up HO325.out) hb)
                   replace HO328 := mk (Kd.R_below (up HO328.out) hb)
                   replace HO331 := mk (Kd.R_below (up HO331.out) hb)
                   have BK345 := mk hbox
                   have GW345 := wg hg
                   have GE345 := wg hg
                   replace HB := wh hb
                   have NB320_345 := nl BK320 hg
                   have NB345_320 := nr BK320 hg
                   replace BK320 := wb BK320 hb
                   have NB321_345 := nl BK321 hg
                   have NB345_321 := nr BK321 hg
                   replace BK321 := wb BK321 hb
                   clear hb hbox hg
                   obtain ⟨Ao50, co50, eo50⟩ := Kd.R_slice HO325.out
                   (first | subst eo50 | (injection eo50 with f1_ f2_ f3_; have f4_ := f1_.symm; have f5_ := f3_.symm; clear f1_ f2_ f3_; subst f4_; subst f5_))
                   obtain ⟨Ao51, co51, eo51⟩ := Kd.R_slice HO328.out
                   (first | subst eo51 | (injection eo51 with f1_ f2_ f3_; have f4_ := f1_.symm; have f5_ := f3_.symm; clear f1_ f2_ f3_; subst f4_; subst f5_))
                   obtain ⟨Ao52, co52, eo52⟩ := Kd.R_slice HO331.out
                   (first | subst eo52 | (injection eo52 with f1_ f2_ f3_; have f4_ := f1_.symm; have f5_ := f3_.symm; clear f1_ f2_ f3_; subst f4_; subst f5_))
                   refine hK.out _ _ ⟨(blk_cell BK320.out 0).trans rfl, (blk_cell BK320.out 1).trans rfl, (blk_cell BK320.out 2).trans rfl, (blk_cell BK321.out 0).trans rfl, (blk_cell BK321.out 1).trans rfl⟩ (fun hHeld => ?_)
                   clear hK K
                   refine nm 6 ?_
                   refine on 4 29 #[T_,T_,T_,T_,T_,F_,F_,F_,F_,T_,F_,F_,F_] (fun K hK => ?_)
                   refine gs Try.func13 #[.agg #[.slice Ao50 t323.length co50, .slice Ao51 t326.length co51, .slice Ao52 t329.length co52], .agg #[.int .i64 t332, .int .i64 t333]] ?_
                   with_reducible refine (spec_RippleInsert.calls k _ _ t323 _ _ t326 _ _ t329 t332 t333 t334 t337 t340 t343 t344 _ ?side1 ?side2 ?side3 ?side4 ?side5 ?side6 A12.out).mono ?_
                   (case side1 => exact uc (Kd.R_reads' HO325.out).2.2)
                   (case side2 => exact (Kd.R_reads' HO325.out).2.1)
                   (case side3 => exact uc (Kd.R_reads' HO328.out).2.2)
                   (case side4 => exact (Kd.R_reads' HO328.out).2.1)
                   (case side5 => exact uc (Kd.R_reads' HO331.out).2.2)
                   (case side6 => exact (Kd.R_reads' HO331.out).2.1)
                   rintro e w53 ⟨v335, v338, v341, rfl, ho0, ho1, ho2, hb⟩
                   refine ⟨_, rfl, ?_⟩
                   have HO336 := mk (Kd.R_lower (Kd.R_new' (Kd.R_new' ho0 (Kd.R_lt (up HO325.out))) (Kd.R_lt (up HO328.out))) (below_size bl))
                   have HO339 := mk (Kd.R_lower (Kd.R_new' (Kd.R_new' ho1 (Kd.R_lt (up HO325.out))) (Kd.R_lt (up HO328.out))) (below_size bl))
                   replace HO325 := mk (Kd.R_mono (Kd.R_told (Kd.R_told (Kd.R_old (up HO325.out) hb) (Kd.R_base ho0)) (Kd.R_base ho1)) (fun _ h_ => h_.1))
                   replace HO328 := mk (Kd.R_mono (Kd.R_told (Kd.R_told (Kd.R_old (up HO328.out) hb) (Kd.R_base ho0)) (Kd.R_base ho1)) (fun _ h_ => h_.1))
                   have HO342 := mk (Kd.R_lower (Kd.R_new' ho2 (Kd.R_lt (up HO331.out))) (below_size bl))
                   replace HO331 := mk (Kd.R_elder' (up HO331.out) (Kd.R_base ho2) hb)
                   replace BK320 := wb BK320 hb
                   replace BK321 := wb BK321 hb
                   replace BK345 := wb BK345 hb
                   replace HB := wh hb
                   (try clear hb)
                   (try clear hb2)
                   (try clear hk)
                   (try clear hi)
                   (try clear ho0)
                   (try clear ho1)
                   (try clear ho2)
                   refine hK.out _ _ ⟨(blk_cell BK320.out 0).trans rfl, (blk_cell BK320.out 1).trans rfl, (blk_cell BK320.out 2).trans rfl, (blk_cell BK321.out 0).trans rfl, (blk_cell BK321.out 1).trans rfl⟩ (fun hHeld => ?_)
                   clear hK K
                   refine nm 29 ?_
                   refine pu 5 24 #[T_,T_,T_,T_,T_,T_,F_,F_,F_,T_,F_,F_,F_] ?_
                   refine pu 6 30 #[T_,T_,T_,T_,T_,T_,T_,F_,F_,T_,F_,F_,F_] ?_
                   refine pu 7 31 #[T_,T_,T_,T_,T_,T_,T_,T_,F_,T_,F_,F_,F_] ?_
                   refine pu 8 32 (tf 10 3) ?_
                   exact norm_ (by simp only [putAll, Act.put, List.setIfInBounds_toArray, List.set_cons_zero, List.set_cons_succ]) (hCont (.slice Ao50 t323.length co50, .slice Ao51 t326.length co51, .slice Ao52 t329.length co52, v335, v338, v341, gb345) _ ⟨hHeld, (by exact up (Kd.R_mono HO325.out (fun _ hk => by first | exact ⟨hk.1.1, ⟨hk.1.2, hk.2⟩⟩ | (revert hk; simp only [and_imp]; intros; (repeat' (refine And.intro ?_ ?_)) <;> assumption)))), (by exact up (Kd.R_mono HO328.out (fun _ hk => by first | exact ⟨hk.1.1, ⟨hk.1.2, hk.2⟩⟩ | (revert hk; simp only [and_imp]; intros; (repeat' (refine And.intro ?_ ?_)) <;> assumption)))), (by exact up (Kd.R_mono HO331.out (fun _ hk => hk.2))), (by exact up (Kd.R_mono HO336.out (fun _ hk => by first | exact ⟨hk.1.2, ⟨hk.2, hk.1.1⟩⟩ | (revert hk; simp only [and_imp]; intros; (repeat' (refine And.intro ?_ ?_)) <;> assumption)))), (by exact up (Kd.R_mono HO339.out (fun _ hk => by first | exact ⟨hk.1.2, ⟨hk.2, hk.1.1⟩⟩ | (revert hk; simp only [and_imp]; intros; (repeat' (refine And.intro ?_ ?_)) <;> assumption)))), (by exact up (Kd.R_mono HO342.out (fun _ hk => hk.2))), (ub BK320.out), (ub BK321.out), (ub BK345.out), GW345.out, GE345.out, NB320_345.out, NB345_320.out, NB321_345.out, NB345_321.out, bl⟩)
                 ·skip
                  refine box_step ?hg (N := 6) ?hd (cs := #[.slice none 0 0, .slice none 0 0, .slice none 0 0]) (t := 29) ?hr ?_; (case hd => rfl); (case hg => rfl); (case hr => first | (go_simp; done) | (go_simp; rfl))
                  intro gb345 hg w48 hbox hb
                  replace HO325 := mk (Kd.R_below (up HO325.out) hb)
                  replace HO328 := mk (Kd.R_below (up HO328.out) hb)
                  replace HO331 := mk (Kd.R_below (up HO331.out) hb)
                  have BK345 := mk hbox
                  have GW345 := wg hg
                  have GE345 := wg hg
                  replace HB := wh hb
                  have NB320_345 := nl BK320 hg
                  have NB345_320 := nr BK320 hg
                  replace BK320 := wb BK320 hb
                  have NB321_345 := nl BK321 hg
                  have NB345_321 := nr BK321 hg
                  replace BK321 := wb BK321 hb
                  clear hb hbox hg
                  refine hK.out _ _ ⟨(blk_cell BK320.out 0).trans rfl, (blk_cell BK320.out 1).trans rfl, (blk_cell BK320.out 2).trans rfl, (blk_cell BK321.out 0).trans rfl, (blk_cell BK321.out 1).trans rfl⟩ (fun hHeld => ?_)
                  clear hK K
                  refine nm 6 ?_
                  refine on 3 28 #[T_,T_,T_,T_,F_,F_,F_,F_,F_,T_,F_,F_,F_] (fun K hK => ?_)
                  refine gs Try.func14 #[.agg #[.int .i64 a1_0, .int .i64 a1_1]] ?_
                  with_reducible refine (laws_toItem.calls a1_0 a1_1 t332 t333 _ A11.out).mono ?_
                  rintro e w49 ⟨rfl, hb⟩
                  refine ⟨_, rfl, ?_⟩
                  replace HO325 := mk (Kd.R_below (up HO325.out) hb)
                  replace HO328 := mk (Kd.R_below (up HO328.out) hb)
                  replace HO331 := mk (Kd.R_below (up HO331.out) hb)
                  replace BK320 := wb BK320 hb
                  replace BK321 := wb BK321 hb
                  replace BK345 := wb BK345 hb
                  replace HB := wh hb
                  (try clear hb)
                  (try clear hb2)
                  (try clear hk)
                  (try clear hi)
                  obtain ⟨Ao50, co50, eo50⟩ := Kd.R_slice HO325.out
                  (first | subst eo50 | (injection eo50 with f1_ f2_ f3_; have f4_ := f1_.symm; have f5_ := f3_.symm; clear f1_ f2_ f3_; subst f4_; subst f5_))
                  obtain ⟨Ao51, co51, eo51⟩ := Kd.R_slice HO328.out
                  (first | subst eo51 | (injection eo51 with f1_ f2_ f3_; have f4_ := f1_.symm; have f5_ := f3_.symm; clear f1_ f2_ f3_; subst f4_; subst f5_))
                  obtain ⟨Ao52, co52, eo52⟩ := Kd.R_slice HO331.out
                  (first | subst eo52 | (injection eo52 with f1_ f2_ f3_; have f4_ := f1_.symm; have f5_ := f3_.symm; clear f1_ f2_ f3_; subst f4_; subst f5_))
                  refine hK.out _ _ ⟨(blk_cell BK320.out 0).trans rfl, (blk_cell BK320.out 1).trans rfl, (blk_cell BK320.out 2).trans rfl, (blk_cell BK321.out 0).trans rfl, (blk_cell BK321.out 1).trans rfl⟩ (fun hHeld => ?_)
                  clear hK K
                  refine nm 28 ?_
                  refine on 4 29 #[T_,T_,T_,T_,T_,F_,F_,F_,F_,T_,F_,F_,F_] (fun K hK => ?_)
                  refine gs Try.func13 #[.agg #[.slice Ao50 t323.length co50, .slice Ao51 t326.length co51, .slice Ao52 t329.length co52], .agg #[.int .i64 t332, .int .i64 t333]] ?_
                  with_reducible refine (spec_RippleInsert.calls k _ _ t323 _ _ t326 _ _ t329 t332 t333 t334 t337 t340 t343 t344 _ ?side1 ?side2 ?side3 ?side4 ?side5 ?side6 A12.out).mono ?_
                  (case side1 => exact uc (Kd.R_reads' HO325.out).2.2)
                  (case side2 => exact (Kd.R_reads' HO325.out).2.1)
                  (case side3 => exact uc (Kd.R_reads' HO328.out).2.2)
                  (case side4 => exact (Kd.R_reads' HO328.out).2.1)
                  (case side5 => exact uc (Kd.R_reads' HO331.out).2.2)
                  (case side6 => exact (Kd.R_reads' HO331.out).2.1)
                  rintro e w53 ⟨v335, v338, v341, rfl, ho0, ho1, ho2, hb⟩
                  refine ⟨_, rfl, ?_⟩
                  have HO336 := mk (Kd.R_lower (Kd.R_new' (Kd.R_new' ho0 (Kd.R_lt (up HO325.out))) (Kd.R_lt (up HO328.out))) (below_size bl))
                  have HO339 := mk (Kd.R_lower (Kd.R_new' (Kd.R_new' ho1 (Kd.R_lt (up HO325.out))) (Kd.R_lt (up HO328.out))) (below_size bl))
                  replace HO325 := mk (Kd.R_mono (Kd.R_told (Kd.R_told (Kd.R_old (up HO325.out) hb) (Kd.R_base ho0)) (Kd.R_base ho1)) (fun _ h_ => h_.1))
                  replace HO328 := mk (Kd.R_mono (Kd.R_told (Kd.R_told (Kd.R_old (up HO328.out) hb) (Kd.R_base ho0)) (Kd.R_base ho1)) (fun _ h_ => h_.1))
                  have HO342 := mk (Kd.R_lower (Kd.R_new' ho2 (Kd.R_lt (up HO331.out))) (below_size bl))
                  replace HO331 := mk (Kd.R_elder' (up HO331.out) (Kd.R_base ho2) hb)
                  replace BK320 := wb BK320 hb
                  replace BK321 := wb BK321 hb
                  replace BK345 := wb BK345 hb
                  replace HB := wh hb
                  (try clear hb)
                  (try clear hb2)
                  (try clear hk)
                  (try clear hi)
                  (try clear ho0)
                  (try clear ho1)
                  (try clear ho2)
                  refine hK.out _ _ ⟨(blk_cell BK320.out 0).trans rfl, (blk_cell BK320.out 1).trans rfl, (blk_cell BK320.out 2).trans rfl, (blk_cell BK321.out 0).trans rfl, (blk_cell BK321.out 1).trans rfl⟩ (fun hHeld => ?_)
                  clear hK K
                  refine nm 29 ?_
                  refine pu 5 24 #[T_,T_,T_,T_,T_,T_,F_,F_,F_,T_,F_,F_,F_] ?_
                  refine pu 6 30 #[T_,T_,T_,T_,T_,T_,T_,F_,F_,T_,F_,F_,F_] ?_
                  refine pu 7 31 #[T_,T_,T_,T_,T_,T_,T_,T_,F_,T_,F_,F_,F_] ?_
                  refine pu 8 32 (tf 10 3) ?_
                  exact norm_ (by simp only [putAll, Act.put, List.setIfInBounds_toArray, List.set_cons_zero, List.set_cons_succ]) (hCont (.slice Ao50 t323.length co50, .slice Ao51 t326.length co51, .slice Ao52 t329.length co52, v335, v338, v341, gb345) _ ⟨hHeld, (by exact up (Kd.R_mono HO325.out (fun _ hk => by first | exact ⟨hk.1.1, ⟨hk.1.2, hk.2⟩⟩ | (revert hk; simp only [and_imp]; intros; (repeat' (refine And.intro ?_ ?_)) <;> assumption)))), (by exact up (Kd.R_mono HO328.out (fun _ hk => by first | exact ⟨hk.1.1, ⟨hk.1.2, hk.2⟩⟩ | (revert hk; simp only [and_imp]; intros; (repeat' (refine And.intro ?_ ?_)) <;> assumption)))), (by exact up (Kd.R_mono HO331.out (fun _ hk => hk.2))), (by exact up (Kd.R_mono HO336.out (fun _ hk => by first | exact ⟨hk.1.2, ⟨hk.2, hk.1.1⟩⟩ | (revert hk; simp only [and_imp]; intros; (repeat' (refine And.intro ?_ ?_)) <;> assumption)))), (by exact up (Kd.R_mono HO339.out (fun _ hk => by first | exact ⟨hk.1.2, ⟨hk.2, hk.1.1⟩⟩ | (revert hk; simp only [and_imp]; intros; (repeat' (refine And.intro ?_ ?_)) <;> assumption)))), (by exact up (Kd.R_mono HO342.out (fun _ hk => hk.2))), (ub BK320.out), (ub BK321.out), (ub BK345.out), GW345.out, GE345.out, NB320_345.out, NB345_320.out, NB321_345.out, NB345_321.out, bl⟩)
                ·skip
                 refine box_step ?hg (N := 6) ?hd (cs := #[.slice none 0 0, .slice none 0 0, .slice none 0 0]) (t := 29) ?hr ?_; (case hd => rfl); (case hg => rfl); (case hr => first | (go_simp; done) | (go_simp; rfl))
                 intro gb345 hg w47 hbox hb
                 have BK345 := mk hbox
                 have GW345 := wg hg
                 have GE345 := wg hg
                 replace HB := wh hb
                 have NB320_345 := nl BK320 hg
                 have NB345_320 := nr BK320 hg
                 replace BK320 := wb BK320 hb
                 have NB321_345 := nl BK321 hg
                 have NB345_321 := nr BK321 hg
                 replace BK321 := wb BK321 hb
                 clear hb hbox hg
                 refine hK.out _ _ ⟨(blk_cell BK320.out 0).trans rfl, (blk_cell BK320.out 1).trans rfl, (blk_cell BK320.out 2).trans rfl, (blk_cell BK321.out 0).trans rfl, (blk_cell BK321.out 1).trans rfl⟩ (fun hHeld => ?_)
                 clear hK K
                 refine nm 6 ?_
                 refine on 1 26 #[T_,T_,T_,F_,F_,F_,F_,F_,F_,T_,F_,F_,F_] (fun K hK => ?_)
                 refine gs Try.func8 #[.agg #[.slice A0_0 l0_0.length c0_0, .slice A0_1 l0_1.length c0_1, .slice A0_2 l0_2.length c0_2]] ?_
                 with_reducible refine (laws_toCracker.calls k _ _ l0_0 _ _ l0_1 _ _ l0_2 t323 t326 t329 _ ?side1 ?side2 ?side3 ?side4 ?side5 ?side6 A10.out).mono ?_
                 (case side1 => exact uc (Kd.C_below HR0_0.out HB.out))
                 (case side2 => exact HC0_0.out)
                 (case side3 => exact uc (Kd.C_below HR0_1.out HB.out))
                 (case side4 => exact HC0_1.out)
                 (case side5 => exact uc (Kd.C_below HR0_2.out HB.out))
                 (case side6 => exact HC0_2.out)
                 rintro e w48 ⟨v324, v327, v330, rfl, ho0, ho1, ho2, hb⟩
                 refine ⟨_, rfl, ?_⟩
                 have HO325 := mk (Kd.R_lower ho0 (below_size bl))
                 have HO328 := mk (Kd.R_lower ho1 (below_size bl))
                 have HO331 := mk (Kd.R_lower ho2 (below_size bl))
                 replace BK320 := wb BK320 hb
                 replace BK321 := wb BK321 hb
                 replace BK345 := wb BK345 hb
                 replace HB := wh hb
                 (try clear hb)
                 (try clear hb2)
                 (try clear hk)
                 (try clear hi)
                 (try clear ho0)
                 (try clear ho1)
                 (try clear ho2)
                 refine hK.out _ _ ⟨(blk_cell BK320.out 0).trans rfl, (blk_cell BK320.out 1).trans rfl, (blk_cell BK320.out 2).trans rfl, (blk_cell BK321.out 0).trans rfl, (blk_cell BK321.out 1).trans rfl⟩ (fun hHeld => ?_)
                 clear hK K
                 refine nm 26 ?_
                 refine on 3 28 #[T_,T_,T_,T_,F_,F_,F_,F_,F_,T_,F_,F_,F_] (fun K hK => ?_)
                 refine gs Try.func14 #[.agg #[.int .i64 a1_0, .int .i64 a1_1]] ?_
                 with_reducible refine (laws_toItem.calls a1_0 a1_1 t332 t333 _ A11.out).mono ?_
                 rintro e w49 ⟨rfl, hb⟩
                 refine ⟨_, rfl, ?_⟩
                 replace HO325 := mk (Kd.R_below (up HO325.out) hb)
                 replace HO328 := mk (Kd.R_below (up HO328.out) hb)
                 replace HO331 := mk (Kd.R_below (up HO331.out) hb)
                 replace BK320 := wb BK320 hb
                 replace BK321 := wb BK321 hb
                 replace BK345 := wb BK345 hb
                 replace HB := wh hb
                 (try clear hb)
                 (try clear hb2)
                 (try clear hk)
                 (try clear hi)
                 obtain ⟨Ao50, co50, eo50⟩ := Kd.R_slice HO325.out
                 (first | subst eo50 | (injection eo50 with f1_ f2_ f3_; have f4_ := f1_.symm; have f5_ := f3_.symm; clear f1_ f2_ f3_; subst f4_; subst f5_))
                 obtain ⟨Ao51, co51, eo51⟩ := Kd.R_slice HO328.out
                 (first | subst eo51 | (injection eo51 with f1_ f2_ f3_; have f4_ := f1_.symm; have f5_ := f3_.symm; clear f1_ f2_ f3_; subst f4_; subst f5_))
                 obtain ⟨Ao52, co52, eo52⟩ := Kd.R_slice HO331.out
                 (first | subst eo52 | (injection eo52 with f1_ f2_ f3_; have f4_ := f1_.symm; have f5_ := f3_.symm; clear f1_ f2_ f3_; subst f4_; subst f5_))
                 refine hK.out _ _ ⟨(blk_cell BK320.out 0).trans rfl, (blk_cell BK320.out 1).trans rfl, (blk_cell BK320.out 2).trans rfl, (blk_cell BK321.out 0).trans rfl, (blk_cell BK321.out 1).trans rfl⟩ (fun hHeld => ?_)
                 clear hK K
                 refine nm 28 ?_
                 refine on 4 29 #[T_,T_,T_,T_,T_,F_,F_,F_,F_,T_,F_,F_,F_] (fun K hK => ?_)
                 refine gs Try.func13 #[.agg #[.slice Ao50 t323.length co50, .slice Ao51 t326.length co51, .slice Ao52 t329.length co52], .agg #[.int .i64 t332, .int .i64 t333]] ?_
                 with_reducible refine (spec_RippleInsert.calls k _ _ t323 _ _ t326 _ _ t329 t332 t333 t334 t337 t340 t343 t344 _ ?side1 ?side2 ?side3 ?side4 ?side5 ?side6 A12.out).mono ?_
                 (case side1 => exact uc (Kd.R_reads' HO325.out).2.2)
                 (case side2 => exact (Kd.R_reads' HO325.out).2.1)
                 (case side3 => exact uc (Kd.R_reads' HO328.out).2.2)
                 (case side4 => exact (Kd.R_reads' HO328.out).2.1)
                 (case side5 => exact uc (Kd.R_reads' HO331.out).2.2)
                 (case side6 => exact (Kd.R_reads' HO331.out).2.1)
                 rintro e w53 ⟨v335, v338, v341, rfl, ho0, ho1, ho2, hb⟩
                 refine ⟨_, rfl, ?_⟩
                 have HO336 := mk (Kd.R_lower (Kd.R_new' (Kd.R_new' ho0 (Kd.R_lt (up HO325.out))) (Kd.R_lt (up HO328.out))) (below_size bl))
                 have HO339 := mk (Kd.R_lower (Kd.R_new' (Kd.R_new' ho1 (Kd.R_lt (up HO325.out))) (Kd.R_lt (up HO328.out))) (below_size bl))
                 replace HO325 := mk (Kd.R_mono (Kd.R_told (Kd.R_told (Kd.R_old (up HO325.out) hb) (Kd.R_base ho0)) (Kd.R_base ho1)) (fun _ h_ => h_.1))
                 replace HO328 := mk (Kd.R_mono (Kd.R_told (Kd.R_told (Kd.R_old (up HO328.out) hb) (Kd.R_base ho0)) (Kd.R_base ho1)) (fun _ h_ => h_.1))
                 have HO342 := mk (Kd.R_lower (Kd.R_new' ho2 (Kd.R_lt (up HO331.out))) (below_size bl))
                 replace HO331 := mk (Kd.R_elder' (up HO331.out) (Kd.R_base ho2) hb)
                 replace BK320 := wb BK320 hb
                 replace BK321 := wb BK321 hb
                 replace BK345 := wb BK345 hb
                 replace HB := wh hb
                 (try clear hb)
                 (try clear hb2)
                 (try clear hk)
                 (try clear hi)
                 (try clear ho0)
                 (try clear ho1)
                 (try clear ho2)
                 refine hK.out _ _ ⟨(blk_cell BK320.out 0).trans rfl, (blk_cell BK320.out 1).trans rfl, (blk_cell BK320.out 2).trans rfl, (blk_cell BK321.out 0).trans rfl, (blk_cell BK321.out 1).trans rfl⟩ (fun hHeld => ?_)
                 clear hK K
                 refine nm 29 ?_
                 refine pu 5 24 #[T_,T_,T_,T_,T_,T_,F_,F_,F_,T_,F_,F_,F_] ?_
                 refine pu 6 30 #[T_,T_,T_,T_,T_,T_,T_,F_,F_,T_,F_,F_,F_] ?_
                 refine pu 7 31 #[T_,T_,T_,T_,T_,T_,T_,T_,F_,T_,F_,F_,F_] ?_
                 refine pu 8 32 (tf 10 3) ?_
                 exact norm_ (by simp only [putAll, Act.put, List.setIfInBounds_toArray, List.set_cons_zero, List.set_cons_succ]) (hCont (.slice Ao50 t323.length co50, .slice Ao51 t326.length co51, .slice Ao52 t329.length co52, v335, v338, v341, gb345) _ ⟨hHeld, (by exact up (Kd.R_mono HO325.out (fun _ hk => by first | exact ⟨hk.1.1, ⟨hk.1.2, hk.2⟩⟩ | (revert hk; simp only [and_imp]; intros; (repeat' (refine And.intro ?_ ?_)) <;> assumption)))), (by exact up (Kd.R_mono HO328.out (fun _ hk => by first | exact ⟨hk.1.1, ⟨hk.1.2, hk.2⟩⟩ | (revert hk; simp only [and_imp]; intros; (repeat' (refine And.intro ?_ ?_)) <;> assumption)))), (by exact up (Kd.R_mono HO331.out (fun _ hk => hk.2))), (by exact up (Kd.R_mono HO336.out (fun _ hk => by first | exact ⟨hk.1.2, ⟨hk.2, hk.1.1⟩⟩ | (revert hk; simp only [and_imp]; intros; (repeat' (refine And.intro ?_ ?_)) <;> assumption)))), (by exact up (Kd.R_mono HO339.out (fun _ hk => by first | exact ⟨hk.1.2, ⟨hk.2, hk.1.1⟩⟩ | (revert hk; simp only [and_imp]; intros; (repeat' (refine And.intro ?_ ?_)) <;> assumption)))), (by exact up (Kd.R_mono HO342.out (fun _ hk => hk.2))), (ub BK320.out), (ub BK321.out), (ub BK345.out), GW345.out, GE345.out, NB320_345.out, NB345_320.out, NB321_345.out, NB345_321.out, bl⟩)
               rintro ⟨v324, v327, v330, v335, v338, v341, gb345⟩ w54 ⟨hS_, h0_, h1_, h2_, h3_, h4_, h5_, h6_, h7_, h8_, h9_, h10_, h11_, h12_, h13_, h14_, h15_⟩
               have n0_ : Aside0 (Kd.R (Kd.int .i64) 3 w54 w.heap.size (fun k_ => some k_ ≠ (v327 : Value).ownBlock ∧ some k_ ≠ (v335 : Value).ownBlock ∧ some k_ ≠ (v338 : Value).ownBlock) v324 t323) := ⟨h0_⟩
               have n1_ : Aside0 (Kd.R (Kd.int .i64) 3 w54 w.heap.size (fun k_ => some k_ ≠ (v324 : Value).ownBlock ∧ some k_ ≠ (v335 : Value).ownBlock ∧ some k_ ≠ (v338 : Value).ownBlock) v327 t326) := ⟨h1_⟩
               have n2_ : Aside0 (Kd.R k50 50 w54 w.heap.size (fun k_ => some k_ ≠ (v341 : Value).ownBlock) v330 t329) := ⟨h2_⟩
               have n3_ : Aside0 (Kd.R (Kd.int .i64) 3 w54 w.heap.size (fun k_ => some k_ ≠ (v324 : Value).ownBlock ∧ some k_ ≠ (v327 : Value).ownBlock ∧ some k_ ≠ (v338 : Value).ownBlock) v335 t334) := ⟨h3_⟩
               have n4_ : Aside0 (Kd.R (Kd.int .i64) 3 w54 w.heap.size (fun k_ => some k_ ≠ (v324 : Value).ownBlock ∧ some k_ ≠ (v327 : Value).ownBlock ∧ some k_ ≠ (v335 : Value).ownBlock) v338 t337) := ⟨h4_⟩
               have n5_ : Aside0 (Kd.R k50 50 w54 w.heap.size (fun k_ => some k_ ≠ (v330 : Value).ownBlock) v341 t340) := ⟨h5_⟩
               have n6_ : Aside0 (w54.heap[gb320]? = some (.cells #[.slice A0_0 l0_0.length c0_0, .slice A0_1 l0_1.length c0_1, .slice A0_2 l0_2.length c0_2] 25 (0, 0))) := ⟨h6_⟩
               have n7_ : Aside0 (w54.heap[gb321]? = some (.cells #[.int .i64 a1_0, .int .i64 a1_1] 37 (0, 0))) := ⟨h7_⟩
               have n8_ : Aside0 (w54.heap[gb345]? = some (.cells #[.slice none 0 0, .slice none 0 0, .slice none 0 0] 29 (0, 0))) := ⟨h8_⟩
               have n9_ : Aside0 (w.heap.size ≤ gb345) := ⟨h9_⟩
               have n10_ : Aside0 (w.heap.size ≤ gb345) := ⟨h10_⟩
               have n11_ : Aside0 (gb320 ≠ gb345) := ⟨h11_⟩
               have n12_ : Aside0 (gb345 ≠ gb320) := ⟨h12_⟩
               have n13_ : Aside0 (gb321 ≠ gb345) := ⟨h13_⟩
               have n14_ : Aside0 (gb345 ≠ gb321) := ⟨h14_⟩
               have n15_ : Aside0 (Below w.heap.size w w54) := ⟨h15_⟩
               clear BK320
               clear BK321
               clear HB
               clear h0_ h1_ h2_ h3_ h4_ h5_ h6_ h7_ h8_ h9_ h10_ h11_ h12_ h13_ h14_ h15_
               have HO325 := n0_
               have HO328 := n1_
               have HO331 := n2_
               have HO336 := n3_
               have HO339 := n4_
               have HO342 := n5_
               have BK320 := n6_
               have BK321 := n7_
               have BK345 := n8_
               have GW345 := n9_
               have GE345 := n10_
               have NB320_345 := n11_
               have NB345_320 := n12_
               have NB321_345 := n13_
               have NB345_321 := n14_
               have HB := n15_
               clear n0_ n1_ n2_ n3_ n4_ n5_ n6_ n7_ n8_ n9_ n10_ n11_ n12_ n13_ n14_ n15_
               have hHeld : w54.cell? ⟨gb320, 0, none⟩ = some (.slice A0_0 l0_0.length c0_0) ∧ w54.cell? ⟨gb320, 1, none⟩ = some (.slice A0_1 l0_1.length c0_1) ∧ w54.cell? ⟨gb320, 2, none⟩ = some (.slice A0_2 l0_2.length c0_2) ∧ w54.cell? ⟨gb321, 0, none⟩ = some (.int .i64 a1_0) ∧ w54.cell? ⟨gb321, 1, none⟩ = some (.int .i64 a1_1) := hS_
               obtain ⟨Ao55, co55, eo55⟩ := Kd.R_slice HO336.out
               (first | subst eo55 | (injection eo55 with f1_ f2_ f3_; have f4_ := f1_.symm; have f5_ := f3_.symm; clear f1_ f2_ f3_; subst f4_; subst f5_))
               obtain ⟨Ao57, co57, eo57⟩ := Kd.R_slice HO339.out
               (first | subst eo57 | (injection eo57 with f1_ f2_ f3_; have f4_ := f1_.symm; have f5_ := f3_.symm; clear f1_ f2_ f3_; subst f4_; subst f5_))
               obtain ⟨Ao59, co59, eo59⟩ := Kd.R_slice HO342.out
               (first | subst eo59 | (injection eo59 with f1_ f2_ f3_; have f4_ := f1_.symm; have f5_ := f3_.symm; clear f1_ f2_ f3_; subst f4_; subst f5_))
               refine norm_ (a' := ?_) ?_ ?_
               rotate_left
               ·simp only [putAll, Act.put, List.setIfInBounds_toArray, List.set_cons_zero, List.set_cons_succ]
                rfl
               refine one_ (i := 10) (N := none) #[T_, T_, T_, T_, T_, T_, T_, T_, T_, T_, T_, F_, F_] rfl rfl (one_of HT_.out (by kernel_rfl)) (by decide) (fun K hK => ?_)
               have hs56 : w54.cell? ⟨gb345, 0, none⟩ = some (.slice none 0 0) := (blk_cell BK345.out 0).trans rfl
               have hfs56 := blk_frozen BK345.out 0
               have hns56_0 := NB320_345.out
               have hns56_1 := NB321_345.out
               have hms56_0 := NB345_320.out
               have hms56_1 := NB345_321.out
               have hs58 : w54.cell? ⟨gb345, 1, none⟩ = some (.slice none 0 0) := (blk_cell BK345.out 1).trans rfl
               have hfs58 := blk_frozen BK345.out 1
               have hns58_0 := NB320_345.out
               have hns58_1 := NB321_345.out
               have hms58_0 := NB345_320.out
               have hms58_1 := NB345_321.out
               have hs60 : w54.cell? ⟨gb345, 2, none⟩ = some (.slice none 0 0) := (blk_cell BK345.out 2).trans rfl
               have hfs60 := blk_frozen BK345.out 2
               have hns60_0 := NB320_345.out
               have hns60_1 := NB321_345.out
               have hms60_0 := NB345_320.out
               have hms60_1 := NB345_321.out
               refine skip_ (w1 := ?_) (by rfl) rfl ?_ ?_
               rotate_left
               ·go_simp
                rfl
               refine hK.out _ _ ⟨((cell_far (p := ⟨gb345, _, none⟩) NB320_345.out _).trans (((cell_far (p := ⟨gb345, _, none⟩) NB320_345.out _).trans (((cell_far (p := ⟨gb345, _, none⟩) NB320_345.out _).trans (hHeld.1)))))), ((cell_far (p := ⟨gb345, _, none⟩) NB320_345.out _).trans (((cell_far (p := ⟨gb345, _, none⟩) NB320_345.out _).trans (((cell_far (p := ⟨gb345, _, none⟩) NB320_345.out _).trans (hHeld.2.1)))))), ((cell_far (p := ⟨gb345, _, none⟩) NB320_345.out _).trans (((cell_far (p := ⟨gb345, _, none⟩) NB320_345.out _).trans (((cell_far (p := ⟨gb345, _, none⟩) NB320_345.out _).trans (hHeld.2.2.1)))))), ((cell_far (p := ⟨gb345, _, none⟩) NB321_345.out _).trans (((cell_far (p := ⟨gb345, _, none⟩) NB321_345.out _).trans (((cell_far (p := ⟨gb345, _, none⟩) NB321_345.out _).trans (hHeld.2.2.2.1)))))), ((cell_far (p := ⟨gb345, _, none⟩) NB321_345.out _).trans (((cell_far (p := ⟨gb345, _, none⟩) NB321_345.out _).trans (((cell_far (p := ⟨gb345, _, none⟩) NB321_345.out _).trans (hHeld.2.2.2.2))))))⟩ (fun hHeld => ?_)
               clear hK K
               refine pu 11 7 (tf 12 1) ?_
               refine pu 12 8 (tf 13 0) ?_
               refine done_ (done_of HT_.out (by kernel_rfl)) ?_
               have hnb61 := NB320_345.out
               have hnc61 := NB345_320.out
               obtain ⟨hcz62_0, hcz62_1, hcz62_2, hfz62_0, hfz62_1, hfz62_2⟩ := bz3 BK320
               try go_wp2_with (first | ((with_reducible refine gate_callee (f := 8) rfl ?_); refine gl (some 34) rfl Try.func8 #[.agg #[.slice A0_0 l0_0.length c0_0, .slice A0_1 l0_1.length c0_1, .slice A0_2 l0_2.length c0_2]] ?_; (with_reducible refine (laws_toCracker.calls k _ _ l0_0 _ _ l0_1 _ _ l0_2 t346 t349 t352 _ ?side1 ?side2 ?side3 ?side4 ?side5 ?side6 A13.out).mono ?_); (case side1 => exact Kd.C_below HR0_0.out bl); (case side2 => exact HC0_0.out); (case side3 => exact Kd.C_below HR0_1.out bl); (case side4 => exact HC0_1.out); (case side5 => exact Kd.C_below HR0_2.out bl); (case side6 => exact HC0_2.out); rintro e w63 ⟨v347, v350, v353, rfl, ho0, ho1, ho2, hb⟩; refine ⟨_, rfl, ?_⟩; have HO348 := mk (Kd.R_lower (Kd.R_new' (Kd.R_new' (Kd.R_new' (Kd.R_new' ho0 (Kd.R_lt (by exact rs1 HO325 BK345))) (Kd.R_lt (by exact rs1 HO328 BK345))) (Kd.R_lt (by exact rs1 HO336 BK345))) (Kd.R_lt (by exact rs1 HO339 BK345))) (below_size bl)); have HO351 := mk (Kd.R_lower (Kd.R_new' (Kd.R_new' (Kd.R_new' (Kd.R_new' ho1 (Kd.R_lt (by exact rs1 HO325 BK345))) (Kd.R_lt (by exact rs1 HO328 BK345))) (Kd.R_lt (by exact rs1 HO336 BK345))) (Kd.R_lt (by exact rs1 HO339 BK345))) (below_size bl)); replace HO325 := mk (Kd.R_mono (Kd.R_told (Kd.R_told (Kd.R_old (by exact rs1 HO325 BK345) hb) (Kd.R_base ho0)) (Kd.R_base ho1)) (fun _ h_ => h_.1)); replace HO328 := mk (Kd.R_mono (Kd.R_told (Kd.R_told (Kd.R_old (by exact rs1 HO328 BK345) hb) (Kd.R_base ho0)) (Kd.R_base ho1)) (fun _ h_ => h_.1)); replace HO336 := mk (Kd.R_mono (Kd.R_told (Kd.R_told (Kd.R_old (by exact rs1 HO336 BK345) hb) (Kd.R_base ho0)) (Kd.R_base ho1)) (fun _ h_ => h_.1)); replace HO339 := mk (Kd.R_mono (Kd.R_told (Kd.R_told (Kd.R_old (by exact rs1 HO339 BK345) hb) (Kd.R_base ho0)) (Kd.R_base ho1)) (fun _ h_ => h_.1)); have HO354 := mk (Kd.R_lower (Kd.R_new' (Kd.R_new' ho2 (Kd.R_lt (by exact rs1 HO331 BK345))) (Kd.R_lt (by exact rs1 HO342 BK345))) (below_size bl)); replace HO331 := mk (Kd.R_elder' (by exact rs1 HO331 BK345) (Kd.R_base ho2) hb); replace HO342 := mk (Kd.R_elder' (by exact rs1 HO342 BK345) (Kd.R_base ho2) hb); replace BK320 := wx BK320 hb; replace BK321 := wx BK321 hb; replace BK345 := mk (blk_below (g := gb345) (o := .cells #[.slice Ao55 t334.length co55, .slice Ao57 t337.length co57, .slice Ao59 t340.length co59] 29 (0, 0)) bq hb); replace HB := wh hb; (try clear hb); (try clear hb2); (try clear hk); (try clear hi); (try clear ho0); (try clear ho1); (try clear ho2); replace HO336 := mk (Kd.R_mono (ok' := (fun k_ => some k_ ≠ (.slice Ao57 t337.length co57 : Value).ownBlock ∧ some k_ ≠ (v347 : Value).ownBlock ∧ some k_ ≠ (v350 : Value).ownBlock)) HO336.out (fun k_ hk => by first | exact ⟨hk.1.1.2.2, ⟨hk.1.2, hk.2⟩⟩ | (revert hk; simp only [and_imp]; intros; (repeat' (refine And.intro ?_ ?_)) <;> assumption))); replace HO339 := mk (Kd.R_mono (ok' := (fun k_ => some k_ ≠ (.slice Ao55 t334.length co55 : Value).ownBlock ∧ some k_ ≠ (v347 : Value).ownBlock ∧ some k_ ≠ (v350 : Value).ownBlock)) HO339.out (fun k_ hk => by first | exact ⟨hk.1.1.2.2, ⟨hk.1.2, hk.2⟩⟩ | (revert hk; simp only [and_imp]; intros; (repeat' (refine And.intro ?_ ?_)) <;> assumption))); replace HO342 := mk (Kd.R_mono (ok' := (fun k_ => some k_ ≠ (v353 : Value).ownBlock)) HO342.out (fun k_ hk => hk.2)); replace HO348 := mk (Kd.R_mono (ok' := (fun k_ => some k_ ≠ (.slice Ao55 t334.length co55 : Value).ownBlock ∧ some k_ ≠ (.slice Ao57 t337.length co57 : Value).ownBlock ∧ some k_ ≠ (v350 : Value).ownBlock)) HO348.out (fun k_ hk => by first | exact ⟨hk.1.2, ⟨hk.2, hk.1.1.1.1⟩⟩ | (revert hk; simp only [and_imp]; intros; (repeat' (refine And.intro ?_ ?_)) <;> assumption))); replace HO351 := mk (Kd.R_mono (ok' := (fun k_ => some k_ ≠ (.slice Ao55 t334.length co55 : Value).ownBlock ∧ some k_ ≠ (.slice Ao57 t337.length co57 : Value).ownBlock ∧ some k_ ≠ (v347 : Value).ownBlock)) HO351.out (fun k_ hk => by first | exact ⟨hk.1.2, ⟨hk.2, hk.1.1.1.1⟩⟩ | (revert hk; simp only [and_imp]; intros; (repeat' (refine And.intro ?_ ?_)) <;> assumption))); replace HO354 := mk (Kd.R_mono (ok' := (fun k_ => some k_ ≠ (.slice Ao59 t340.length co59 : Value).ownBlock)) HO354.out (fun k_ hk => hk.2)); clear HO325; clear HO328; clear HO331) | ((with_reducible refine gate_dst (N := 9) rfl ?_); refine bx 9 #[.slice none 0 0, .slice none 0 0, .slice none 0 0] 29 ?_; intro gb355 hg w64 hbox hb; replace HO336 := mk (Kd.R_below (up HO336.out) hb); replace HO339 := mk (Kd.R_below (up HO339.out) hb); replace HO342 := mk (Kd.R_below (up HO342.out) hb); replace HO348 := mk (Kd.R_below (up HO348.out) hb); replace HO351 := mk (Kd.R_below (up HO351.out) hb); replace HO354 := mk (Kd.R_below (up HO354.out) hb); have BK355 := mk hbox; have GW355 := wg hg; have GE355 := wg hg; replace HB := wh hb; have NB320_355 := nl BK320 hg; have NB355_320 := nr BK320 hg; replace BK320 := wb BK320 hb; have NB321_355 := nl BK321 hg; have NB355_321 := nr BK321 hg; replace BK321 := wb BK321 hb; have NB345_355 := nl BK345 hg; have NB355_345 := nr BK345 hg; replace BK345 := wb BK345 hb; clear hb hbox hg; obtain ⟨Ao65, co65, eo65⟩ := Kd.R_slice HO348.out; subst eo65; have hnb66 := NB355_320.out; have hnc66 := NB320_355.out; have hnb67 := NB355_321.out; have hnc67 := NB321_355.out; have hnb68 := NB355_345.out; have hnc68 := NB345_355.out; obtain ⟨hcz69_0, hcz69_1, hcz69_2, hfz69_0, hfz69_1, hfz69_2⟩ := bz3 BK355; obtain ⟨Ao70, co70, eo70⟩ := Kd.R_slice HO351.out; subst eo70; obtain ⟨Ao71, co71, eo71⟩ := Kd.R_slice HO354.out; subst eo71))
               have n0_ : Aside0 (Kd.R (Kd.int .i64) 3 (((w64.setCell ⟨gb355, 0, none⟩ (.slice Ao65 t346.length co65)).setCell ⟨gb355, 1, none⟩ (.slice Ao70 t349.length co70)).setCell ⟨gb355, 2, none⟩ (.slice Ao71 t352.length co71)) w.heap.size (fun k_ => some k_ ≠ (.slice Ao57 t337.length co57 : Value).ownBlock ∧ some k_ ≠ (.slice Ao65 t346.length co65 : Value).ownBlock ∧ some k_ ≠ (.slice Ao70 t349.length co70 : Value).ownBlock) (.slice Ao55 t334.length co55) t334) := ⟨(by exact rm (rs1 HO336 BK355))⟩
               have n1_ : Aside0 (Kd.R (Kd.int .i64) 3 (((w64.setCell ⟨gb355, 0, none⟩ (.slice Ao65 t346.length co65)).setCell ⟨gb355, 1, none⟩ (.slice Ao70 t349.length co70)).setCell ⟨gb355, 2, none⟩ (.slice Ao71 t352.length co71)) w.heap.size (fun k_ => some k_ ≠ (.slice Ao55 t334.length co55 : Value).ownBlock ∧ some k_ ≠ (.slice Ao65 t346.length co65 : Value).ownBlock ∧ some k_ ≠ (.slice Ao70 t349.length co70 : Value).ownBlock) (.slice Ao57 t337.length co57) t337) := ⟨(by exact rm (rs1 HO339 BK355))⟩
               have n2_ : Aside0 (Kd.R k50 50 (((w64.setCell ⟨gb355, 0, none⟩ (.slice Ao65 t346.length co65)).setCell ⟨gb355, 1, none⟩ (.slice Ao70 t349.length co70)).setCell ⟨gb355, 2, none⟩ (.slice Ao71 t352.length co71)) w.heap.size (fun k_ => some k_ ≠ (.slice Ao71 t352.length co71 : Value).ownBlock) (.slice Ao59 t340.length co59) t340) := ⟨(by exact rm (rs1 HO342 BK355))⟩
               have n3_ : Aside0 (Kd.R (Kd.int .i64) 3 (((w64.setCell ⟨gb355, 0, none⟩ (.slice Ao65 t346.length co65)).setCell ⟨gb355, 1, none⟩ (.slice Ao70 t349.length co70)).setCell ⟨gb355, 2, none⟩ (.slice Ao71 t352.length co71)) w.heap.size (fun k_ => some k_ ≠ (.slice Ao55 t334.length co55 : Value).ownBlock ∧ some k_ ≠ (.slice Ao57 t337.length co57 : Value).ownBlock ∧ some k_ ≠ (.slice Ao70 t349.length co70 : Value).ownBlock) (.slice Ao65 t346.length co65) t346) := ⟨(by exact rm (rs1 HO348 BK355))⟩
               have n4_ : Aside0 (Kd.R (Kd.int .i64) 3 (((w64.setCell ⟨gb355, 0, none⟩ (.slice Ao65 t346.length co65)).setCell ⟨gb355, 1, none⟩ (.slice Ao70 t349.length co70)).setCell ⟨gb355, 2, none⟩ (.slice Ao71 t352.length co71)) w.heap.size (fun k_ => some k_ ≠ (.slice Ao55 t334.length co55 : Value).ownBlock ∧ some k_ ≠ (.slice Ao57 t337.length co57 : Value).ownBlock ∧ some k_ ≠ (.slice Ao65 t346.length co65 : Value).ownBlock) (.slice Ao70 t349.length co70) t349) := ⟨(by exact rm (rs1 HO351 BK355))⟩
               have n5_ : Aside0 (Kd.R k50 50 (((w64.setCell ⟨gb355, 0, none⟩ (.slice Ao65 t346.length co65)).setCell ⟨gb355, 1, none⟩ (.slice Ao70 t349.length co70)).setCell ⟨gb355, 2, none⟩ (.slice Ao71 t352.length co71)) w.heap.size (fun k_ => some k_ ≠ (.slice Ao59 t340.length co59 : Value).ownBlock) (.slice Ao71 t352.length co71) t352) := ⟨(by exact rm (rs1 HO354 BK355))⟩
               have n6_ : Aside0 ((((w64.setCell ⟨gb355, 0, none⟩ (.slice Ao65 t346.length co65)).setCell ⟨gb355, 1, none⟩ (.slice Ao70 t349.length co70)).setCell ⟨gb355, 2, none⟩ (.slice Ao71 t352.length co71)).heap[gb320]? = some (.cells #[.slice A0_0 l0_0.length c0_0, .slice A0_1 l0_1.length c0_1, .slice A0_2 l0_2.length c0_2] 25 (0, 0))) := ⟨bq⟩
               have n7_ : Aside0 ((((w64.setCell ⟨gb355, 0, none⟩ (.slice Ao65 t346.length co65)).setCell ⟨gb355, 1, none⟩ (.slice Ao70 t349.length co70)).setCell ⟨gb355, 2, none⟩ (.slice Ao71 t352.length co71)).heap[gb321]? = some (.cells #[.int .i64 a1_0, .int .i64 a1_1] 37 (0, 0))) := ⟨bq⟩
               have n8_ : Aside0 ((((w64.setCell ⟨gb355, 0, none⟩ (.slice Ao65 t346.length co65)).setCell ⟨gb355, 1, none⟩ (.slice Ao70 t349.length co70)).setCell ⟨gb355, 2, none⟩ (.slice Ao71 t352.length co71)).heap[gb345]? = some (.cells #[.slice Ao55 t334.length co55, .slice Ao57 t337.length co57, .slice Ao59 t340.length co59] 29 (0, 0))) := ⟨bq⟩
               have n9_ : Aside0 ((((w64.setCell ⟨gb355, 0, none⟩ (.slice Ao65 t346.length co65)).setCell ⟨gb355, 1, none⟩ (.slice Ao70 t349.length co70)).setCell ⟨gb355, 2, none⟩ (.slice Ao71 t352.length co71)).heap[gb355]? = some (.cells #[.slice Ao65 t346.length co65, .slice Ao70 t349.length co70, .slice Ao71 t352.length co71] 29 (0, 0))) := ⟨bq⟩
               have n10_ : Aside0 (Below w.heap.size w (((w64.setCell ⟨gb355, 0, none⟩ (.slice Ao65 t346.length co65)).setCell ⟨gb355, 1, none⟩ (.slice Ao70 t349.length co70)).setCell ⟨gb355, 2, none⟩ (.slice Ao71 t352.length co71))) := ⟨bl⟩
               (try clear HO336)
               (try clear HO339)
               (try clear HO342)
               (try clear HO348)
               (try clear HO351)
               (try clear HO354)
               (try clear BK320)
               (try clear BK321)
               (try clear BK345)
               (try clear BK355)
               (try clear HB)
               generalize (((w64.setCell ⟨gb355, 0, none⟩ (.slice Ao65 t346.length co65)).setCell ⟨gb355, 1, none⟩ (.slice Ao70 t349.length co70)).setCell ⟨gb355, 2, none⟩ (.slice Ao71 t352.length co71)) = w72 at n0_ n1_ n2_ n3_ n4_ n5_ n6_ n7_ n8_ n9_ n10_ ⊢
               have HO336 := n0_
               have HO339 := n1_
               have HO342 := n2_
               have HO348 := n3_
               have HO351 := n4_
               have HO354 := n5_
               have BK320 := n6_
               have BK321 := n7_
               have BK345 := n8_
               have BK355 := n9_
               have HB := n10_
               clear n0_ n1_ n2_ n3_ n4_ n5_ n6_ n7_ n8_ n9_ n10_
               replace HO336 := mk (Kd.R_drew HO336.out)
               replace HO339 := mk (Kd.R_drew HO339.out)
               replace HO342 := mk (Kd.R_drew HO342.out)
               replace HO348 := mk (Kd.R_drew HO348.out)
               replace HO351 := mk (Kd.R_drew HO351.out)
               replace HO354 := mk (Kd.R_drew HO354.out)
               replace BK320 := wd BK320
               replace BK321 := wd BK321
               replace BK345 := wd BK345
               replace BK355 := wd BK355
               replace HB := mk (below_drew1 HB.out)
               refine start_ (n := 12) (S := fun w' => w'.cell? ⟨gb355, 0, none⟩ = some (.slice Ao65 t346.length co65) ∧ w'.cell? ⟨gb355, 1, none⟩ = some (.slice Ao70 t349.length co70) ∧ w'.cell? ⟨gb355, 2, none⟩ = some (.slice Ao71 t352.length co71) ∧ w'.cell? ⟨gb321, 0, none⟩ = some (.int .i64 a1_0) ∧ w'.cell? ⟨gb321, 1, none⟩ = some (.int .i64 a1_1)) (ds := []) #[F_, F_, F_, F_, F_, F_, F_, F_, F_, F_, F_, F_] (by kernel_rfl) rfl rfl ⟨(blk_cell BK355.out 0).trans rfl, (blk_cell BK355.out 1).trans rfl, (blk_cell BK355.out 2).trans rfl, (blk_cell BK321.out 0).trans rfl, (blk_cell BK321.out 1).trans rfl⟩ (fun hHeld => ?_); refine with_tabW laws_FnExactRippleInsert.tab7 laws_FnExactRippleInsert.bits7 (fun HT_ HW_ => ?_)
               generalize w72.drew = w73 at HO336 HO339 HO342 HO348 HO351 HO354 BK320 BK321 BK345 BK355 HB hHeld ⊢
               refine tk 0 36 (tf 1 11) hHeld ?_
               refine tk 1 37 (tf 2 10) hHeld ?_
               refine join_ (σ := Value × Value × Value × Nat) 3 #[T_, T_, T_, T_, T_, T_, T_, T_, T_, F_, F_, F_] (fun s_ => [(38, .agg #[.int .i64 t356, .int .i64 t357]), (39, .tuple #[.agg #[s_.1, s_.2.1, s_.2.2.1], .int .i64 t367, .bool t368]), (10, .pointer (some ⟨s_.2.2.2, 0, none⟩)), (35, .tuple #[.agg #[s_.1, s_.2.1, s_.2.2.1], .int .i64 t367, .bool t368]), (40, .agg #[s_.1, s_.2.1, s_.2.2.1]), (41, .int .i64 t367), (42, .bool t368)]) (fun s_ w' => (w'.cell? ⟨gb355, 0, none⟩ = some (.slice Ao65 t346.length co65) ∧ w'.cell? ⟨gb355, 1, none⟩ = some (.slice Ao70 t349.length co70) ∧ w'.cell? ⟨gb355, 2, none⟩ = some (.slice Ao71 t352.length co71) ∧ w'.cell? ⟨gb321, 0, none⟩ = some (.int .i64 a1_0) ∧ w'.cell? ⟨gb321, 1, none⟩ = some (.int .i64 a1_1)) ∧ (Kd.R (Kd.int .i64) 3 w' w.heap.size (fun k_ => some k_ ≠ (.slice Ao57 t337.length co57 : Value).ownBlock ∧ some k_ ≠ (.slice Ao65 t346.length co65 : Value).ownBlock ∧ some k_ ≠ (.slice Ao70 t349.length co70 : Value).ownBlock ∧ some k_ ≠ (s_.1 : Value).ownBlock ∧ some k_ ≠ (s_.2.1 : Value).ownBlock) (.slice Ao55 t334.length co55) t334) ∧ (Kd.R (Kd.int .i64) 3 w' w.heap.size (fun k_ => some k_ ≠ (.slice Ao55 t334.length co55 : Value).ownBlock ∧ some k_ ≠ (.slice Ao65 t346.length co65 : Value).ownBlock ∧ some k_ ≠ (.slice Ao70 t349.length co70 : Value).ownBlock ∧ some k_ ≠ (s_.1 : Value).ownBlock ∧ some k_ ≠ (s_.2.1 : Value).ownBlock) (.slice Ao57 t337.length co57) t337) ∧ (Kd.R k50 50 w' w.heap.size (fun k_ => some k_ ≠ (.slice Ao71 t352.length co71 : Value).ownBlock ∧ some k_ ≠ (s_.2.2.1 : Value).ownBlock) (.slice Ao59 t340.length co59) t340) ∧ (Kd.R (Kd.int .i64) 3 w' w.heap.size (fun k_ => some k_ ≠ (.slice Ao55 t334.length co55 : Value).ownBlock ∧ some k_ ≠ (.slice Ao57 t337.length co57 : Value).ownBlock ∧ some k_ ≠ (.slice Ao70 t349.length co70 : Value).ownBlock ∧ some k_ ≠ (s_.1 : Value).ownBlock ∧ some k_ ≠ (s_.2.1 : Value).ownBlock) (.slice Ao65 t346.length co65) t346) ∧ (Kd.R (Kd.int .i64) 3 w' w.heap.size (fun k_ => some k_ ≠ (.slice Ao55 t334.length co55 : Value).ownBlock ∧ some k_ ≠ (.slice Ao57 t337.length co57 : Value).ownBlock ∧ some k_ ≠ (.slice Ao65 t346.length co65 : Value).ownBlock ∧ some k_ ≠ (s_.1 : Value).ownBlock ∧ some k_ ≠ (s_.2.1 : Value).ownBlock) (.slice Ao70 t349.length co70) t349) ∧ (Kd.R k50 50 w' w.heap.size (fun k_ => some k_ ≠ (.slice Ao59 t340.length co59 : Value).ownBlock ∧ some k_ ≠ (s_.2.2.1 : Value).ownBlock) (.slice Ao71 t352.length co71) t352) ∧ (Kd.R (Kd.int .i64) 3 w' w.heap.size (fun k_ => some k_ ≠ (.slice Ao55 t334.length co55 : Value).ownBlock ∧ some k_ ≠ (.slice Ao57 t337.length co57 : Value).ownBlock ∧ some k_ ≠ (.slice Ao65 t346.length co65 : Value).ownBlock ∧ some k_ ≠ (.slice Ao70 t349.length co70 : Value).ownBlock ∧ some k_ ≠ (s_.2.1 : Value).ownBlock) s_.1 t358) ∧ (Kd.R (Kd.int .i64) 3 w' w.heap.size (fun k_ => some k_ ≠ (.slice Ao55 t334.length co55 : Value).ownBlock ∧ some k_ ≠ (.slice Ao57 t337.length co57 : Value).ownBlock ∧ some k_ ≠ (.slice Ao65 t346.length co65 : Value).ownBlock ∧ some k_ ≠ (.slice Ao70 t349.length co70 : Value).ownBlock ∧ some k_ ≠ (s_.1 : Value).ownBlock) s_.2.1 t361) ∧ (Kd.R k50 50 w' w.heap.size (fun k_ => some k_ ≠ (.slice Ao59 t340.length co59 : Value).ownBlock ∧ some k_ ≠ (.slice Ao71 t352.length co71 : Value).ownBlock) s_.2.2.1 t364) ∧ (w'.heap[gb320]? = some (.cells #[.slice A0_0 l0_0.length c0_0, .slice A0_1 l0_1.length c0_1, .slice A0_2 l0_2.length c0_2] 25 (0, 0))) ∧ (w'.heap[gb321]? = some (.cells #[.int .i64 a1_0, .int .i64 a1_1] 37 (0, 0))) ∧ (w'.heap[gb345]? = some (.cells #[.slice Ao55 t334.length co55, .slice Ao57 t337.length co57, .slice Ao59 t340.length co59] 29 (0, 0))) ∧ (w'.heap[gb355]? = some (.cells #[.slice Ao65 t346.length co65, .slice Ao70 t349.length co70, .slice Ao71 t352.length co71] 29 (0, 0))) ∧ (w'.heap[s_.2.2.2]? = some (.cells #[.slice none 0 0, .slice none 0 0, .slice none 0 0] 29 (0, 0))) ∧ (w.heap.size ≤ s_.2.2.2) ∧ (w.heap.size ≤ s_.2.2.2) ∧ (gb320 ≠ s_.2.2.2) ∧ (s_.2.2.2 ≠ gb320) ∧ (gb321 ≠ s_.2.2.2) ∧ (s_.2.2.2 ≠ gb321) ∧ (gb345 ≠ s_.2.2.2) ∧ (s_.2.2.2 ≠ gb345) ∧ (gb355 ≠ s_.2.2.2) ∧ (s_.2.2.2 ≠ gb355) ∧ (Below w.heap.size w w')) ?_ ?_
               rotate_left
               ·intro hCont
                refine two_ (i := 2) (j := 8) (Ni := some 38) (Nj := some 10) #[T_, T_, T_, F_, F_, F_, F_, F_, F_, F_, F_, F_] #[T_, T_, F_, F_, F_, F_, F_, F_, T_, F_, F_, F_] rfl rfl rfl rfl (two_of HT_.out (by kernel_rfl)) (by decide) (by decide) (fun K hK => ?_) (fun K hK => ?_)
                ·skip
                 refine gs Try.func14 #[.agg #[.int .i64 a1_0, .int .i64 a1_1]] ?_
                 with_reducible refine (laws_toItem.calls a1_0 a1_1 t356 t357 _ A14.out).mono ?_
                 rintro e w74 ⟨rfl, hb⟩
                 refine ⟨_, rfl, ?_⟩
                 replace HO336 := mk (Kd.R_below (up HO336.out) hb)
                 replace HO339 := mk (Kd.R_below (up HO339.out) hb)
                 replace HO342 := mk (Kd.R_below (up HO342.out) hb)
                 replace HO348 := mk (Kd.R_below (up HO348.out) hb)
                 replace HO351 := mk (Kd.R_below (up HO351.out) hb)
                 replace HO354 := mk (Kd.R_below (up HO354.out) hb)
                 replace BK320 := wb BK320 hb
                 replace BK321 := wb BK321 hb
                 replace BK345 := wb BK345 hb
                 replace BK355 := wb BK355 hb
                 replace HB := wh hb
                 (try clear hb)
                 (try clear hb2)
                 (try clear hk)
                 (try clear hi)
                 refine hK.out _ _ ⟨(blk_cell BK355.out 0).trans rfl, (blk_cell BK355.out 1).trans rfl, (blk_cell BK355.out 2).trans rfl, (blk_cell BK321.out 0).trans rfl, (blk_cell BK321.out 1).trans rfl⟩ (fun hHeld => ?_)
                 clear hK K
                 refine nm 38 ?_
                 refine two_ (i := 3) (j := 8) (Ni := some 39) (Nj := some 10) #[T_, T_, T_, T_, F_, F_, F_, F_, F_, F_, F_, F_] #[T_, T_, T_, F_, F_, F_, F_, F_, T_, F_, F_, F_] rfl rfl rfl rfl (two_of HT_.out (by kernel_rfl)) (by decide) (by decide) (fun K hK => ?_) (fun K hK => ?_)
                 ·skip
                  refine gs Try.func15 #[.agg #[.slice Ao65 t346.length co65, .slice Ao70 t349.length co70, .slice Ao71 t352.length co71], .agg #[.int .i64 t356, .int .i64 t357]] ?_
                  with_reducible refine (impl_RippleInsert.calls k _ _ t346 _ _ t349 _ _ t352 t356 t357 t358 t361 t364 t367 t368 _ ?side1 ?side2 ?side3 ?side4 ?side5 ?side6 A15.out).mono ?_
                  (case side1 => exact uc (Kd.R_reads' HO348.out).2.2)
                  (case side2 => exact (Kd.R_reads' HO348.out).2.1)
                  (case side3 => exact uc (Kd.R_reads' HO351.out).2.2)
                  (case side4 => exact (Kd.R_reads' HO351.out).2.1)
                  (case side5 => exact uc (Kd.R_reads' HO354.out).2.2)
                  (case side6 => exact (Kd.R_reads' HO354.out).2.1)
                  rintro e w75 ⟨v359, v362, v365, rfl, ho0, ho1, ho2, hb⟩
                  refine ⟨_, rfl, ?_⟩
                  have HO360 := mk (Kd.R_lower (Kd.R_new' (Kd.R_new' (Kd.R_new' (Kd.R_new' ho0 (Kd.R_lt (up HO336.out))) (Kd.R_lt (up HO339.out))) (Kd.R_lt (up HO348.out))) (Kd.R_lt (up HO351.out))) (below_size bl))
                  have HO363 := mk (Kd.R_lower (Kd.R_new' (Kd.R_new' (Kd.R_new' (Kd.R_new' ho1 (Kd.R_lt (up HO336.out))) (Kd.R_lt (up HO339.out))) (Kd.R_lt (up HO348.out))) (Kd.R_lt (up HO351.out))) (below_size bl))
                  replace HO336 := mk (Kd.R_mono (Kd.R_told (Kd.R_told (Kd.R_old (up HO336.out) hb) (Kd.R_base ho0)) (Kd.R_base ho1)) (fun _ h_ => h_.1))
                  replace HO339 := mk (Kd.R_mono (Kd.R_told (Kd.R_told (Kd.R_old (up HO339.out) hb) (Kd.R_base ho0)) (Kd.R_base ho1)) (fun _ h_ => h_.1))
                  replace HO348 := mk (Kd.R_mono (Kd.R_told (Kd.R_told (Kd.R_old (up HO348.out) hb) (Kd.R_base ho0)) (Kd.R_base ho1)) (fun _ h_ => h_.1))
                  replace HO351 := mk (Kd.R_mono (Kd.R_told (Kd.R_told (Kd.R_old (up HO351.out) hb) (Kd.R_base ho0)) (Kd.R_base ho1)) (fun _ h_ => h_.1))
                  have HO366 := mk (Kd.R_lower (Kd.R_new' (Kd.R_new' ho2 (Kd.R_lt (up HO342.out))) (Kd.R_lt (up HO354.out))) (below_size bl))
                  replace HO342 := mk (Kd.R_elder' (up HO342.out) (Kd.R_base ho2) hb)
                  replace HO354 := mk (Kd.R_elder' (up HO354.out) (Kd.R_base ho2) hb)
                  replace BK320 := wb BK320 hb
                  replace BK321 := wb BK321 hb
                  replace BK345 := wb BK345 hb
                  replace BK355 := wb BK355 hb
                  replace HB := wh hb
                  (try clear hb)
                  (try clear hb2)
                  (try clear hk)
                  (try clear hi)
                  (try clear ho0)
                  (try clear ho1)
                  (try clear ho2)
                  refine hK.out _ _ ⟨(blk_cell BK355.out 0).trans rfl, (blk_cell BK355.out 1).trans rfl, (blk_cell BK355.out 2).trans rfl, (blk_cell BK321.out 0).trans rfl, (blk_cell BK321.out 1).trans rfl⟩ (fun hHeld => ?_)
                  clear hK K
                  refine nm 39 ?_
                  refine pu 4 35 (tf 5 7) ?_
                  refine pu 5 40 (tf 6 6) ?_
                  refine pu 6 41 (tf 7 5) ?_
                  refine pu 7 42 (tf 8 4) ?_
                  refine on 8 10 (tf 9 3) (fun K hK => ?_)
                  refine box_step ?hg (N := 10) ?hd (cs := #[.slice none 0 0, .slice none 0 0, .slice none 0 0]) (t := 29) ?hr ?_; (case hd => rfl); (case hg => rfl); (case hr => first | (go_simp; done) | (go_simp; rfl))
                  intro gb369 hg w76 hbox hb
                  replace HO336 := mk (Kd.R_below (up HO336.out) hb)
                  replace HO339 := mk (Kd.R_below (up HO339.out) hb)
                  replace HO342 := mk (Kd.R_below (up HO342.out) hb)
                  replace HO348 := mk (Kd.R_below (up HO348.out) hb)
                  replace HO351 := mk (Kd.R_below (up HO351.out) hb)
                  replace HO354 := mk (Kd.R_below (up HO354.out) hb)
                  replace HO360 := mk (Kd.R_below (up HO360.out) hb)
                  replace HO363 := mk (Kd.R_below (up HO363.out) hb)
                  replace HO366 := mk (Kd.R_below (up HO366.out) hb)
                  have BK369 := mk hbox
                  have GW369 := wg hg
                  have GE369 := wg hg
                  replace HB := wh hb
                  have NB320_369 := nl BK320 hg
                  have NB369_320 := nr BK320 hg
                  replace BK320 := wb BK320 hb
                  have NB321_369 := nl BK321 hg
                  have NB369_321 := nr BK321 hg
                  replace BK321 := wb BK321 hb
                  have NB345_369 := nl BK345 hg
                  have NB369_345 := nr BK345 hg
                  replace BK345 := wb BK345 hb
                  have NB355_369 := nl BK355 hg
                  have NB369_355 := nr BK355 hg
                  replace BK355 := wb BK355 hb
                  clear hb hbox hg
                  refine hK.out _ _ ⟨(blk_cell BK355.out 0).trans rfl, (blk_cell BK355.out 1).trans rfl, (blk_cell BK355.out 2).trans rfl, (blk_cell BK321.out 0).trans rfl, (blk_cell BK321.out 1).trans rfl⟩ (fun hHeld => ?_)
                  clear hK K
                  refine nm 10 ?_
                  exact norm_ (by simp only [putAll, Act.put, List.setIfInBounds_toArray, List.set_cons_zero, List.set_cons_succ]) (hCont (v359, v362, v365, gb369) _ ⟨hHeld, (by exact up (Kd.R_mono HO336.out (fun _ hk => by first | exact ⟨hk.1.1.1, ⟨hk.1.1.2.1, ⟨hk.1.1.2.2, ⟨hk.1.2, hk.2⟩⟩⟩⟩ | (revert hk; simp only [and_imp]; intros; (repeat' (refine And.intro ?_ ?_)) <;> assumption)))), (by exact up (Kd.R_mono HO339.out (fun _ hk => by first | exact ⟨hk.1.1.1, ⟨hk.1.1.2.1, ⟨hk.1.1.2.2, ⟨hk.1.2, hk.2⟩⟩⟩⟩ | (revert hk; simp only [and_imp]; intros; (repeat' (refine And.intro ?_ ?_)) <;> assumption)))), (up HO342.out), (by exact up (Kd.R_mono HO348.out (fun _ hk => by first | exact ⟨hk.1.1.1, ⟨hk.1.1.2.1, ⟨hk.1.1.2.2, ⟨hk.1.2, hk.2⟩⟩⟩⟩ | (revert hk; simp only [and_imp]; intros; (repeat' (refine And.intro ?_ ?_)) <;> assumption)))), (by exact up (Kd.R_mono HO351.out (fun _ hk => by first | exact ⟨hk.1.1.1, ⟨hk.1.1.2.1, ⟨hk.1.1.2.2, ⟨hk.1.2, hk.2⟩⟩⟩⟩ | (revert hk; simp only [and_imp]; intros; (repeat' (refine And.intro ?_ ?_)) <;> assumption)))), (up HO354.out), (by exact up (Kd.R_mono HO360.out (fun _ hk => by first | exact ⟨hk.1.1.1.2, ⟨hk.1.1.2, ⟨hk.1.2, ⟨hk.2, hk.1.1.1.1⟩⟩⟩⟩ | (revert hk; simp only [and_imp]; intros; (repeat' (refine And.intro ?_ ?_)) <;> assumption)))), (by exact up (Kd.R_mono HO363.out (fun _ hk => by first | exact ⟨hk.1.1.1.2, ⟨hk.1.1.2, ⟨hk.1.2, ⟨hk.2, hk.1.1.1.1⟩⟩⟩⟩ | (revert hk; simp only [and_imp]; intros; (repeat' (refine And.intro ?_ ?_)) <;> assumption)))), (by exact up (Kd.R_mono HO366.out (fun _ hk => by first | exact ⟨hk.1.2, hk.2⟩ | (revert hk; simp only [and_imp]; intros; (repeat' (refine And.intro ?_ ?_)) <;> assumption)))), (ub BK320.out), (ub BK321.out), (ub BK345.out), (ub BK355.out), (ub BK369.out), GW369.out, GE369.out, NB320_369.out, NB369_320.out, NB321_369.out, NB369_321.out, NB345_369.out, NB369_345.out, NB355_369.out, NB369_355.out, bl⟩)
                 ·skip
                  refine box_step ?hg (N := 10) ?hd (cs := #[.slice none 0 0, .slice none 0 0, .slice none 0 0]) (t := 29) ?hr ?_; (case hd => rfl); (case hg => rfl); (case hr => first | (go_simp; done) | (go_simp; rfl))
                  intro gb369 hg w75 hbox hb
                  replace HO336 := mk (Kd.R_below (up HO336.out) hb)
                  replace HO339 := mk (Kd.R_below (up HO339.out) hb)
                  replace HO342 := mk (Kd.R_below (up HO342.out) hb)
                  replace HO348 := mk (Kd.R_below (up HO348.out) hb)
                  replace HO351 := mk (Kd.R_below (up HO351.out) hb)
                  replace HO354 := mk (Kd.R_below (up HO354.out) hb)
                  have BK369 := mk hbox
                  have GW369 := wg hg
                  have GE369 := wg hg
                  replace HB := wh hb
                  have NB320_369 := nl BK320 hg
                  have NB369_320 := nr BK320 hg
                  replace BK320 := wb BK320 hb
                  have NB321_369 := nl BK321 hg
                  have NB369_321 := nr BK321 hg
                  replace BK321 := wb BK321 hb
                  have NB345_369 := nl BK345 hg
                  have NB369_345 := nr BK345 hg
                  replace BK345 := wb BK345 hb
                  have NB355_369 := nl BK355 hg
                  have NB369_355 := nr BK355 hg
                  replace BK355 := wb BK355 hb
                  clear hb hbox hg
                  refine hK.out _ _ ⟨(blk_cell BK355.out 0).trans rfl, (blk_cell BK355.out 1).trans rfl, (blk_cell BK355.out 2).trans rfl, (blk_cell BK321.out 0).trans rfl, (blk_cell BK321.out 1).trans rfl⟩ (fun hHeld => ?_)
                  clear hK K
                  refine nm 10 ?_
                  refine on 3 39 #[T_,T_,T_,T_,F_,F_,F_,F_,T_,F_,F_,F_] (fun K hK => ?_)
                  refine gs Try.func15 #[.agg #[.slice Ao65 t346.length co65, .slice Ao70 t349.length co70, .slice Ao71 t352.length co71], .agg #[.int .i64 t356, .int .i64 t357]] ?_
                  with_reducible refine (impl_RippleInsert.calls k _ _ t346 _ _ t349 _ _ t352 t356 t357 t358 t361 t364 t367 t368 _ ?side1 ?side2 ?side3 ?side4 ?side5 ?side6 A15.out).mono ?_
                  (case side1 => exact uc (Kd.R_reads' HO348.out).2.2)
                  (case side2 => exact (Kd.R_reads' HO348.out).2.1)
                  (case side3 => exact uc (Kd.R_reads' HO351.out).2.2)
                  (case side4 => exact (Kd.R_reads' HO351.out).2.1)
                  (case side5 => exact uc (Kd.R_reads' HO354.out).2.2)
                  (case side6 => exact (Kd.R_reads' HO354.out).2.1)
                  rintro e w76 ⟨v359, v362, v365, rfl, ho0, ho1, ho2, hb⟩
                  refine ⟨_, rfl, ?_⟩
                  have HO360 := mk (Kd.R_lower (Kd.R_new' (Kd.R_new' (Kd.R_new' (Kd.R_new' ho0 (Kd.R_lt (up HO336.out))) (Kd.R_lt (up HO339.out))) (Kd.R_lt (up HO348.out))) (Kd.R_lt (up HO351.out))) (below_size bl))
                  have HO363 := mk (Kd.R_lower (Kd.R_new' (Kd.R_new' (Kd.R_new' (Kd.R_new' ho1 (Kd.R_lt (up HO336.out))) (Kd.R_lt (up HO339.out))) (Kd.R_lt (up HO348.out))) (Kd.R_lt (up HO351.out))) (below_size bl))
                  replace HO336 := mk (Kd.R_mono (Kd.R_told (Kd.R_told (Kd.R_old (up HO336.out) hb) (Kd.R_base ho0)) (Kd.R_base ho1)) (fun _ h_ => h_.1))
                  replace HO339 := mk (Kd.R_mono (Kd.R_told (Kd.R_told (Kd.R_old (up HO339.out) hb) (Kd.R_base ho0)) (Kd.R_base ho1)) (fun _ h_ => h_.1))
                  replace HO348 := mk (Kd.R_mono (Kd.R_told (Kd.R_told (Kd.R_old (up HO348.out) hb) (Kd.R_base ho0)) (Kd.R_base ho1)) (fun _ h_ => h_.1))
                  replace HO351 := mk (Kd.R_mono (Kd.R_told (Kd.R_told (Kd.R_old (up HO351.out) hb) (Kd.R_base ho0)) (Kd.R_base ho1)) (fun _ h_ => h_.1))
                  have HO366 := mk (Kd.R_lower (Kd.R_new' (Kd.R_new' ho2 (Kd.R_lt (up HO342.out))) (Kd.R_lt (up HO354.out))) (below_size bl))
                  replace HO342 := mk (Kd.R_elder' (up HO342.out) (Kd.R_base ho2) hb)
                  replace HO354 := mk (Kd.R_elder' (up HO354.out) (Kd.R_base ho2) hb)
                  replace BK320 := wb BK320 hb
                  replace BK321 := wb BK321 hb
                  replace BK345 := wb BK345 hb
                  replace BK355 := wb BK355 hb
                  replace BK369 := wb BK369 hb
                  replace HB := wh hb
                  (try clear hb)
                  (try clear hb2)
                  (try clear hk)
                  (try clear hi)
                  (try clear ho0)
                  (try clear ho1)
                  (try clear ho2)
                  refine hK.out _ _ ⟨(blk_cell BK355.out 0).trans rfl, (blk_cell BK355.out 1).trans rfl, (blk_cell BK355.out 2).trans rfl, (blk_cell BK321.out 0).trans rfl, (blk_cell BK321.out 1).trans rfl⟩ (fun hHeld => ?_)
                  clear hK K
                  refine nm 39 ?_
                  refine pu 4 35 #[T_,T_,T_,T_,T_,F_,F_,F_,T_,F_,F_,F_] ?_
                  refine pu 5 40 #[T_,T_,T_,T_,T_,T_,F_,F_,T_,F_,F_,F_] ?_
                  refine pu 6 41 #[T_,T_,T_,T_,T_,T_,T_,F_,T_,F_,F_,F_] ?_
                  refine pu 7 42 (tf 9 3) ?_
                  exact norm_ (by simp only [putAll, Act.put, List.setIfInBounds_toArray, List.set_cons_zero, List.set_cons_succ]) (hCont (v359, v362, v365, gb369) _ ⟨hHeld, (by exact up (Kd.R_mono HO336.out (fun _ hk => by first | exact ⟨hk.1.1.1, ⟨hk.1.1.2.1, ⟨hk.1.1.2.2, ⟨hk.1.2, hk.2⟩⟩⟩⟩ | (revert hk; simp only [and_imp]; intros; (repeat' (refine And.intro ?_ ?_)) <;> assumption)))), (by exact up (Kd.R_mono HO339.out (fun _ hk => by first | exact ⟨hk.1.1.1, ⟨hk.1.1.2.1, ⟨hk.1.1.2.2, ⟨hk.1.2, hk.2⟩⟩⟩⟩ | (revert hk; simp only [and_imp]; intros; (repeat' (refine And.intro ?_ ?_)) <;> assumption)))), (up HO342.out), (by exact up (Kd.R_mono HO348.out (fun _ hk => by first | exact ⟨hk.1.1.1, ⟨hk.1.1.2.1, ⟨hk.1.1.2.2, ⟨hk.1.2, hk.2⟩⟩⟩⟩ | (revert hk; simp only [and_imp]; intros; (repeat' (refine And.intro ?_ ?_)) <;> assumption)))), (by exact up (Kd.R_mono HO351.out (fun _ hk => by first | exact ⟨hk.1.1.1, ⟨hk.1.1.2.1, ⟨hk.1.1.2.2, ⟨hk.1.2, hk.2⟩⟩⟩⟩ | (revert hk; simp only [and_imp]; intros; (repeat' (refine And.intro ?_ ?_)) <;> assumption)))), (up HO354.out), (by exact up (Kd.R_mono HO360.out (fun _ hk => by first | exact ⟨hk.1.1.1.2, ⟨hk.1.1.2, ⟨hk.1.2, ⟨hk.2, hk.1.1.1.1⟩⟩⟩⟩ | (revert hk; simp only [and_imp]; intros; (repeat' (refine And.intro ?_ ?_)) <;> assumption)))), (by exact up (Kd.R_mono HO363.out (fun _ hk => by first | exact ⟨hk.1.1.1.2, ⟨hk.1.1.2, ⟨hk.1.2, ⟨hk.2, hk.1.1.1.1⟩⟩⟩⟩ | (revert hk; simp only [and_imp]; intros; (repeat' (refine And.intro ?_ ?_)) <;> assumption)))), (by exact up (Kd.R_mono HO366.out (fun _ hk => by first | exact ⟨hk.1.2, hk.2⟩ | (revert hk; simp only [and_imp]; intros; (repeat' (refine And.intro ?_ ?_)) <;> assumption)))), (ub BK320.out), (ub BK321.out), (ub BK345.out), (ub BK355.out), (ub BK369.out), GW369.out, GE369.out, NB320_369.out, NB369_320.out, NB321_369.out, NB369_321.out, NB345_369.out, NB369_345.out, NB355_369.out, NB369_355.out, bl⟩)
                ·skip
                 refine box_step ?hg (N := 10) ?hd (cs := #[.slice none 0 0, .slice none 0 0, .slice none 0 0]) (t := 29) ?hr ?_; (case hd => rfl); (case hg => rfl); (case hr => first | (go_simp; done) | (go_simp; rfl))
                 intro gb369 hg w74 hbox hb
                 replace HO336 := mk (Kd.R_below (up HO336.out) hb)
                 replace HO339 := mk (Kd.R_below (up HO339.out) hb)
                 replace HO342 := mk (Kd.R_below (up HO342.out) hb)
                 replace HO348 := mk (Kd.R_below (up HO348.out) hb)
                 replace HO351 := mk (Kd.R_below (up HO351.out) hb)
                 replace HO354 := mk (Kd.R_below (up HO354.out) hb)
                 have BK369 := mk hbox
                 have GW369 := wg hg
                 have GE369 := wg hg
                 replace HB := wh hb
                 have NB320_369 := nl BK320 hg
                 have NB369_320 := nr BK320 hg
                 replace BK320 := wb BK320 hb
                 have NB321_369 := nl BK321 hg
                 have NB369_321 := nr BK321 hg
                 replace BK321 := wb BK321 hb
                 have NB345_369 := nl BK345 hg
                 have NB369_345 := nr BK345 hg
                 replace BK345 := wb BK345 hb
                 have NB355_369 := nl BK355 hg
                 have NB369_355 := nr BK355 hg
                 replace BK355 := wb BK355 hb
                 clear hb hbox hg
                 refine hK.out _ _ ⟨(blk_cell BK355.out 0).trans rfl, (blk_cell BK355.out 1).trans rfl, (blk_cell BK355.out 2).trans rfl, (blk_cell BK321.out 0).trans rfl, (blk_cell BK321.out 1).trans rfl⟩ (fun hHeld => ?_)
                 clear hK K
                 refine nm 10 ?_
                 refine on 2 38 #[T_,T_,T_,F_,F_,F_,F_,F_,T_,F_,F_,F_] (fun K hK => ?_)
                 refine gs Try.func14 #[.agg #[.int .i64 a1_0, .int .i64 a1_1]] ?_
                 with_reducible refine (laws_toItem.calls a1_0 a1_1 t356 t357 _ A14.out).mono ?_
                 rintro e w75 ⟨rfl, hb⟩
                 refine ⟨_, rfl, ?_⟩
                 replace HO336 := mk (Kd.R_below (up HO336.out) hb)
                 replace HO339 := mk (Kd.R_below (up HO339.out) hb)
                 replace HO342 := mk (Kd.R_below (up HO342.out) hb)
                 replace HO348 := mk (Kd.R_below (up HO348.out) hb)
                 replace HO351 := mk (Kd.R_below (up HO351.out) hb)
                 replace HO354 := mk (Kd.R_below (up HO354.out) hb)
                 replace BK320 := wb BK320 hb
                 replace BK321 := wb BK321 hb
                 replace BK345 := wb BK345 hb
                 replace BK355 := wb BK355 hb
                 replace BK369 := wb BK369 hb
                 replace HB := wh hb
                 (try clear hb)
                 (try clear hb2)
                 (try clear hk)
                 (try clear hi)
                 refine hK.out _ _ ⟨(blk_cell BK355.out 0).trans rfl, (blk_cell BK355.out 1).trans rfl, (blk_cell BK355.out 2).trans rfl, (blk_cell BK321.out 0).trans rfl, (blk_cell BK321.out 1).trans rfl⟩ (fun hHeld => ?_)
                 clear hK K
                 refine nm 38 ?_
                 refine on 3 39 #[T_,T_,T_,T_,F_,F_,F_,F_,T_,F_,F_,F_] (fun K hK => ?_)
                 refine gs Try.func15 #[.agg #[.slice Ao65 t346.length co65, .slice Ao70 t349.length co70, .slice Ao71 t352.length co71], .agg #[.int .i64 t356, .int .i64 t357]] ?_
                 with_reducible refine (impl_RippleInsert.calls k _ _ t346 _ _ t349 _ _ t352 t356 t357 t358 t361 t364 t367 t368 _ ?side1 ?side2 ?side3 ?side4 ?side5 ?side6 A15.out).mono ?_
                 (case side1 => exact uc (Kd.R_reads' HO348.out).2.2)
                 (case side2 => exact (Kd.R_reads' HO348.out).2.1)
                 (case side3 => exact uc (Kd.R_reads' HO351.out).2.2)
                 (case side4 => exact (Kd.R_reads' HO351.out).2.1)
                 (case side5 => exact uc (Kd.R_reads' HO354.out).2.2)
                 (case side6 => exact (Kd.R_reads' HO354.out).2.1)
                 rintro e w76 ⟨v359, v362, v365, rfl, ho0, ho1, ho2, hb⟩
                 refine ⟨_, rfl, ?_⟩
                 have HO360 := mk (Kd.R_lower (Kd.R_new' (Kd.R_new' (Kd.R_new' (Kd.R_new' ho0 (Kd.R_lt (up HO336.out))) (Kd.R_lt (up HO339.out))) (Kd.R_lt (up HO348.out))) (Kd.R_lt (up HO351.out))) (below_size bl))
                 have HO363 := mk (Kd.R_lower (Kd.R_new' (Kd.R_new' (Kd.R_new' (Kd.R_new' ho1 (Kd.R_lt (up HO336.out))) (Kd.R_lt (up HO339.out))) (Kd.R_lt (up HO348.out))) (Kd.R_lt (up HO351.out))) (below_size bl))
                 replace HO336 := mk (Kd.R_mono (Kd.R_told (Kd.R_told (Kd.R_old (up HO336.out) hb) (Kd.R_base ho0)) (Kd.R_base ho1)) (fun _ h_ => h_.1))
                 replace HO339 := mk (Kd.R_mono (Kd.R_told (Kd.R_told (Kd.R_old (up HO339.out) hb) (Kd.R_base ho0)) (Kd.R_base ho1)) (fun _ h_ => h_.1))
                 replace HO348 := mk (Kd.R_mono (Kd.R_told (Kd.R_told (Kd.R_old (up HO348.out) hb) (Kd.R_base ho0)) (Kd.R_base ho1)) (fun _ h_ => h_.1))
                 replace HO351 := mk (Kd.R_mono (Kd.R_told (Kd.R_told (Kd.R_old (up HO351.out) hb) (Kd.R_base ho0)) (Kd.R_base ho1)) (fun _ h_ => h_.1))
                 have HO366 := mk (Kd.R_lower (Kd.R_new' (Kd.R_new' ho2 (Kd.R_lt (up HO342.out))) (Kd.R_lt (up HO354.out))) (below_size bl))
                 replace HO342 := mk (Kd.R_elder' (up HO342.out) (Kd.R_base ho2) hb)
                 replace HO354 := mk (Kd.R_elder' (up HO354.out) (Kd.R_base ho2) hb)
                 replace BK320 := wb BK320 hb
                 replace BK321 := wb BK321 hb
                 replace BK345 := wb BK345 hb
                 replace BK355 := wb BK355 hb
                 replace BK369 := wb BK369 hb
                 replace HB := wh hb
                 (try clear hb)
                 (try clear hb2)
                 (try clear hk)
                 (try clear hi)
                 (try clear ho0)
                 (try clear ho1)
                 (try clear ho2)
                 refine hK.out _ _ ⟨(blk_cell BK355.out 0).trans rfl, (blk_cell BK355.out 1).trans rfl, (blk_cell BK355.out 2).trans rfl, (blk_cell BK321.out 0).trans rfl, (blk_cell BK321.out 1).trans rfl⟩ (fun hHeld => ?_)
                 clear hK K
                 refine nm 39 ?_
                 refine pu 4 35 #[T_,T_,T_,T_,T_,F_,F_,F_,T_,F_,F_,F_] ?_
                 refine pu 5 40 #[T_,T_,T_,T_,T_,T_,F_,F_,T_,F_,F_,F_] ?_
                 refine pu 6 41 #[T_,T_,T_,T_,T_,T_,T_,F_,T_,F_,F_,F_] ?_
                 refine pu 7 42 (tf 9 3) ?_
                 exact norm_ (by simp only [putAll, Act.put, List.setIfInBounds_toArray, List.set_cons_zero, List.set_cons_succ]) (hCont (v359, v362, v365, gb369) _ ⟨hHeld, (by exact up (Kd.R_mono HO336.out (fun _ hk => by first | exact ⟨hk.1.1.1, ⟨hk.1.1.2.1, ⟨hk.1.1.2.2, ⟨hk.1.2, hk.2⟩⟩⟩⟩ | (revert hk; simp only [and_imp]; intros; (repeat' (refine And.intro ?_ ?_)) <;> assumption)))), (by exact up (Kd.R_mono HO339.out (fun _ hk => by first | exact ⟨hk.1.1.1, ⟨hk.1.1.2.1, ⟨hk.1.1.2.2, ⟨hk.1.2, hk.2⟩⟩⟩⟩ | (revert hk; simp only [and_imp]; intros; (repeat' (refine And.intro ?_ ?_)) <;> assumption)))), (up HO342.out), (by exact up (Kd.R_mono HO348.out (fun _ hk => by first | exact ⟨hk.1.1.1, ⟨hk.1.1.2.1, ⟨hk.1.1.2.2, ⟨hk.1.2, hk.2⟩⟩⟩⟩ | (revert hk; simp only [and_imp]; intros; (repeat' (refine And.intro ?_ ?_)) <;> assumption)))), (by exact up (Kd.R_mono HO351.out (fun _ hk => by first | exact ⟨hk.1.1.1, ⟨hk.1.1.2.1, ⟨hk.1.1.2.2, ⟨hk.1.2, hk.2⟩⟩⟩⟩ | (revert hk; simp only [and_imp]; intros; (repeat' (refine And.intro ?_ ?_)) <;> assumption)))), (up HO354.out), (by exact up (Kd.R_mono HO360.out (fun _ hk => by first | exact ⟨hk.1.1.1.2, ⟨hk.1.1.2, ⟨hk.1.2, ⟨hk.2, hk.1.1.1.1⟩⟩⟩⟩ | (revert hk; simp only [and_imp]; intros; (repeat' (refine And.intro ?_ ?_)) <;> assumption)))), (by exact up (Kd.R_mono HO363.out (fun _ hk => by first | exact ⟨hk.1.1.1.2, ⟨hk.1.1.2, ⟨hk.1.2, ⟨hk.2, hk.1.1.1.1⟩⟩⟩⟩ | (revert hk; simp only [and_imp]; intros; (repeat' (refine And.intro ?_ ?_)) <;> assumption)))), (by exact up (Kd.R_mono HO366.out (fun _ hk => by first | exact ⟨hk.1.2, hk.2⟩ | (revert hk; simp only [and_imp]; intros; (repeat' (refine And.intro ?_ ?_)) <;> assumption)))), (ub BK320.out), (ub BK321.out), (ub BK345.out), (ub BK355.out), (ub BK369.out), GW369.out, GE369.out, NB320_369.out, NB369_320.out, NB321_369.out, NB369_321.out, NB345_369.out, NB369_345.out, NB355_369.out, NB369_355.out, bl⟩)
               rintro ⟨v359, v362, v365, gb369⟩ w77 ⟨hS_, h0_, h1_, h2_, h3_, h4_, h5_, h6_, h7_, h8_, h9_, h10_, h11_, h12_, h13_, h14_, h15_, h16_, h17_, h18_, h19_, h20_, h21_, h22_, h23_, h24_⟩
               have n0_ : Aside0 (Kd.R (Kd.int .i64) 3 w77 w.heap.size (fun k_ => some k_ ≠ (.slice Ao57 t337.length co57 : Value).ownBlock ∧ some k_ ≠ (.slice Ao65 t346.length co65 : Value).ownBlock ∧ some k_ ≠ (.slice Ao70 t349.length co70 : Value).ownBlock ∧ some k_ ≠ (v359 : Value).ownBlock ∧ some k_ ≠ (v362 : Value).ownBlock) (.slice Ao55 t334.length co55) t334) := ⟨h0_⟩
               have n1_ : Aside0 (Kd.R (Kd.int .i64) 3 w77 w.heap.size (fun k_ => some k_ ≠ (.slice Ao55 t334.length co55 : Value).ownBlock ∧ some k_ ≠ (.slice Ao65 t346.length co65 : Value).ownBlock ∧ some k_ ≠ (.slice Ao70 t349.length co70 : Value).ownBlock ∧ some k_ ≠ (v359 : Value).ownBlock ∧ some k_ ≠ (v362 : Value).ownBlock) (.slice Ao57 t337.length co57) t337) := ⟨h1_⟩
               have n2_ : Aside0 (Kd.R k50 50 w77 w.heap.size (fun k_ => some k_ ≠ (.slice Ao71 t352.length co71 : Value).ownBlock ∧ some k_ ≠ (v365 : Value).ownBlock) (.slice Ao59 t340.length co59) t340) := ⟨h2_⟩
               have n3_ : Aside0 (Kd.R (Kd.int .i64) 3 w77 w.heap.size (fun k_ => some k_ ≠ (.slice Ao55 t334.length co55 : Value).ownBlock ∧ some k_ ≠ (.slice Ao57 t337.length co57 : Value).ownBlock ∧ some k_ ≠ (.slice Ao70 t349.length co70 : Value).ownBlock ∧ some k_ ≠ (v359 : Value).ownBlock ∧ some k_ ≠ (v362 : Value).ownBlock) (.slice Ao65 t346.length co65) t346) := ⟨h3_⟩
               have n4_ : Aside0 (Kd.R (Kd.int .i64) 3 w77 w.heap.size (fun k_ => some k_ ≠ (.slice Ao55 t334.length co55 : Value).ownBlock ∧ some k_ ≠ (.slice Ao57 t337.length co57 : Value).ownBlock ∧ some k_ ≠ (.slice Ao65 t346.length co65 : Value).ownBlock ∧ some k_ ≠ (v359 : Value).ownBlock ∧ some k_ ≠ (v362 : Value).ownBlock) (.slice Ao70 t349.length co70) t349) := ⟨h4_⟩
               have n5_ : Aside0 (Kd.R k50 50 w77 w.heap.size (fun k_ => some k_ ≠ (.slice Ao59 t340.length co59 : Value).ownBlock ∧ some k_ ≠ (v365 : Value).ownBlock) (.slice Ao71 t352.length co71) t352) := ⟨h5_⟩
               have n6_ : Aside0 (Kd.R (Kd.int .i64) 3 w77 w.heap.size (fun k_ => some k_ ≠ (.slice Ao55 t334.length co55 : Value).ownBlock ∧ some k_ ≠ (.slice Ao57 t337.length co57 : Value).ownBlock ∧ some k_ ≠ (.slice Ao65 t346.length co65 : Value).ownBlock ∧ some k_ ≠ (.slice Ao70 t349.length co70 : Value).ownBlock ∧ some k_ ≠ (v362 : Value).ownBlock) v359 t358) := ⟨h6_⟩
               have n7_ : Aside0 (Kd.R (Kd.int .i64) 3 w77 w.heap.size (fun k_ => some k_ ≠ (.slice Ao55 t334.length co55 : Value).ownBlock ∧ some k_ ≠ (.slice Ao57 t337.length co57 : Value).ownBlock ∧ some k_ ≠ (.slice Ao65 t346.length co65 : Value).ownBlock ∧ some k_ ≠ (.slice Ao70 t349.length co70 : Value).ownBlock ∧ some k_ ≠ (v359 : Value).ownBlock) v362 t361) := ⟨h7_⟩
               have n8_ : Aside0 (Kd.R k50 50 w77 w.heap.size (fun k_ => some k_ ≠ (.slice Ao59 t340.length co59 : Value).ownBlock ∧ some k_ ≠ (.slice Ao71 t352.length co71 : Value).ownBlock) v365 t364) := ⟨h8_⟩
               have n9_ : Aside0 (w77.heap[gb320]? = some (.cells #[.slice A0_0 l0_0.length c0_0, .slice A0_1 l0_1.length c0_1, .slice A0_2 l0_2.length c0_2] 25 (0, 0))) := ⟨h9_⟩
               have n10_ : Aside0 (w77.heap[gb321]? = some (.cells #[.int .i64 a1_0, .int .i64 a1_1] 37 (0, 0))) := ⟨h10_⟩
               have n11_ : Aside0 (w77.heap[gb345]? = some (.cells #[.slice Ao55 t334.length co55, .slice Ao57 t337.length co57, .slice Ao59 t340.length co59] 29 (0, 0))) := ⟨h11_⟩
               have n12_ : Aside0 (w77.heap[gb355]? = some (.cells #[.slice Ao65 t346.length co65, .slice Ao70 t349.length co70, .slice Ao71 t352.length co71] 29 (0, 0))) := ⟨h12_⟩
               have n13_ : Aside0 (w77.heap[gb369]? = some (.cells #[.slice none 0 0, .slice none 0 0, .slice none 0 0] 29 (0, 0))) := ⟨h13_⟩
               have n14_ : Aside0 (w.heap.size ≤ gb369) := ⟨h14_⟩
               have n15_ : Aside0 (w.heap.size ≤ gb369) := ⟨h15_⟩
               have n16_ : Aside0 (gb320 ≠ gb369) := ⟨h16_⟩
               have n17_ : Aside0 (gb369 ≠ gb320) := ⟨h17_⟩
               have n18_ : Aside0 (gb321 ≠ gb369) := ⟨h18_⟩
               have n19_ : Aside0 (gb369 ≠ gb321) := ⟨h19_⟩
               have n20_ : Aside0 (gb345 ≠ gb369) := ⟨h20_⟩
               have n21_ : Aside0 (gb369 ≠ gb345) := ⟨h21_⟩
               have n22_ : Aside0 (gb355 ≠ gb369) := ⟨h22_⟩
               have n23_ : Aside0 (gb369 ≠ gb355) := ⟨h23_⟩
               have n24_ : Aside0 (Below w.heap.size w w77) := ⟨h24_⟩
               clear HO336
               clear HO339
               clear HO342
               clear HO348
               clear HO351
               clear HO354
               clear BK320
               clear BK321
               clear BK345
               clear BK355
               clear HB
               clear h0_ h1_ h2_ h3_ h4_ h5_ h6_ h7_ h8_ h9_ h10_ h11_ h12_ h13_ h14_ h15_ h16_ h17_ h18_ h19_ h20_ h21_ h22_ h23_ h24_
               have HO336 := n0_
               have HO339 := n1_
               have HO342 := n2_
               have HO348 := n3_
               have HO351 := n4_
               have HO354 := n5_
               have HO360 := n6_
               have HO363 := n7_
               have HO366 := n8_
               have BK320 := n9_
               have BK321 := n10_
               have BK345 := n11_
               have BK355 := n12_
               have BK369 := n13_
               have GW369 := n14_
               have GE369 := n15_
               have NB320_369 := n16_
               have NB369_320 := n17_
               have NB321_369 := n18_
               have NB369_321 := n19_
               have NB345_369 := n20_
               have NB369_345 := n21_
               have NB355_369 := n22_
               have NB369_355 := n23_
               have HB := n24_
               clear n0_ n1_ n2_ n3_ n4_ n5_ n6_ n7_ n8_ n9_ n10_ n11_ n12_ n13_ n14_ n15_ n16_ n17_ n18_ n19_ n20_ n21_ n22_ n23_ n24_
               have hHeld : w77.cell? ⟨gb355, 0, none⟩ = some (.slice Ao65 t346.length co65) ∧ w77.cell? ⟨gb355, 1, none⟩ = some (.slice Ao70 t349.length co70) ∧ w77.cell? ⟨gb355, 2, none⟩ = some (.slice Ao71 t352.length co71) ∧ w77.cell? ⟨gb321, 0, none⟩ = some (.int .i64 a1_0) ∧ w77.cell? ⟨gb321, 1, none⟩ = some (.int .i64 a1_1) := hS_
               obtain ⟨Ao78, co78, eo78⟩ := Kd.R_slice HO360.out
               (first | subst eo78 | (injection eo78 with f1_ f2_ f3_; have f4_ := f1_.symm; have f5_ := f3_.symm; clear f1_ f2_ f3_; subst f4_; subst f5_))
               obtain ⟨Ao80, co80, eo80⟩ := Kd.R_slice HO363.out
               (first | subst eo80 | (injection eo80 with f1_ f2_ f3_; have f4_ := f1_.symm; have f5_ := f3_.symm; clear f1_ f2_ f3_; subst f4_; subst f5_))
               obtain ⟨Ao82, co82, eo82⟩ := Kd.R_slice HO366.out
               (first | subst eo82 | (injection eo82 with f1_ f2_ f3_; have f4_ := f1_.symm; have f5_ := f3_.symm; clear f1_ f2_ f3_; subst f4_; subst f5_))
               refine norm_ (a' := ?_) ?_ ?_
               rotate_left
               ·simp only [putAll, Act.put, List.setIfInBounds_toArray, List.set_cons_zero, List.set_cons_succ]
                rfl
               refine one_ (i := 9) (N := none) #[T_, T_, T_, T_, T_, T_, T_, T_, T_, T_, F_, F_] rfl rfl (one_of HT_.out (by kernel_rfl)) (by decide) (fun K hK => ?_)
               have hs79 : w77.cell? ⟨gb369, 0, none⟩ = some (.slice none 0 0) := (blk_cell BK369.out 0).trans rfl
               have hfs79 := blk_frozen BK369.out 0
               have hns79_0 := NB320_369.out
               have hns79_1 := NB321_369.out
               have hns79_2 := NB345_369.out
               have hns79_3 := NB355_369.out
               have hms79_0 := NB369_320.out
               have hms79_1 := NB369_321.out
               have hms79_2 := NB369_345.out
               have hms79_3 := NB369_355.out
               have hs81 : w77.cell? ⟨gb369, 1, none⟩ = some (.slice none 0 0) := (blk_cell BK369.out 1).trans rfl
               have hfs81 := blk_frozen BK369.out 1
               have hns81_0 := NB320_369.out
               have hns81_1 := NB321_369.out
               have hns81_2 := NB345_369.out
               have hns81_3 := NB355_369.out
               have hms81_0 := NB369_320.out
               have hms81_1 := NB369_321.out
               have hms81_2 := NB369_345.out
               have hms81_3 := NB369_355.out
               have hs83 : w77.cell? ⟨gb369, 2, none⟩ = some (.slice none 0 0) := (blk_cell BK369.out 2).trans rfl
               have hfs83 := blk_frozen BK369.out 2
               have hns83_0 := NB320_369.out
               have hns83_1 := NB321_369.out
               have hns83_2 := NB345_369.out
               have hns83_3 := NB355_369.out
               have hms83_0 := NB369_320.out
               have hms83_1 := NB369_321.out
               have hms83_2 := NB369_345.out
               have hms83_3 := NB369_355.out
               refine skip_ (w1 := ?_) (by rfl) rfl ?_ ?_
               rotate_left
               ·go_simp
                rfl
               refine hK.out _ _ ⟨((cell_far (p := ⟨gb369, _, none⟩) NB355_369.out _).trans (((cell_far (p := ⟨gb369, _, none⟩) NB355_369.out _).trans (((cell_far (p := ⟨gb369, _, none⟩) NB355_369.out _).trans (hHeld.1)))))), ((cell_far (p := ⟨gb369, _, none⟩) NB355_369.out _).trans (((cell_far (p := ⟨gb369, _, none⟩) NB355_369.out _).trans (((cell_far (p := ⟨gb369, _, none⟩) NB355_369.out _).trans (hHeld.2.1)))))), ((cell_far (p := ⟨gb369, _, none⟩) NB355_369.out _).trans (((cell_far (p := ⟨gb369, _, none⟩) NB355_369.out _).trans (((cell_far (p := ⟨gb369, _, none⟩) NB355_369.out _).trans (hHeld.2.2.1)))))), ((cell_far (p := ⟨gb369, _, none⟩) NB321_369.out _).trans (((cell_far (p := ⟨gb369, _, none⟩) NB321_369.out _).trans (((cell_far (p := ⟨gb369, _, none⟩) NB321_369.out _).trans (hHeld.2.2.2.1)))))), ((cell_far (p := ⟨gb369, _, none⟩) NB321_369.out _).trans (((cell_far (p := ⟨gb369, _, none⟩) NB321_369.out _).trans (((cell_far (p := ⟨gb369, _, none⟩) NB321_369.out _).trans (hHeld.2.2.2.2))))))⟩ (fun hHeld => ?_)
               clear hK K
               refine pu 10 11 (tf 11 1) ?_
               refine pu 11 12 (tf 12 0) ?_
               refine done_ (done_of HT_.out (by kernel_rfl)) ?_
               have hnb84 := NB369_320.out
               have hnc84 := NB320_369.out
               have hnb85 := NB369_321.out
               have hnc85 := NB321_369.out
               have hnb86 := NB369_345.out
               have hnc86 := NB345_369.out
               have hnb87 := NB369_355.out
               have hnc87 := NB355_369.out
               obtain ⟨hcz88_0, hcz88_1, hcz88_2, hfz88_0, hfz88_1, hfz88_2⟩ := bz3 BK369
               have hnb89 := NB345_321.out
               have hnc89 := NB321_345.out
               obtain ⟨hcz90_0, hcz90_1, hcz90_2, hfz90_0, hfz90_1, hfz90_2⟩ := bz3 BK345
               try go_wp2_with (first | ((with_reducible refine gate_callee (f := 10) rfl ?_); refine gl (some 45) rfl Try.func10 #[.agg #[.slice Ao78 t358.length co78, .slice Ao80 t361.length co80, .slice Ao82 t364.length co82], .agg #[.slice Ao55 t334.length co55, .slice Ao57 t337.length co57, .slice Ao59 t340.length co59]] ?_; (with_reducible refine (laws_eqCracker.calls k _ _ t358 _ _ t361 _ _ t364 _ _ t334 _ _ t337 _ _ t340 true _ ?side1 ?side2 ?side3 ?side4 ?side5 ?side6 ?side7 ?side8 ?side9 ?side10 ?side11 ?side12 A16.out).mono ?_); (case side1 => refine (Kd.R_reads' (e := 3) (base := w.heap.size) (ok := fun k_ => (some k_ ≠ (.slice Ao55 t334.length co55 : Value).ownBlock ∧ (some k_ ≠ (.slice Ao57 t337.length co57 : Value).ownBlock ∧ (some k_ ≠ (.slice Ao65 t346.length co65 : Value).ownBlock ∧ (some k_ ≠ (.slice Ao70 t349.length co70 : Value).ownBlock ∧ some k_ ≠ (.slice Ao80 t361.length co80 : Value).ownBlock))))) (n := t358.length) (c := co78) ?_).2.2; exact (by exact rs1 HO360 BK369)); (case side2 => exact (Kd.R_reads' HO360.out).2.1); (case side3 => refine (Kd.R_reads' (e := 3) (base := w.heap.size) (ok := fun k_ => (some k_ ≠ (.slice Ao55 t334.length co55 : Value).ownBlock ∧ (some k_ ≠ (.slice Ao57 t337.length co57 : Value).ownBlock ∧ (some k_ ≠ (.slice Ao65 t346.length co65 : Value).ownBlock ∧ (some k_ ≠ (.slice Ao70 t349.length co70 : Value).ownBlock ∧ some k_ ≠ (.slice Ao78 t358.length co78 : Value).ownBlock))))) (n := t361.length) (c := co80) ?_).2.2; exact (by exact rs1 HO363 BK369)); (case side4 => exact (Kd.R_reads' HO363.out).2.1); (case side5 => refine (Kd.R_reads' (e := 50) (base := w.heap.size) (ok := fun k_ => (some k_ ≠ (.slice Ao59 t340.length co59 : Value).ownBlock ∧ some k_ ≠ (.slice Ao71 t352.length co71 : Value).ownBlock)) (n := t364.length) (c := co82) ?_).2.2; exact (by exact rs1 HO366 BK369)); (case side6 => exact (Kd.R_reads' HO366.out).2.1); (case side7 => refine (Kd.R_reads' (e := 3) (base := w.heap.size) (ok := fun k_ => (some k_ ≠ (.slice Ao57 t337.length co57 : Value).ownBlock ∧ (some k_ ≠ (.slice Ao65 t346.length co65 : Value).ownBlock ∧ (some k_ ≠ (.slice Ao70 t349.length co70 : Value).ownBlock ∧ (some k_ ≠ (.slice Ao78 t358.length co78 : Value).ownBlock ∧ some k_ ≠ (.slice Ao80 t361.length co80 : Value).ownBlock))))) (n := t334.length) (c := co55) ?_).2.2; exact (by exact rs1 HO336 BK369)); (case side8 => exact (Kd.R_reads' HO336.out).2.1); (case side9 => refine (Kd.R_reads' (e := 3) (base := w.heap.size) (ok := fun k_ => (some k_ ≠ (.slice Ao55 t334.length co55 : Value).ownBlock ∧ (some k_ ≠ (.slice Ao65 t346.length co65 : Value).ownBlock ∧ (some k_ ≠ (.slice Ao70 t349.length co70 : Value).ownBlock ∧ (some k_ ≠ (.slice Ao78 t358.length co78 : Value).ownBlock ∧ some k_ ≠ (.slice Ao80 t361.length co80 : Value).ownBlock))))) (n := t337.length) (c := co57) ?_).2.2; exact (by exact rs1 HO339 BK369)); (case side10 => exact (Kd.R_reads' HO339.out).2.1); (case side11 => refine (Kd.R_reads' (e := 50) (base := w.heap.size) (ok := fun k_ => (some k_ ≠ (.slice Ao71 t352.length co71 : Value).ownBlock ∧ some k_ ≠ (.slice Ao82 t364.length co82 : Value).ownBlock)) (n := t340.length) (c := co59) ?_).2.2; exact (by exact rs1 HO342 BK369)); (case side12 => exact (Kd.R_reads' HO342.out).2.1); rintro e w91 ⟨rfl, hb⟩; refine ⟨_, rfl, ?_⟩; replace HO336 := mk (Kd.R_below (by exact rs1 HO336 BK369) hb); replace HO339 := mk (Kd.R_below (by exact rs1 HO339 BK369) hb); replace HO342 := mk (Kd.R_below (by exact rs1 HO342 BK369) hb); replace HO348 := mk (Kd.R_below (by exact rs1 HO348 BK369) hb); replace HO351 := mk (Kd.R_below (by exact rs1 HO351 BK369) hb); replace HO354 := mk (Kd.R_below (by exact rs1 HO354 BK369) hb); replace HO360 := mk (Kd.R_below (by exact rs1 HO360 BK369) hb); replace HO363 := mk (Kd.R_below (by exact rs1 HO363 BK369) hb); replace HO366 := mk (Kd.R_below (by exact rs1 HO366 BK369) hb); replace BK320 := wx BK320 hb; replace BK321 := wx BK321 hb; replace BK345 := wx BK345 hb; replace BK355 := wx BK355 hb; replace BK369 := mk (blk_below (g := gb369) (o := .cells #[.slice Ao78 t358.length co78, .slice Ao80 t361.length co80, .slice Ao82 t364.length co82] 29 (0, 0)) bq hb); replace HB := wh hb; (try clear hb); (try clear hb2); (try clear hk); (try clear hi)))
               replace HO336 := mk (Kd.R_drew HO336.out)
               replace HO339 := mk (Kd.R_drew HO339.out)
               replace HO342 := mk (Kd.R_drew HO342.out)
               replace HO348 := mk (Kd.R_drew HO348.out)
               replace HO351 := mk (Kd.R_drew HO351.out)
               replace HO354 := mk (Kd.R_drew HO354.out)
               replace HO360 := mk (Kd.R_drew HO360.out)
               replace HO363 := mk (Kd.R_drew HO363.out)
               replace HO366 := mk (Kd.R_drew HO366.out)
               replace BK320 := wd BK320
               replace BK321 := wd BK321
               replace BK345 := wd BK345
               replace BK355 := wd BK355
               replace BK369 := wd BK369
               replace HB := mk (below_drew1 HB.out)
               refine start_ (n := 5) (S := fun w' => w'.cell? ⟨gb355, 0, none⟩ = some (.slice Ao65 t346.length co65) ∧ w'.cell? ⟨gb355, 1, none⟩ = some (.slice Ao70 t349.length co70) ∧ w'.cell? ⟨gb355, 2, none⟩ = some (.slice Ao71 t352.length co71) ∧ w'.cell? ⟨gb320, 0, none⟩ = some (.slice A0_0 l0_0.length c0_0) ∧ w'.cell? ⟨gb320, 1, none⟩ = some (.slice A0_1 l0_1.length c0_1) ∧ w'.cell? ⟨gb320, 2, none⟩ = some (.slice A0_2 l0_2.length c0_2)) (ds := []) #[F_, F_, F_, F_, F_] (by kernel_rfl) rfl rfl ⟨(blk_cell BK355.out 0).trans rfl, (blk_cell BK355.out 1).trans rfl, (blk_cell BK355.out 2).trans rfl, (blk_cell BK320.out 0).trans rfl, (blk_cell BK320.out 1).trans rfl, (blk_cell BK320.out 2).trans rfl⟩ (fun hHeld => ?_)
               generalize w91.drew = w92 at HO336 HO339 HO342 HO348 HO351 HO354 HO360 HO363 HO366 BK320 BK321 BK345 BK355 BK369 HB hHeld ⊢
               refine tk 0 57 (tf 1 4) hHeld ?_
               refine tk 1 58 (tf 2 3) hHeld ?_
               refine on 2 59 (tf 3 2) (fun K hK => ?_)
               refine gs Try.func8 #[.agg #[.slice A0_0 l0_0.length c0_0, .slice A0_1 l0_1.length c0_1, .slice A0_2 l0_2.length c0_2]] ?_
               with_reducible refine (laws_toCracker.calls k _ _ l0_0 _ _ l0_1 _ _ l0_2 t371 t374 t377 _ ?side1 ?side2 ?side3 ?side4 ?side5 ?side6 A20.out).mono ?_
               (case side1 => exact uc (Kd.C_below HR0_0.out HB.out))
               (case side2 => exact HC0_0.out)
               (case side3 => exact uc (Kd.C_below HR0_1.out HB.out))
               (case side4 => exact HC0_1.out)
               (case side5 => exact uc (Kd.C_below HR0_2.out HB.out))
               (case side6 => exact HC0_2.out)
               rintro e w93 ⟨v372, v375, v378, rfl, ho0, ho1, ho2, hb⟩
               refine ⟨_, rfl, ?_⟩
               have HO373 := mk (Kd.R_lower (Kd.R_new' (Kd.R_new' (Kd.R_new' (Kd.R_new' (Kd.R_new' (Kd.R_new' ho0 (Kd.R_lt (up HO336.out))) (Kd.R_lt (up HO339.out))) (Kd.R_lt (up HO348.out))) (Kd.R_lt (up HO351.out))) (Kd.R_lt (up HO360.out))) (Kd.R_lt (up HO363.out))) (below_size bl))
               have HO376 := mk (Kd.R_lower (Kd.R_new' (Kd.R_new' (Kd.R_new' (Kd.R_new' (Kd.R_new' (Kd.R_new' ho1 (Kd.R_lt (up HO336.out))) (Kd.R_lt (up HO339.out))) (Kd.R_lt (up HO348.out))) (Kd.R_lt (up HO351.out))) (Kd.R_lt (up HO360.out))) (Kd.R_lt (up HO363.out))) (below_size bl))
               replace HO336 := mk (Kd.R_mono (Kd.R_told (Kd.R_told (Kd.R_old (up HO336.out) hb) (Kd.R_base ho0)) (Kd.R_base ho1)) (fun _ h_ => h_.1))
               replace HO339 := mk (Kd.R_mono (Kd.R_told (Kd.R_told (Kd.R_old (up HO339.out) hb) (Kd.R_base ho0)) (Kd.R_base ho1)) (fun _ h_ => h_.1))
               replace HO348 := mk (Kd.R_mono (Kd.R_told (Kd.R_told (Kd.R_old (up HO348.out) hb) (Kd.R_base ho0)) (Kd.R_base ho1)) (fun _ h_ => h_.1))
               replace HO351 := mk (Kd.R_mono (Kd.R_told (Kd.R_told (Kd.R_old (up HO351.out) hb) (Kd.R_base ho0)) (Kd.R_base ho1)) (fun _ h_ => h_.1))
               replace HO360 := mk (Kd.R_mono (Kd.R_told (Kd.R_told (Kd.R_old (up HO360.out) hb) (Kd.R_base ho0)) (Kd.R_base ho1)) (fun _ h_ => h_.1))
               replace HO363 := mk (Kd.R_mono (Kd.R_told (Kd.R_told (Kd.R_old (up HO363.out) hb) (Kd.R_base ho0)) (Kd.R_base ho1)) (fun _ h_ => h_.1))
               have HO379 := mk (Kd.R_lower (Kd.R_new' (Kd.R_new' (Kd.R_new' ho2 (Kd.R_lt (up HO342.out))) (Kd.R_lt (up HO354.out))) (Kd.R_lt (up HO366.out))) (below_size bl))
               replace HO342 := mk (Kd.R_elder' (up HO342.out) (Kd.R_base ho2) hb)
               replace HO354 := mk (Kd.R_elder' (up HO354.out) (Kd.R_base ho2) hb)
               replace HO366 := mk (Kd.R_elder' (up HO366.out) (Kd.R_base ho2) hb)
               replace BK320 := wb BK320 hb
               replace BK321 := wb BK321 hb
               replace BK345 := wb BK345 hb
               replace BK355 := wb BK355 hb
               replace BK369 := wb BK369 hb
               replace HB := wh hb
               (try clear hb)
               (try clear hb2)
               (try clear hk)
               (try clear hi)
               (try clear ho0)
               (try clear ho1)
               (try clear ho2)
               obtain ⟨Ao94, co94, eo94⟩ := Kd.R_slice HO373.out
               (first | subst eo94 | (injection eo94 with f1_ f2_ f3_; have f4_ := f1_.symm; have f5_ := f3_.symm; clear f1_ f2_ f3_; subst f4_; subst f5_))
               obtain ⟨Ao95, co95, eo95⟩ := Kd.R_slice HO376.out
               (first | subst eo95 | (injection eo95 with f1_ f2_ f3_; have f4_ := f1_.symm; have f5_ := f3_.symm; clear f1_ f2_ f3_; subst f4_; subst f5_))
               obtain ⟨Ao96, co96, eo96⟩ := Kd.R_slice HO379.out
               (first | subst eo96 | (injection eo96 with f1_ f2_ f3_; have f4_ := f1_.symm; have f5_ := f3_.symm; clear f1_ f2_ f3_; subst f4_; subst f5_))
               refine hK.out _ _ ⟨(blk_cell BK355.out 0).trans rfl, (blk_cell BK355.out 1).trans rfl, (blk_cell BK355.out 2).trans rfl, (blk_cell BK320.out 0).trans rfl, (blk_cell BK320.out 1).trans rfl, (blk_cell BK320.out 2).trans rfl⟩ (fun hHeld => ?_)
               clear hK K
               refine nm 59 ?_
               refine on 3 60 (tf 4 1) (fun K hK => ?_)
               refine gs Try.func10 #[.agg #[.slice Ao65 t346.length co65, .slice Ao70 t349.length co70, .slice Ao71 t352.length co71], .agg #[.slice Ao94 t371.length co94, .slice Ao95 t374.length co95, .slice Ao96 t377.length co96]] ?_
               with_reducible refine (laws_eqCracker.calls k _ _ t346 _ _ t349 _ _ t352 _ _ t371 _ _ t374 _ _ t377 true _ ?side1 ?side2 ?side3 ?side4 ?side5 ?side6 ?side7 ?side8 ?side9 ?side10 ?side11 ?side12 A21.out).mono ?_
               (case side1 => exact uc (Kd.R_reads' HO348.out).2.2)
               (case side2 => exact (Kd.R_reads' HO348.out).2.1)
               (case side3 => exact uc (Kd.R_reads' HO351.out).2.2)
               (case side4 => exact (Kd.R_reads' HO351.out).2.1)
               (case side5 => exact uc (Kd.R_reads' HO354.out).2.2)
               (case side6 => exact (Kd.R_reads' HO354.out).2.1)
               (case side7 => exact uc (Kd.R_reads' HO373.out).2.2)
               (case side8 => exact (Kd.R_reads' HO373.out).2.1)
               (case side9 => exact uc (Kd.R_reads' HO376.out).2.2)
               (case side10 => exact (Kd.R_reads' HO376.out).2.1)
               (case side11 => exact uc (Kd.R_reads' HO379.out).2.2)
               (case side12 => exact (Kd.R_reads' HO379.out).2.1)
               rintro e w97 ⟨rfl, hb⟩
               refine ⟨_, rfl, ?_⟩
               replace HO336 := mk (Kd.R_below (up HO336.out) hb)
               replace HO339 := mk (Kd.R_below (up HO339.out) hb)
               replace HO342 := mk (Kd.R_below (up HO342.out) hb)
               replace HO348 := mk (Kd.R_below (up HO348.out) hb)
               replace HO351 := mk (Kd.R_below (up HO351.out) hb)
               replace HO354 := mk (Kd.R_below (up HO354.out) hb)
               replace HO360 := mk (Kd.R_below (up HO360.out) hb)
               replace HO363 := mk (Kd.R_below (up HO363.out) hb)
               replace HO366 := mk (Kd.R_below (up HO366.out) hb)
               replace HO373 := mk (Kd.R_below (up HO373.out) hb)
               replace HO376 := mk (Kd.R_below (up HO376.out) hb)
               replace HO379 := mk (Kd.R_below (up HO379.out) hb)
               replace BK320 := wb BK320 hb
               replace BK321 := wb BK321 hb
               replace BK345 := wb BK345 hb
               replace BK355 := wb BK355 hb
               replace BK369 := wb BK369 hb
               replace HB := wh hb
               (try clear hb)
               (try clear hb2)
               (try clear hk)
               (try clear hi)
               refine hK.out _ _ ⟨(blk_cell BK355.out 0).trans rfl, (blk_cell BK355.out 1).trans rfl, (blk_cell BK355.out 2).trans rfl, (blk_cell BK320.out 0).trans rfl, (blk_cell BK320.out 1).trans rfl, (blk_cell BK320.out 2).trans rfl⟩ (fun hHeld => ?_)
               clear hK K
               refine nm 60 ?_
               refine pu 4 61 (tf 5 0) ?_
               refine done_ (by kernel_rfl) ?_
               replace HO336 := mk (Kd.R_mono (ok' := (fun k_ => some k_ ≠ (.slice Ao57 t337.length co57 : Value).ownBlock ∧ some k_ ≠ (.slice Ao65 t346.length co65 : Value).ownBlock ∧ some k_ ≠ (.slice Ao70 t349.length co70 : Value).ownBlock ∧ some k_ ≠ (.slice Ao78 t358.length co78 : Value).ownBlock ∧ some k_ ≠ (.slice Ao80 t361.length co80 : Value).ownBlock)) HO336.out (fun k_ hk => by first | exact ⟨hk.1.1.1, ⟨hk.1.1.2.1, ⟨hk.1.1.2.2.1, ⟨hk.1.1.2.2.2.1, hk.1.1.2.2.2.2⟩⟩⟩⟩ | (revert hk; simp only [and_imp]; intros; (repeat' (refine And.intro ?_ ?_)) <;> assumption)))
               replace HO339 := mk (Kd.R_mono (ok' := (fun k_ => some k_ ≠ (.slice Ao55 t334.length co55 : Value).ownBlock ∧ some k_ ≠ (.slice Ao65 t346.length co65 : Value).ownBlock ∧ some k_ ≠ (.slice Ao70 t349.length co70 : Value).ownBlock ∧ some k_ ≠ (.slice Ao78 t358.length co78 : Value).ownBlock ∧ some k_ ≠ (.slice Ao80 t361.length co80 : Value).ownBlock)) HO339.out (fun k_ hk => by first | exact ⟨hk.1.1.1, ⟨hk.1.1.2.1, ⟨hk.1.1.2.2.1, ⟨hk.1.1.2.2.2.1, hk.1.1.2.2.2.2⟩⟩⟩⟩ | (revert hk; simp only [and_imp]; intros; (repeat' (refine And.intro ?_ ?_)) <;> assumption)))
               replace HO342 := mk (Kd.R_mono (ok' := (fun k_ => some k_ ≠ (.slice Ao71 t352.length co71 : Value).ownBlock ∧ some k_ ≠ (.slice Ao82 t364.length co82 : Value).ownBlock)) HO342.out (fun k_ hk => by first | exact ⟨hk.1.1, hk.1.2⟩ | (revert hk; simp only [and_imp]; intros; (repeat' (refine And.intro ?_ ?_)) <;> assumption)))
               replace HO348 := mk (Kd.R_mono (ok' := (fun k_ => some k_ ≠ (.slice Ao55 t334.length co55 : Value).ownBlock ∧ some k_ ≠ (.slice Ao57 t337.length co57 : Value).ownBlock ∧ some k_ ≠ (.slice Ao70 t349.length co70 : Value).ownBlock ∧ some k_ ≠ (.slice Ao78 t358.length co78 : Value).ownBlock ∧ some k_ ≠ (.slice Ao80 t361.length co80 : Value).ownBlock)) HO348.out (fun k_ hk => by first | exact ⟨hk.1.1.1, ⟨hk.1.1.2.1, ⟨hk.1.1.2.2.1, ⟨hk.1.1.2.2.2.1, hk.1.1.2.2.2.2⟩⟩⟩⟩ | (revert hk; simp only [and_imp]; intros; (repeat' (refine And.intro ?_ ?_)) <;> assumption)))
               replace HO351 := mk (Kd.R_mono (ok' := (fun k_ => some k_ ≠ (.slice Ao55 t334.length co55 : Value).ownBlock ∧ some k_ ≠ (.slice Ao57 t337.length co57 : Value).ownBlock ∧ some k_ ≠ (.slice Ao65 t346.length co65 : Value).ownBlock ∧ some k_ ≠ (.slice Ao78 t358.length co78 : Value).ownBlock ∧ some k_ ≠ (.slice Ao80 t361.length co80 : Value).ownBlock)) HO351.out (fun k_ hk => by first | exact ⟨hk.1.1.1, ⟨hk.1.1.2.1, ⟨hk.1.1.2.2.1, ⟨hk.1.1.2.2.2.1, hk.1.1.2.2.2.2⟩⟩⟩⟩ | (revert hk; simp only [and_imp]; intros; (repeat' (refine And.intro ?_ ?_)) <;> assumption)))
               replace HO354 := mk (Kd.R_mono (ok' := (fun k_ => some k_ ≠ (.slice Ao59 t340.length co59 : Value).ownBlock ∧ some k_ ≠ (.slice Ao82 t364.length co82 : Value).ownBlock)) HO354.out (fun k_ hk => by first | exact ⟨hk.1.1, hk.1.2⟩ | (revert hk; simp only [and_imp]; intros; (repeat' (refine And.intro ?_ ?_)) <;> assumption)))
               replace HO360 := mk (Kd.R_mono (ok' := (fun k_ => some k_ ≠ (.slice Ao55 t334.length co55 : Value).ownBlock ∧ some k_ ≠ (.slice Ao57 t337.length co57 : Value).ownBlock ∧ some k_ ≠ (.slice Ao65 t346.length co65 : Value).ownBlock ∧ some k_ ≠ (.slice Ao70 t349.length co70 : Value).ownBlock ∧ some k_ ≠ (.slice Ao80 t361.length co80 : Value).ownBlock)) HO360.out (fun k_ hk => by first | exact ⟨hk.1.1.1, ⟨hk.1.1.2.1, ⟨hk.1.1.2.2.1, ⟨hk.1.1.2.2.2.1, hk.1.1.2.2.2.2⟩⟩⟩⟩ | (revert hk; simp only [and_imp]; intros; (repeat' (refine And.intro ?_ ?_)) <;> assumption)))
               replace HO363 := mk (Kd.R_mono (ok' := (fun k_ => some k_ ≠ (.slice Ao55 t334.length co55 : Value).ownBlock ∧ some k_ ≠ (.slice Ao57 t337.length co57 : Value).ownBlock ∧ some k_ ≠ (.slice Ao65 t346.length co65 : Value).ownBlock ∧ some k_ ≠ (.slice Ao70 t349.length co70 : Value).ownBlock ∧ some k_ ≠ (.slice Ao78 t358.length co78 : Value).ownBlock)) HO363.out (fun k_ hk => by first | exact ⟨hk.1.1.1, ⟨hk.1.1.2.1, ⟨hk.1.1.2.2.1, ⟨hk.1.1.2.2.2.1, hk.1.1.2.2.2.2⟩⟩⟩⟩ | (revert hk; simp only [and_imp]; intros; (repeat' (refine And.intro ?_ ?_)) <;> assumption)))
               replace HO366 := mk (Kd.R_mono (ok' := (fun k_ => some k_ ≠ (.slice Ao59 t340.length co59 : Value).ownBlock ∧ some k_ ≠ (.slice Ao71 t352.length co71 : Value).ownBlock)) HO366.out (fun k_ hk => by first | exact ⟨hk.1.1, hk.1.2⟩ | (revert hk; simp only [and_imp]; intros; (repeat' (refine And.intro ?_ ?_)) <;> assumption)))
               clear HO373
               clear HO376
               clear HO379
               obtain ⟨hcz98_0, hcz98_1, hcz98_2, hfz98_0, hfz98_1, hfz98_2⟩ := bz3 BK355
               try go_wp2_with (first | ((with_reducible refine gate_callee (f := 11) rfl ?_); refine gl (some 64) rfl Try.func11 #[.agg #[.slice Ao65 t346.length co65, .slice Ao70 t349.length co70, .slice Ao71 t352.length co71], .int .i64 1] ?_; (with_reducible refine (laws_markCracker.calls k (fun k_ => some k_ = (.slice Ao65 t346.length co65 : Value).ownBlock) (.slice Ao65 t346.length co65) t346 (fun k_ => some k_ = (.slice Ao70 t349.length co70 : Value).ownBlock) (.slice Ao70 t349.length co70) t349 (fun k_ => some k_ = (.slice Ao71 t352.length co71 : Value).ownBlock) (.slice Ao71 t352.length co71) t352 1 t381 t382 t383 t384 w _ ?side1 ?side2 ?side3 ?side4 ?side5 ?side6 A23.out).mono ?_); (case side1 => repeat (first | (with_reducible first | exact HB.out | apply below_alloc | apply pw_below_drewN | apply below_drew1 | refine below_set ?_ GE320.out | refine below_set ?_ GE321.out | refine below_set ?_ GE345.out | refine below_set ?_ GE355.out | refine below_set ?_ GE369.out) | exact HB.out)); (case side2 => exact Kd.R_tight rfl HO348.out); (case side3 => exact fun k_ e_ => by first | exact (HO348.out.1 k_ e_.symm).2.2.1 | (have h_ := (HO348.out.1 k_ e_.symm); first | exact h_ | exact h_.1 | exact h_.1.1 | exact h_.1.1.1 | exact h_.1.1.1.1 | exact h_.1.1.1.1.1 | exact h_.1.1.1.1.1.1 | exact h_.1.1.1.1.1.1.1 | exact h_.2 | exact h_.1.2 | exact h_.1.1.2 | exact h_.1.1.1.2 | exact h_.1.1.1.1.2 | exact h_.1.1.1.1.1.2 | exact h_.1.1.1.1.1.1.2 | exact h_.1.1.1.1.1.1.1.2 | (revert h_; simp only [and_imp]; intros; assumption))); (case side4 => exact Kd.R_tight rfl HO351.out); (case side5 => exact fun k_ e_ => by first | exact (HO351.out.1 k_ e_.symm).2.2.1 | (have h_ := (HO351.out.1 k_ e_.symm); first | exact h_ | exact h_.1 | exact h_.1.1 | exact h_.1.1.1 | exact h_.1.1.1.1 | exact h_.1.1.1.1.1 | exact h_.1.1.1.1.1.1 | exact h_.1.1.1.1.1.1.1 | exact h_.2 | exact h_.1.2 | exact h_.1.1.2 | exact h_.1.1.1.2 | exact h_.1.1.1.1.2 | exact h_.1.1.1.1.1.2 | exact h_.1.1.1.1.1.1.2 | exact h_.1.1.1.1.1.1.1.2 | (revert h_; simp only [and_imp]; intros; assumption))); (case side6 => exact Kd.R_tight rfl HO354.out); rintro e w99 ⟨rfl, hy0, hy1, hy2, hb, hkp⟩; refine ⟨_, rfl, ?_⟩; replace BK320 := mk (blk_kept (ub BK320.out) hkp (fun hs_ => Or.elim hs_ (fun e_ => (fun e_ => (Kd.R_ne HO348.out BK320.out (by decide)) e_) e_) (fun e_ => Or.elim e_ (fun e_ => (fun e_ => (Kd.R_ne HO351.out BK320.out (by decide)) e_) e_) (fun e_ => (fun e_ => (Kd.R_ne HO354.out BK320.out (by decide)) e_) e_)))); replace BK321 := mk (blk_kept (ub BK321.out) hkp (fun hs_ => Or.elim hs_ (fun e_ => (fun e_ => (Kd.R_ne HO348.out BK321.out (by decide)) e_) e_) (fun e_ => Or.elim e_ (fun e_ => (fun e_ => (Kd.R_ne HO351.out BK321.out (by decide)) e_) e_) (fun e_ => (fun e_ => (Kd.R_ne HO354.out BK321.out (by decide)) e_) e_)))); replace HO336 := mk (Kd.R_mono (ok' := fun k_ => some k_ ≠ (.slice Ao57 t337.length co57 : Value).ownBlock ∧ some k_ ≠ (.slice Ao65 t346.length co65 : Value).ownBlock ∧ some k_ ≠ (.slice Ao70 t349.length co70 : Value).ownBlock ∧ some k_ ≠ (.slice Ao78 t358.length co78 : Value).ownBlock ∧ some k_ ≠ (.slice Ao80 t361.length co80 : Value).ownBlock) (Kd.R_keptB ((Kd.R_apart' HO336.out (Kd.R_typed HO354.out) (by decide))) hkp (fun k_ hk_ hs_ => Or.elim hs_ (fun e_ => absurd e_ (by first | exact hk_.1.2.1 | (revert hk_; simp only [and_imp]; intros; assumption))) (fun e_ => Or.elim e_ (fun e_ => absurd e_ (by first | exact hk_.1.2.2.1 | (revert hk_; simp only [and_imp]; intros; assumption))) (fun e_ => absurd e_ (by first | exact hk_.2 | (revert hk_; simp only [and_imp]; intros; assumption)))))) (fun k_ hk_ => by first | exact ⟨hk_.1.1.1, hk_.1.1.2.1, hk_.1.1.2.2.1, hk_.1.1.2.2.2.1, hk_.1.1.2.2.2.2⟩ | (revert hk_; simp only [and_imp]; intros; (repeat' (refine And.intro ?_ ?_)) <;> assumption))); replace HO339 := mk (Kd.R_mono (ok' := fun k_ => some k_ ≠ (.slice Ao55 t334.length co55 : Value).ownBlock ∧ some k_ ≠ (.slice Ao65 t346.length co65 : Value).ownBlock ∧ some k_ ≠ (.slice Ao70 t349.length co70 : Value).ownBlock ∧ some k_ ≠ (.slice Ao78 t358.length co78 : Value).ownBlock ∧ some k_ ≠ (.slice Ao80 t361.length co80 : Value).ownBlock) (Kd.R_keptB ((Kd.R_apart' HO339.out (Kd.R_typed HO354.out) (by decide))) hkp (fun k_ hk_ hs_ => Or.elim hs_ (fun e_ => absurd e_ (by first | exact hk_.1.2.1 | (revert hk_; simp only [and_imp]; intros; assumption))) (fun e_ => Or.elim e_ (fun e_ => absurd e_ (by first | exact hk_.1.2.2.1 | (revert hk_; simp only [and_imp]; intros; assumption))) (fun e_ => absurd e_ (by first | exact hk_.2 | (revert hk_; simp only [and_imp]; intros; assumption)))))) (fun k_ hk_ => by first | exact ⟨hk_.1.1.1, hk_.1.1.2.1, hk_.1.1.2.2.1, hk_.1.1.2.2.2.1, hk_.1.1.2.2.2.2⟩ | (revert hk_; simp only [and_imp]; intros; (repeat' (refine And.intro ?_ ?_)) <;> assumption))); replace HO342 := mk (Kd.R_mono (ok' := fun k_ => some k_ ≠ (.slice Ao71 t352.length co71 : Value).ownBlock ∧ some k_ ≠ (.slice Ao82 t364.length co82 : Value).ownBlock) (Kd.R_keptB ((Kd.R_apart' (Kd.R_apart' HO342.out (Kd.R_typed HO348.out) (by decide)) (Kd.R_typed HO351.out) (by decide))) hkp (fun k_ hk_ hs_ => Or.elim hs_ (fun e_ => absurd e_ (by first | exact hk_.1.2 | (revert hk_; simp only [and_imp]; intros; assumption))) (fun e_ => Or.elim e_ (fun e_ => absurd e_ (by first | exact hk_.2 | (revert hk_; simp only [and_imp]; intros; assumption))) (fun e_ => absurd e_ (by first | exact hk_.1.1.1 | (revert hk_; simp only [and_imp]; intros; assumption)))))) (fun k_ hk_ => by first | exact ⟨hk_.1.1.1.1, hk_.1.1.1.2⟩ | (revert hk_; simp only [and_imp]; intros; (repeat' (refine And.intro ?_ ?_)) <;> assumption))); replace BK345 := mk (blk_kept (ub BK345.out) hkp (fun hs_ => Or.elim hs_ (fun e_ => (fun e_ => (Kd.R_ne HO348.out BK345.out (by decide)) e_) e_) (fun e_ => Or.elim e_ (fun e_ => (fun e_ => (Kd.R_ne HO351.out BK345.out (by decide)) e_) e_) (fun e_ => (fun e_ => (Kd.R_ne HO354.out BK345.out (by decide)) e_) e_)))); replace BK355 := mk (blk_kept (ub BK355.out) hkp (fun hs_ => Or.elim hs_ (fun e_ => (fun e_ => (Kd.R_ne HO348.out BK355.out (by decide)) e_) e_) (fun e_ => Or.elim e_ (fun e_ => (fun e_ => (Kd.R_ne HO351.out BK355.out (by decide)) e_) e_) (fun e_ => (fun e_ => (Kd.R_ne HO354.out BK355.out (by decide)) e_) e_)))); replace HO360 := mk (Kd.R_mono (ok' := fun k_ => some k_ ≠ (.slice Ao55 t334.length co55 : Value).ownBlock ∧ some k_ ≠ (.slice Ao57 t337.length co57 : Value).ownBlock ∧ some k_ ≠ (.slice Ao65 t346.length co65 : Value).ownBlock ∧ some k_ ≠ (.slice Ao70 t349.length co70 : Value).ownBlock ∧ some k_ ≠ (.slice Ao80 t361.length co80 : Value).ownBlock) (Kd.R_keptB ((Kd.R_apart' HO360.out (Kd.R_typed HO354.out) (by decide))) hkp (fun k_ hk_ hs_ => Or.elim hs_ (fun e_ => absurd e_ (by first | exact hk_.1.2.2.1 | (revert hk_; simp only [and_imp]; intros; assumption))) (fun e_ => Or.elim e_ (fun e_ => absurd e_ (by first | exact hk_.1.2.2.2.1 | (revert hk_; simp only [and_imp]; intros; assumption))) (fun e_ => absurd e_ (by first | exact hk_.2 | (revert hk_; simp only [and_imp]; intros; assumption)))))) (fun k_ hk_ => by first | exact ⟨hk_.1.1.1, hk_.1.1.2.1, hk_.1.1.2.2.1, hk_.1.1.2.2.2.1, hk_.1.1.2.2.2.2⟩ | (revert hk_; simp only [and_imp]; intros; (repeat' (refine And.intro ?_ ?_)) <;> assumption))); replace HO363 := mk (Kd.R_mono (ok' := fun k_ => some k_ ≠ (.slice Ao55 t334.length co55 : Value).ownBlock ∧ some k_ ≠ (.slice Ao57 t337.length co57 : Value).ownBlock ∧ some k_ ≠ (.slice Ao65 t346.length co65 : Value).ownBlock ∧ some k_ ≠ (.slice Ao70 t349.length co70 : Value).ownBlock ∧ some k_ ≠ (.slice Ao78 t358.length co78 : Value).ownBlock) (Kd.R_keptB ((Kd.R_apart' HO363.out (Kd.R_typed HO354.out) (by decide))) hkp (fun k_ hk_ hs_ => Or.elim hs_ (fun e_ => absurd e_ (by first | exact hk_.1.2.2.1 | (revert hk_; simp only [and_imp]; intros; assumption))) (fun e_ => Or.elim e_ (fun e_ => absurd e_ (by first | exact hk_.1.2.2.2.1 | (revert hk_; simp only [and_imp]; intros; assumption))) (fun e_ => absurd e_ (by first | exact hk_.2 | (revert hk_; simp only [and_imp]; intros; assumption)))))) (fun k_ hk_ => by first | exact ⟨hk_.1.1.1, hk_.1.1.2.1, hk_.1.1.2.2.1, hk_.1.1.2.2.2.1, hk_.1.1.2.2.2.2⟩ | (revert hk_; simp only [and_imp]; intros; (repeat' (refine And.intro ?_ ?_)) <;> assumption))); replace HO366 := mk (Kd.R_mono (ok' := fun k_ => some k_ ≠ (.slice Ao59 t340.length co59 : Value).ownBlock ∧ some k_ ≠ (.slice Ao71 t352.length co71 : Value).ownBlock) (Kd.R_keptB ((Kd.R_apart' (Kd.R_apart' HO366.out (Kd.R_typed HO348.out) (by decide)) (Kd.R_typed HO351.out) (by decide))) hkp (fun k_ hk_ hs_ => Or.elim hs_ (fun e_ => absurd e_ (by first | exact hk_.1.2 | (revert hk_; simp only [and_imp]; intros; assumption))) (fun e_ => Or.elim e_ (fun e_ => absurd e_ (by first | exact hk_.2 | (revert hk_; simp only [and_imp]; intros; assumption))) (fun e_ => absurd e_ (by first | exact hk_.1.1.2 | (revert hk_; simp only [and_imp]; intros; assumption)))))) (fun k_ hk_ => by first | exact ⟨hk_.1.1.1.1, hk_.1.1.1.2⟩ | (revert hk_; simp only [and_imp]; intros; (repeat' (refine And.intro ?_ ?_)) <;> assumption))); replace BK369 := mk (blk_kept (ub BK369.out) hkp (fun hs_ => Or.elim hs_ (fun e_ => (fun e_ => (Kd.R_ne HO348.out BK369.out (by decide)) e_) e_) (fun e_ => Or.elim e_ (fun e_ => (fun e_ => (Kd.R_ne HO351.out BK369.out (by decide)) e_) e_) (fun e_ => (fun e_ => (Kd.R_ne HO354.out BK369.out (by decide)) e_) e_)))); replace HO348 := mk (Kd.R_reok rfl hy0 (fun k_ e_ => HO348.out.1 k_ e_)); replace HO351 := mk (Kd.R_reok rfl hy1 (fun k_ e_ => HO351.out.1 k_ e_)); replace HO354 := mk (Kd.R_reok rfl hy2 (fun k_ e_ => HO354.out.1 k_ e_)); replace HB := mk hb; (try clear hb); (try clear hkp); (try clear hy0); (try clear hy1); (try clear hy2); replace HO336 := mk (Kd.R_mono (ok' := (fun k_ => some k_ ≠ (.slice Ao57 t337.length co57 : Value).ownBlock ∧ some k_ ≠ (.slice Ao78 t358.length co78 : Value).ownBlock ∧ some k_ ≠ (.slice Ao80 t361.length co80 : Value).ownBlock)) HO336.out (fun k_ hk => by first | exact ⟨hk.1, ⟨hk.2.2.2.1, hk.2.2.2.2⟩⟩ | (revert hk; simp only [and_imp]; intros; (repeat' (refine And.intro ?_ ?_)) <;> assumption))); replace HO339 := mk (Kd.R_mono (ok' := (fun k_ => some k_ ≠ (.slice Ao55 t334.length co55 : Value).ownBlock ∧ some k_ ≠ (.slice Ao78 t358.length co78 : Value).ownBlock ∧ some k_ ≠ (.slice Ao80 t361.length co80 : Value).ownBlock)) HO339.out (fun k_ hk => by first | exact ⟨hk.1, ⟨hk.2.2.2.1, hk.2.2.2.2⟩⟩ | (revert hk; simp only [and_imp]; intros; (repeat' (refine And.intro ?_ ?_)) <;> assumption))); replace HO342 := mk (Kd.R_mono (ok' := (fun k_ => some k_ ≠ (.slice Ao82 t364.length co82 : Value).ownBlock)) HO342.out (fun k_ hk => hk.2)); replace HO360 := mk (Kd.R_mono (ok' := (fun k_ => some k_ ≠ (.slice Ao55 t334.length co55 : Value).ownBlock ∧ some k_ ≠ (.slice Ao57 t337.length co57 : Value).ownBlock ∧ some k_ ≠ (.slice Ao80 t361.length co80 : Value).ownBlock)) HO360.out (fun k_ hk => by first | exact ⟨hk.1, ⟨hk.2.1, hk.2.2.2.2⟩⟩ | (revert hk; simp only [and_imp]; intros; (repeat' (refine And.intro ?_ ?_)) <;> assumption))); replace HO363 := mk (Kd.R_mono (ok' := (fun k_ => some k_ ≠ (.slice Ao55 t334.length co55 : Value).ownBlock ∧ some k_ ≠ (.slice Ao57 t337.length co57 : Value).ownBlock ∧ some k_ ≠ (.slice Ao78 t358.length co78 : Value).ownBlock)) HO363.out (fun k_ hk => by first | exact ⟨hk.1, ⟨hk.2.1, hk.2.2.2.2⟩⟩ | (revert hk; simp only [and_imp]; intros; (repeat' (refine And.intro ?_ ?_)) <;> assumption))); replace HO366 := mk (Kd.R_mono (ok' := (fun k_ => some k_ ≠ (.slice Ao59 t340.length co59 : Value).ownBlock)) HO366.out (fun k_ hk => hk.1)); clear HO348; clear HO351; clear HO354; obtain ⟨hcz100_0, hcz100_1, hcz100_2, hfz100_0, hfz100_1, hfz100_2⟩ := bz3 BK369; obtain ⟨hcz101_0, hcz101_1, hcz101_2, hfz101_0, hfz101_1, hfz101_2⟩ := bz3 BK345) | (go_at_call 10; (with_reducible refine (laws_eqCracker.calls k _ _ t358 _ _ t361 _ _ t364 _ _ t334 _ _ t337 _ _ t340 true _ ?side1 ?side2 ?side3 ?side4 ?side5 ?side6 ?side7 ?side8 ?side9 ?side10 ?side11 ?side12 A25.out).mono ?_); (case side1 => exact uc (Kd.R_reads' HO360.out).2.2); (case side2 => exact (Kd.R_reads' HO360.out).2.1); (case side3 => exact uc (Kd.R_reads' HO363.out).2.2); (case side4 => exact (Kd.R_reads' HO363.out).2.1); (case side5 => exact uc (Kd.R_reads' HO366.out).2.2); (case side6 => exact (Kd.R_reads' HO366.out).2.1); (case side7 => exact uc (Kd.R_reads' HO336.out).2.2); (case side8 => exact (Kd.R_reads' HO336.out).2.1); (case side9 => exact uc (Kd.R_reads' HO339.out).2.2); (case side10 => exact (Kd.R_reads' HO339.out).2.1); (case side11 => exact uc (Kd.R_reads' HO342.out).2.2); (case side12 => exact (Kd.R_reads' HO342.out).2.1); rintro e w102 ⟨rfl, hb⟩; replace HO336 := mk (Kd.R_below (up HO336.out) hb); replace HO339 := mk (Kd.R_below (up HO339.out) hb); replace HO342 := mk (Kd.R_below (up HO342.out) hb); replace HO360 := mk (Kd.R_below (up HO360.out) hb); replace HO363 := mk (Kd.R_below (up HO363.out) hb); replace HO366 := mk (Kd.R_below (up HO366.out) hb); replace BK320 := wb BK320 hb; replace BK321 := wb BK321 hb; replace BK345 := wb BK345 hb; replace BK355 := wb BK355 hb; replace BK369 := wb BK369 hb; replace HB := wh hb; (try clear hb); (try clear hb2); (try clear hk); (try clear hi); obtain ⟨hcz103_0, hcz103_1, hcz103_2, hfz103_0, hfz103_1, hfz103_2⟩ := bz3 BK369) | ((with_reducible refine gate_callee (f := 11) rfl ?_); refine gl (some 85) rfl Try.func11 #[.agg #[.slice Ao78 t358.length co78, .slice Ao80 t361.length co80, .slice Ao82 t364.length co82], .int .i64 1] ?_; (with_reducible refine (laws_markCracker.calls k (fun k_ => some k_ = (.slice Ao78 t358.length co78 : Value).ownBlock) (.slice Ao78 t358.length co78) t358 (fun k_ => some k_ = (.slice Ao80 t361.length co80 : Value).ownBlock) (.slice Ao80 t361.length co80) t361 (fun k_ => some k_ = (.slice Ao82 t364.length co82 : Value).ownBlock) (.slice Ao82 t364.length co82) t364 1 t386 t387 t388 t389 w _ ?side1 ?side2 ?side3 ?side4 ?side5 ?side6 A27.out).mono ?_); (case side1 => repeat (first | (with_reducible first | exact HB.out | apply below_alloc | apply pw_below_drewN | apply below_drew1 | refine below_set ?_ GE320.out | refine below_set ?_ GE321.out | refine below_set ?_ GE345.out | refine below_set ?_ GE355.out | refine below_set ?_ GE369.out) | exact HB.out)); (case side2 => exact Kd.R_tight rfl HO360.out); (case side3 => exact fun k_ e_ => by first | exact (HO360.out.1 k_ e_.symm).2.2 | (have h_ := (HO360.out.1 k_ e_.symm); first | exact h_ | exact h_.1 | exact h_.1.1 | exact h_.1.1.1 | exact h_.1.1.1.1 | exact h_.1.1.1.1.1 | exact h_.1.1.1.1.1.1 | exact h_.1.1.1.1.1.1.1 | exact h_.2 | exact h_.1.2 | exact h_.1.1.2 | exact h_.1.1.1.2 | exact h_.1.1.1.1.2 | exact h_.1.1.1.1.1.2 | exact h_.1.1.1.1.1.1.2 | exact h_.1.1.1.1.1.1.1.2 | (revert h_; simp only [and_imp]; intros; assumption))); (case side4 => exact Kd.R_tight rfl HO363.out); (case side5 => exact fun k_ e_ => by first | exact (HO363.out.1 k_ e_.symm).2.2 | (have h_ := (HO363.out.1 k_ e_.symm); first | exact h_ | exact h_.1 | exact h_.1.1 | exact h_.1.1.1 | exact h_.1.1.1.1 | exact h_.1.1.1.1.1 | exact h_.1.1.1.1.1.1 | exact h_.1.1.1.1.1.1.1 | exact h_.2 | exact h_.1.2 | exact h_.1.1.2 | exact h_.1.1.1.2 | exact h_.1.1.1.1.2 | exact h_.1.1.1.1.1.2 | exact h_.1.1.1.1.1.1.2 | exact h_.1.1.1.1.1.1.1.2 | (revert h_; simp only [and_imp]; intros; assumption))); (case side6 => exact Kd.R_tight rfl HO366.out); rintro e w104 ⟨rfl, hy0, hy1, hy2, hb, hkp⟩; refine ⟨_, rfl, ?_⟩; replace BK320 := mk (blk_kept (ub BK320.out) hkp (fun hs_ => Or.elim hs_ (fun e_ => (fun e_ => (Kd.R_ne HO360.out BK320.out (by decide)) e_) e_) (fun e_ => Or.elim e_ (fun e_ => (fun e_ => (Kd.R_ne HO363.out BK320.out (by decide)) e_) e_) (fun e_ => (fun e_ => (Kd.R_ne HO366.out BK320.out (by decide)) e_) e_)))); replace BK321 := mk (blk_kept (ub BK321.out) hkp (fun hs_ => Or.elim hs_ (fun e_ => (fun e_ => (Kd.R_ne HO360.out BK321.out (by decide)) e_) e_) (fun e_ => Or.elim e_ (fun e_ => (fun e_ => (Kd.R_ne HO363.out BK321.out (by decide)) e_) e_) (fun e_ => (fun e_ => (Kd.R_ne HO366.out BK321.out (by decide)) e_) e_)))); replace HO336 := mk (Kd.R_mono (ok' := fun k_ => some k_ ≠ (.slice Ao57 t337.length co57 : Value).ownBlock ∧ some k_ ≠ (.slice Ao78 t358.length co78 : Value).ownBlock ∧ some k_ ≠ (.slice Ao80 t361.length co80 : Value).ownBlock) (Kd.R_keptB ((Kd.R_apart' HO336.out (Kd.R_typed HO366.out) (by decide))) hkp (fun k_ hk_ hs_ => Or.elim hs_ (fun e_ => absurd e_ (by first | exact hk_.1.2.1 | (revert hk_; simp only [and_imp]; intros; assumption))) (fun e_ => Or.elim e_ (fun e_ => absurd e_ (by first | exact hk_.1.2.2 | (revert hk_; simp only [and_imp]; intros; assumption))) (fun e_ => absurd e_ (by first | exact hk_.2 | (revert hk_; simp only [and_imp]; intros; assumption)))))) (fun k_ hk_ => by first | exact ⟨hk_.1.1.1, hk_.1.1.2.1, hk_.1.1.2.2⟩ | (revert hk_; simp only [and_imp]; intros; (repeat' (refine And.intro ?_ ?_)) <;> assumption))); replace HO339 := mk (Kd.R_mono (ok' := fun k_ => some k_ ≠ (.slice Ao55 t334.length co55 : Value).ownBlock ∧ some k_ ≠ (.slice Ao78 t358.length co78 : Value).ownBlock ∧ some k_ ≠ (.slice Ao80 t361.length co80 : Value).ownBlock) (Kd.R_keptB ((Kd.R_apart' HO339.out (Kd.R_typed HO366.out) (by decide))) hkp (fun k_ hk_ hs_ => Or.elim hs_ (fun e_ => absurd e_ (by first | exact hk_.1.2.1 | (revert hk_; simp only [and_imp]; intros; assumption))) (fun e_ => Or.elim e_ (fun e_ => absurd e_ (by first | exact hk_.1.2.2 | (revert hk_; simp only [and_imp]; intros; assumption))) (fun e_ => absurd e_ (by first | exact hk_.2 | (revert hk_; simp only [and_imp]; intros; assumption)))))) (fun k_ hk_ => by first | exact ⟨hk_.1.1.1, hk_.1.1.2.1, hk_.1.1.2.2⟩ | (revert hk_; simp only [and_imp]; intros; (repeat' (refine And.intro ?_ ?_)) <;> assumption))); replace HO342 := mk (Kd.R_mono (ok' := fun k_ => some k_ ≠ (.slice Ao82 t364.length co82 : Value).ownBlock) (Kd.R_keptB ((Kd.R_apart' (Kd.R_apart' HO342.out (Kd.R_typed HO360.out) (by decide)) (Kd.R_typed HO363.out) (by decide))) hkp (fun k_ hk_ hs_ => Or.elim hs_ (fun e_ => absurd e_ (by first | exact hk_.1.2 | (revert hk_; simp only [and_imp]; intros; assumption))) (fun e_ => Or.elim e_ (fun e_ => absurd e_ (by first | exact hk_.2 | (revert hk_; simp only [and_imp]; intros; assumption))) (fun e_ => absurd e_ (by first | exact hk_.1.1 | (revert hk_; simp only [and_imp]; intros; assumption)))))) (fun k_ hk_ => by first | exact hk_.1.1.1 | (revert hk_; simp only [and_imp]; intros; (repeat' (refine And.intro ?_ ?_)) <;> assumption))); replace BK345 := mk (blk_kept (ub BK345.out) hkp (fun hs_ => Or.elim hs_ (fun e_ => (fun e_ => (Kd.R_ne HO360.out BK345.out (by decide)) e_) e_) (fun e_ => Or.elim e_ (fun e_ => (fun e_ => (Kd.R_ne HO363.out BK345.out (by decide)) e_) e_) (fun e_ => (fun e_ => (Kd.R_ne HO366.out BK345.out (by decide)) e_) e_)))); replace BK355 := mk (blk_kept (ub BK355.out) hkp (fun hs_ => Or.elim hs_ (fun e_ => (fun e_ => (Kd.R_ne HO360.out BK355.out (by decide)) e_) e_) (fun e_ => Or.elim e_ (fun e_ => (fun e_ => (Kd.R_ne HO363.out BK355.out (by decide)) e_) e_) (fun e_ => (fun e_ => (Kd.R_ne HO366.out BK355.out (by decide)) e_) e_)))); replace BK369 := mk (blk_kept (ub BK369.out) hkp (fun hs_ => Or.elim hs_ (fun e_ => (fun e_ => (Kd.R_ne HO360.out BK369.out (by decide)) e_) e_) (fun e_ => Or.elim e_ (fun e_ => (fun e_ => (Kd.R_ne HO363.out BK369.out (by decide)) e_) e_) (fun e_ => (fun e_ => (Kd.R_ne HO366.out BK369.out (by decide)) e_) e_)))); replace HO360 := mk (Kd.R_reok rfl hy0 (fun k_ e_ => HO360.out.1 k_ e_)); replace HO363 := mk (Kd.R_reok rfl hy1 (fun k_ e_ => HO363.out.1 k_ e_)); replace HO366 := mk (Kd.R_reok rfl hy2 (fun k_ e_ => HO366.out.1 k_ e_)); replace HB := mk hb; (try clear hb); (try clear hkp); (try clear hy0); (try clear hy1); (try clear hy2); obtain ⟨hcz105_0, hcz105_1, hcz105_2, hfz105_0, hfz105_1, hfz105_2⟩ := bz3 BK369) | ((with_reducible refine gate_callee (f := 12) rfl ?_); refine goesL_ (some 88) rfl rfl Try.func12 (by kernel_rfl) rfl #[.agg #[.slice Ao78 t387.length co78, .slice Ao80 t388.length co80, .slice Ao82 t389.length co82], .int .i64 1] rfl (by (try simp only [List.map_toArray, List.map_cons, List.map_nil]); first | done | (rw [show t387.length = t358.length from (Kd.R_reads' HO360.out).1.symm, show t388.length = t361.length from (Kd.R_reads' HO363.out).1.symm, show t389.length = t364.length from (Kd.R_reads' HO366.out).1.symm] <;> rfl) | rfl | (simp only [List.length_drop, List.length_take]; rfl)) ?_; (with_reducible refine (laws_heldCracker.calls k _ _ t387 _ _ t388 _ _ t389 1 t390 _ ?side1 ?side2 ?side3 ?side4 ?side5 ?side6 A28.out).mono ?_); (case side1 => exact uc (Kd.R_reads' HO360.out).2.2); (case side2 => rw [show t387.length = t358.length from (Kd.R_reads' HO360.out).1.symm]; exact (Kd.R_reads' HO360.out).2.1); (case side3 => exact uc (Kd.R_reads' HO363.out).2.2); (case side4 => rw [show t388.length = t361.length from (Kd.R_reads' HO363.out).1.symm]; exact (Kd.R_reads' HO363.out).2.1); (case side5 => exact uc (Kd.R_reads' HO366.out).2.2); (case side6 => rw [show t389.length = t364.length from (Kd.R_reads' HO366.out).1.symm]; exact (Kd.R_reads' HO366.out).2.1); rintro e w106 ⟨rfl, hb⟩; refine ⟨_, rfl, ?_⟩; replace HO336 := mk (Kd.R_below (up HO336.out) hb); replace HO339 := mk (Kd.R_below (up HO339.out) hb); replace HO342 := mk (Kd.R_below (up HO342.out) hb); replace HO360 := mk (Kd.R_below (up HO360.out) hb); replace HO363 := mk (Kd.R_below (up HO363.out) hb); replace HO366 := mk (Kd.R_below (up HO366.out) hb); replace BK320 := wb BK320 hb; replace BK321 := wb BK321 hb; replace BK345 := wb BK345 hb; replace BK355 := wb BK355 hb; replace BK369 := wb BK369 hb; replace HB := wh hb; (try clear hb); (try clear hb2); (try clear hk); (try clear hi)))
               replace HO336 := mk (Kd.R_drew HO336.out)
               replace HO339 := mk (Kd.R_drew HO339.out)
               replace HO342 := mk (Kd.R_drew HO342.out)
               replace HO360 := mk (Kd.R_drew HO360.out)
               replace HO363 := mk (Kd.R_drew HO363.out)
               replace HO366 := mk (Kd.R_drew HO366.out)
               replace BK320 := wd BK320
               replace BK321 := wd BK321
               replace BK345 := wd BK345
               replace BK355 := wd BK355
               replace BK369 := wd BK369
               replace HB := mk (below_drew1 HB.out)
               refine start_ (n := 13) (S := fun w' => w'.cell? ⟨gb320, 0, none⟩ = some (.slice A0_0 l0_0.length c0_0) ∧ w'.cell? ⟨gb320, 1, none⟩ = some (.slice A0_1 l0_1.length c0_1) ∧ w'.cell? ⟨gb320, 2, none⟩ = some (.slice A0_2 l0_2.length c0_2) ∧ w'.cell? ⟨gb321, 0, none⟩ = some (.int .i64 a1_0) ∧ w'.cell? ⟨gb321, 1, none⟩ = some (.int .i64 a1_1)) (ds := []) #[F_, F_, F_, F_, F_, F_, F_, F_, F_, F_, F_, F_, F_] (by kernel_rfl) rfl rfl ⟨(blk_cell BK320.out 0).trans rfl, (blk_cell BK320.out 1).trans rfl, (blk_cell BK320.out 2).trans rfl, (blk_cell BK321.out 0).trans rfl, (blk_cell BK321.out 1).trans rfl⟩ (fun hHeld => ?_); refine with_tabW laws_FnExactRippleInsert.tab24 laws_FnExactRippleInsert.bits24 (fun HT_ HW_ => ?_)
               generalize w106.drew = w107 at HO336 HO339 HO342 HO360 HO363 HO366 BK320 BK321 BK345 BK355 BK369 HB hHeld ⊢
               refine tk 0 95 (tf 1 12) hHeld ?_
               refine tk 2 97 #[T_,F_,T_,F_,F_,F_,F_,F_,F_,F_,F_,F_,F_] hHeld ?_
               refine join_ (σ := Value × Value × Value × Value × Value × Value × Nat) 3 #[T_, T_, T_, T_, T_, T_, T_, T_, T_, T_, F_, F_, F_] (fun s_ => [(96, .agg #[s_.1, s_.2.1, s_.2.2.1]), (98, .agg #[.int .i64 t400, .int .i64 t401]), (99, .tuple #[.agg #[s_.2.2.2.1, s_.2.2.2.2.1, s_.2.2.2.2.2.1], .int .i64 t411, .bool t412]), (16, .pointer (some ⟨s_.2.2.2.2.2.2, 0, none⟩)), (94, .tuple #[.agg #[s_.2.2.2.1, s_.2.2.2.2.1, s_.2.2.2.2.2.1], .int .i64 t411, .bool t412]), (100, .agg #[s_.2.2.2.1, s_.2.2.2.2.1, s_.2.2.2.2.2.1]), (101, .int .i64 t411), (102, .bool t412)]) (fun s_ w' => (w'.cell? ⟨gb320, 0, none⟩ = some (.slice A0_0 l0_0.length c0_0) ∧ w'.cell? ⟨gb320, 1, none⟩ = some (.slice A0_1 l0_1.length c0_1) ∧ w'.cell? ⟨gb320, 2, none⟩ = some (.slice A0_2 l0_2.length c0_2) ∧ w'.cell? ⟨gb321, 0, none⟩ = some (.int .i64 a1_0) ∧ w'.cell? ⟨gb321, 1, none⟩ = some (.int .i64 a1_1)) ∧ (Kd.R (Kd.int .i64) 3 w' w.heap.size (fun k_ => some k_ ≠ (.slice Ao57 t337.length co57 : Value).ownBlock ∧ some k_ ≠ (.slice Ao78 t358.length co78 : Value).ownBlock ∧ some k_ ≠ (.slice Ao80 t361.length co80 : Value).ownBlock ∧ some k_ ≠ (s_.1 : Value).ownBlock ∧ some k_ ≠ (s_.2.1 : Value).ownBlock ∧ some k_ ≠ (s_.2.2.2.1 : Value).ownBlock ∧ some k_ ≠ (s_.2.2.2.2.1 : Value).ownBlock) (.slice Ao55 t334.length co55) t334) ∧ (Kd.R (Kd.int .i64) 3 w' w.heap.size (fun k_ => some k_ ≠ (.slice Ao55 t334.length co55 : Value).ownBlock ∧ some k_ ≠ (.slice Ao78 t358.length co78 : Value).ownBlock ∧ some k_ ≠ (.slice Ao80 t361.length co80 : Value).ownBlock ∧ some k_ ≠ (s_.1 : Value).ownBlock ∧ some k_ ≠ (s_.2.1 : Value).ownBlock ∧ some k_ ≠ (s_.2.2.2.1 : Value).ownBlock ∧ some k_ ≠ (s_.2.2.2.2.1 : Value).ownBlock) (.slice Ao57 t337.length co57) t337) ∧ (Kd.R k50 50 w' w.heap.size (fun k_ => some k_ ≠ (.slice Ao82 t364.length co82 : Value).ownBlock ∧ some k_ ≠ (s_.2.2.1 : Value).ownBlock ∧ some k_ ≠ (s_.2.2.2.2.2.1 : Value).ownBlock) (.slice Ao59 t340.length co59) t340) ∧ (Kd.R (Kd.int .i64) 3 w' w.heap.size (fun k_ => some k_ ≠ (.slice Ao55 t334.length co55 : Value).ownBlock ∧ some k_ ≠ (.slice Ao57 t337.length co57 : Value).ownBlock ∧ some k_ ≠ (.slice Ao80 t361.length co80 : Value).ownBlock ∧ some k_ ≠ (s_.1 : Value).ownBlock ∧ some k_ ≠ (s_.2.1 : Value).ownBlock ∧ some k_ ≠ (s_.2.2.2.1 : Value).ownBlock ∧ some k_ ≠ (s_.2.2.2.2.1 : Value).ownBlock) (.slice Ao78 t358.length co78) t387) ∧ (Kd.R (Kd.int .i64) 3 w' w.heap.size (fun k_ => some k_ ≠ (.slice Ao55 t334.length co55 : Value).ownBlock ∧ some k_ ≠ (.slice Ao57 t337.length co57 : Value).ownBlock ∧ some k_ ≠ (.slice Ao78 t358.length co78 : Value).ownBlock ∧ some k_ ≠ (s_.1 : Value).ownBlock ∧ some k_ ≠ (s_.2.1 : Value).ownBlock ∧ some k_ ≠ (s_.2.2.2.1 : Value).ownBlock ∧ some k_ ≠ (s_.2.2.2.2.1 : Value).ownBlock) (.slice Ao80 t361.length co80) t388) ∧ (Kd.R k50 50 w' w.heap.size (fun k_ => some k_ ≠ (.slice Ao59 t340.length co59 : Value).ownBlock ∧ some k_ ≠ (s_.2.2.1 : Value).ownBlock ∧ some k_ ≠ (s_.2.2.2.2.2.1 : Value).ownBlock) (.slice Ao82 t364.length co82) t389) ∧ (Kd.R (Kd.int .i64) 3 w' w.heap.size (fun k_ => some k_ ≠ (.slice Ao55 t334.length co55 : Value).ownBlock ∧ some k_ ≠ (.slice Ao57 t337.length co57 : Value).ownBlock ∧ some k_ ≠ (.slice Ao78 t358.length co78 : Value).ownBlock ∧ some k_ ≠ (.slice Ao80 t361.length co80 : Value).ownBlock ∧ some k_ ≠ (s_.2.1 : Value).ownBlock ∧ some k_ ≠ (s_.2.2.2.1 : Value).ownBlock ∧ some k_ ≠ (s_.2.2.2.2.1 : Value).ownBlock) s_.1 t391) ∧ (Kd.R (Kd.int .i64) 3 w' w.heap.size (fun k_ => some k_ ≠ (.slice Ao55 t334.length co55 : Value).ownBlock ∧ some k_ ≠ (.slice Ao57 t337.length co57 : Value).ownBlock ∧ some k_ ≠ (.slice Ao78 t358.length co78 : Value).ownBlock ∧ some k_ ≠ (.slice Ao80 t361.length co80 : Value).ownBlock ∧ some k_ ≠ (s_.1 : Value).ownBlock ∧ some k_ ≠ (s_.2.2.2.1 : Value).ownBlock ∧ some k_ ≠ (s_.2.2.2.2.1 : Value).ownBlock) s_.2.1 t394) ∧ (Kd.R k50 50 w' w.heap.size (fun k_ => some k_ ≠ (.slice Ao59 t340.length co59 : Value).ownBlock ∧ some k_ ≠ (.slice Ao82 t364.length co82 : Value).ownBlock ∧ some k_ ≠ (s_.2.2.2.2.2.1 : Value).ownBlock) s_.2.2.1 t397) ∧ (Kd.R (Kd.int .i64) 3 w' w.heap.size (fun k_ => some k_ ≠ (.slice Ao55 t334.length co55 : Value).ownBlock ∧ some k_ ≠ (.slice Ao57 t337.length co57 : Value).ownBlock ∧ some k_ ≠ (.slice Ao78 t358.length co78 : Value).ownBlock ∧ some k_ ≠ (.slice Ao80 t361.length co80 : Value).ownBlock ∧ some k_ ≠ (s_.1 : Value).ownBlock ∧ some k_ ≠ (s_.2.1 : Value).ownBlock ∧ some k_ ≠ (s_.2.2.2.2.1 : Value).ownBlock) s_.2.2.2.1 t402) ∧ (Kd.R (Kd.int .i64) 3 w' w.heap.size (fun k_ => some k_ ≠ (.slice Ao55 t334.length co55 : Value).ownBlock ∧ some k_ ≠ (.slice Ao57 t337.length co57 : Value).ownBlock ∧ some k_ ≠ (.slice Ao78 t358.length co78 : Value).ownBlock ∧ some k_ ≠ (.slice Ao80 t361.length co80 : Value).ownBlock ∧ some k_ ≠ (s_.1 : Value).ownBlock ∧ some k_ ≠ (s_.2.1 : Value).ownBlock ∧ some k_ ≠ (s_.2.2.2.1 : Value).ownBlock) s_.2.2.2.2.1 t405) ∧ (Kd.R k50 50 w' w.heap.size (fun k_ => some k_ ≠ (.slice Ao59 t340.length co59 : Value).ownBlock ∧ some k_ ≠ (.slice Ao82 t364.length co82 : Value).ownBlock ∧ some k_ ≠ (s_.2.2.1 : Value).ownBlock) s_.2.2.2.2.2.1 t408) ∧ (w'.heap[gb320]? = some (.cells #[.slice A0_0 l0_0.length c0_0, .slice A0_1 l0_1.length c0_1, .slice A0_2 l0_2.length c0_2] 25 (0, 0))) ∧ (w'.heap[gb321]? = some (.cells #[.int .i64 a1_0, .int .i64 a1_1] 37 (0, 0))) ∧ (w'.heap[gb345]? = some (.cells #[.slice Ao55 t334.length co55, .slice Ao57 t337.length co57, .slice Ao59 t340.length co59] 29 (0, 0))) ∧ (w'.heap[gb355]? = some (.cells #[.slice Ao65 t346.length co65, .slice Ao70 t349.length co70, .slice Ao71 t352.length co71] 29 (0, 0))) ∧ (w'.heap[gb369]? = some (.cells #[.slice Ao78 t358.length co78, .slice Ao80 t361.length co80, .slice Ao82 t364.length co82] 29 (0, 0))) ∧ (w'.heap[s_.2.2.2.2.2.2]? = some (.cells #[.slice none 0 0, .slice none 0 0, .slice none 0 0] 29 (0, 0))) ∧ (w.heap.size ≤ s_.2.2.2.2.2.2) ∧ (w.heap.size ≤ s_.2.2.2.2.2.2) ∧ (gb320 ≠ s_.2.2.2.2.2.2) ∧ (s_.2.2.2.2.2.2 ≠ gb320) ∧ (gb321 ≠ s_.2.2.2.2.2.2) ∧ (s_.2.2.2.2.2.2 ≠ gb321) ∧ (gb345 ≠ s_.2.2.2.2.2.2) ∧ (s_.2.2.2.2.2.2 ≠ gb345) ∧ (gb355 ≠ s_.2.2.2.2.2.2) ∧ (s_.2.2.2.2.2.2 ≠ gb355) ∧ (gb369 ≠ s_.2.2.2.2.2.2) ∧ (s_.2.2.2.2.2.2 ≠ gb369) ∧ (Below w.heap.size w w')) ?_ ?_
               rotate_left
               ·intro hCont
                refine two_ (i := 1) (j := 9) (Ni := some 96) (Nj := some 16) #[T_, T_, T_, F_, F_, F_, F_, F_, F_, F_, F_, F_, F_] #[T_, F_, T_, F_, F_, F_, F_, F_, F_, T_, F_, F_, F_] rfl rfl rfl rfl (two_of HT_.out (by kernel_rfl)) (by decide) (by decide) (fun K hK => ?_) (fun K hK => ?_)
                ·skip
                 refine gs Try.func8 #[.agg #[.slice A0_0 l0_0.length c0_0, .slice A0_1 l0_1.length c0_1, .slice A0_2 l0_2.length c0_2]] ?_
                 with_reducible refine (laws_toCracker.calls k _ _ l0_0 _ _ l0_1 _ _ l0_2 t391 t394 t397 _ ?side1 ?side2 ?side3 ?side4 ?side5 ?side6 A31.out).mono ?_
                 (case side1 => exact uc (Kd.C_below HR0_0.out HB.out))
                 (case side2 => exact HC0_0.out)
                 (case side3 => exact uc (Kd.C_below HR0_1.out HB.out))
                 (case side4 => exact HC0_1.out)
                 (case side5 => exact uc (Kd.C_below HR0_2.out HB.out))
                 (case side6 => exact HC0_2.out)
                 rintro e w108 ⟨v392, v395, v398, rfl, ho0, ho1, ho2, hb⟩
                 refine ⟨_, rfl, ?_⟩
                 have HO393 := mk (Kd.R_lower (Kd.R_new' (Kd.R_new' (Kd.R_new' (Kd.R_new' ho0 (Kd.R_lt (up HO336.out))) (Kd.R_lt (up HO339.out))) (Kd.R_lt (up HO360.out))) (Kd.R_lt (up HO363.out))) (below_size bl))
                 have HO396 := mk (Kd.R_lower (Kd.R_new' (Kd.R_new' (Kd.R_new' (Kd.R_new' ho1 (Kd.R_lt (up HO336.out))) (Kd.R_lt (up HO339.out))) (Kd.R_lt (up HO360.out))) (Kd.R_lt (up HO363.out))) (below_size bl))
                 replace HO336 := mk (Kd.R_mono (Kd.R_told (Kd.R_told (Kd.R_old (up HO336.out) hb) (Kd.R_base ho0)) (Kd.R_base ho1)) (fun _ h_ => h_.1))
                 replace HO339 := mk (Kd.R_mono (Kd.R_told (Kd.R_told (Kd.R_old (up HO339.out) hb) (Kd.R_base ho0)) (Kd.R_base ho1)) (fun _ h_ => h_.1))
                 replace HO360 := mk (Kd.R_mono (Kd.R_told (Kd.R_told (Kd.R_old (up HO360.out) hb) (Kd.R_base ho0)) (Kd.R_base ho1)) (fun _ h_ => h_.1))
                 replace HO363 := mk (Kd.R_mono (Kd.R_told (Kd.R_told (Kd.R_old (up HO363.out) hb) (Kd.R_base ho0)) (Kd.R_base ho1)) (fun _ h_ => h_.1))
                 have HO399 := mk (Kd.R_lower (Kd.R_new' (Kd.R_new' ho2 (Kd.R_lt (up HO342.out))) (Kd.R_lt (up HO366.out))) (below_size bl))
                 replace HO342 := mk (Kd.R_elder' (up HO342.out) (Kd.R_base ho2) hb)
                 replace HO366 := mk (Kd.R_elder' (up HO366.out) (Kd.R_base ho2) hb)
                 replace BK320 := wb BK320 hb
                 replace BK321 := wb BK321 hb
                 replace BK345 := wb BK345 hb
                 replace BK355 := wb BK355 hb
                 replace BK369 := wb BK369 hb
                 replace HB := wh hb
                 (try clear hb)
                 (try clear hb2)
                 (try clear hk)
                 (try clear hi)
                 (try clear ho0)
                 (try clear ho1)
                 (try clear ho2)
                 refine hK.out _ _ ⟨(blk_cell BK320.out 0).trans rfl, (blk_cell BK320.out 1).trans rfl, (blk_cell BK320.out 2).trans rfl, (blk_cell BK321.out 0).trans rfl, (blk_cell BK321.out 1).trans rfl⟩ (fun hHeld => ?_)
                 clear hK K
                 refine nm 96 ?_
                 refine two_ (i := 3) (j := 9) (Ni := some 98) (Nj := some 16) #[T_, T_, T_, T_, F_, F_, F_, F_, F_, F_, F_, F_, F_] #[T_, T_, T_, F_, F_, F_, F_, F_, F_, T_, F_, F_, F_] rfl rfl rfl rfl (two_of HT_.out (by kernel_rfl)) (by decide) (by decide) (fun K hK => ?_) (fun K hK => ?_)
                 ·skip
                  refine gs Try.func14 #[.agg #[.int .i64 a1_0, .int .i64 a1_1]] ?_
                  with_reducible refine (laws_toItem.calls a1_0 a1_1 t400 t401 _ A32.out).mono ?_
                  rintro e w109 ⟨rfl, hb⟩
                  refine ⟨_, rfl, ?_⟩
                  replace HO336 := mk (Kd.R_below (up HO336.out) hb)
                  replace HO339 := mk (Kd.R_below (up HO339.out) hb)
                  replace HO342 := mk (Kd.R_below (up HO342.out) hb)
                  replace HO360 := mk (Kd.R_below (up HO360.out) hb)
                  replace HO363 := mk (Kd.R_below (up HO363.out) hb)
                  replace HO366 := mk (Kd.R_below (up HO366.out) hb)
                  replace HO393 := mk (Kd.R_below (up HO393.out) hb)
                  replace HO396 := mk (Kd.R_below (up HO396.out) hb)
                  replace HO399 := mk (Kd.R_below (up HO399.out) hb)
                  replace BK320 := wb BK320 hb
                  replace BK321 := wb BK321 hb
                  replace BK345 := wb BK345 hb
                  replace BK355 := wb BK355 hb
                  replace BK369 := wb BK369 hb
                  replace HB := wh hb
                  (try clear hb)
                  (try clear hb2)
                  (try clear hk)
                  (try clear hi)
                  obtain ⟨Ao110, co110, eo110⟩ := Kd.R_slice HO393.out
                  (first | subst eo110 | (injection eo110 with f1_ f2_ f3_; have f4_ := f1_.symm; have f5_ := f3_.symm; clear f1_ f2_ f3_; subst f4_; subst f5_))
                  obtain ⟨Ao111, co111, eo111⟩ := Kd.R_slice HO396.out
                  (first | subst eo111 | (injection eo111 with f1_ f2_ f3_; have f4_ := f1_.symm; have f5_ := f3_.symm; clear f1_ f2_ f3_; subst f4_; subst f5_))
                  obtain ⟨Ao112, co112, eo112⟩ := Kd.R_slice HO399.out
                  (first | subst eo112 | (injection eo112 with f1_ f2_ f3_; have f4_ := f1_.symm; have f5_ := f3_.symm; clear f1_ f2_ f3_; subst f4_; subst f5_))
                  refine hK.out _ _ ⟨(blk_cell BK320.out 0).trans rfl, (blk_cell BK320.out 1).trans rfl, (blk_cell BK320.out 2).trans rfl, (blk_cell BK321.out 0).trans rfl, (blk_cell BK321.out 1).trans rfl⟩ (fun hHeld => ?_)
                  clear hK K
                  refine nm 98 ?_
                  refine two_ (i := 4) (j := 9) (Ni := some 99) (Nj := some 16) #[T_, T_, T_, T_, T_, F_, F_, F_, F_, F_, F_, F_, F_] #[T_, T_, T_, T_, F_, F_, F_, F_, F_, T_, F_, F_, F_] rfl rfl rfl rfl (two_of HT_.out (by kernel_rfl)) (by decide) (by decide) (fun K hK => ?_) (fun K hK => ?_)
                  ·skip
                   refine gs Try.func15 #[.agg #[.slice Ao110 t391.length co110, .slice Ao111 t394.length co111, .slice Ao112 t397.length co112], .agg #[.int .i64 t400, .int .i64 t401]] ?_
                   with_reducible refine (impl_RippleInsert.calls k _ _ t391 _ _ t394 _ _ t397 t400 t401 t402 t405 t408 t411 t412 _ ?side1 ?side2 ?side3 ?side4 ?side5 ?side6 A33.out).mono ?_
                   (case side1 => exact uc (Kd.R_reads' HO393.out).2.2)
                   (case side2 => exact (Kd.R_reads' HO393.out).2.1)
                   (case side3 => exact uc (Kd.R_reads' HO396.out).2.2)
                   (case side4 => exact (Kd.R_reads' HO396.out).2.1)
                   (case side5 => exact uc (Kd.R_reads' HO399.out).2.2)
                   (case side6 => exact (Kd.R_reads' HO399.out).2.1)
                   rintro e w113 ⟨v403, v406, v409, rfl, ho0, ho1, ho2, hb⟩
                   refine ⟨_, rfl, ?_⟩
                   have HO404 := mk (Kd.R_lower (Kd.R_new' (Kd.R_new' (Kd.R_new' (Kd.R_new' (Kd.R_new' (Kd.R_new' ho0 (Kd.R_lt (up HO336.out))) (Kd.R_lt (up HO339.out))) (Kd.R_lt (up HO360.out))) (Kd.R_lt (up HO363.out))) (Kd.R_lt (up HO393.out))) (Kd.R_lt (up HO396.out))) (below_size bl))
                   have HO407 := mk (Kd.R_lower (Kd.R_new' (Kd.R_new' (Kd.R_new' (Kd.R_new' (Kd.R_new' (Kd.R_new' ho1 (Kd.R_lt (up HO336.out))) (Kd.R_lt (up HO339.out))) (Kd.R_lt (up HO360.out))) (Kd.R_lt (up HO363.out))) (Kd.R_lt (up HO393.out))) (Kd.R_lt (up HO396.out))) (below_size bl))
                   replace HO336 := mk (Kd.R_mono (Kd.R_told (Kd.R_told (Kd.R_old (up HO336.out) hb) (Kd.R_base ho0)) (Kd.R_base ho1)) (fun _ h_ => h_.1))
                   replace HO339 := mk (Kd.R_mono (Kd.R_told (Kd.R_told (Kd.R_old (up HO339.out) hb) (Kd.R_base ho0)) (Kd.R_base ho1)) (fun _ h_ => h_.1))
                   replace HO360 := mk (Kd.R_mono (Kd.R_told (Kd.R_told (Kd.R_old (up HO360.out) hb) (Kd.R_base ho0)) (Kd.R_base ho1)) (fun _ h_ => h_.1))
                   replace HO363 := mk (Kd.R_mono (Kd.R_told (Kd.R_told (Kd.R_old (up HO363.out) hb) (Kd.R_base ho0)) (Kd.R_base ho1)) (fun _ h_ => h_.1))
                   replace HO393 := mk (Kd.R_mono (Kd.R_told (Kd.R_told (Kd.R_old (up HO393.out) hb) (Kd.R_base ho0)) (Kd.R_base ho1)) (fun _ h_ => h_.1))
                   replace HO396 := mk (Kd.R_mono (Kd.R_told (Kd.R_told (Kd.R_old (up HO396.out) hb) (Kd.R_base ho0)) (Kd.R_base ho1)) (fun _ h_ => h_.1))
                   have HO410 := mk (Kd.R_lower (Kd.R_new' (Kd.R_new' (Kd.R_new' ho2 (Kd.R_lt (up HO342.out))) (Kd.R_lt (up HO366.out))) (Kd.R_lt (up HO399.out))) (below_size bl))
                   replace HO342 := mk (Kd.R_elder' (up HO342.out) (Kd.R_base ho2) hb)
                   replace HO366 := mk (Kd.R_elder' (up HO366.out) (Kd.R_base ho2) hb)
                   replace HO399 := mk (Kd.R_elder' (up HO399.out) (Kd.R_base ho2) hb)
                   replace BK320 := wb BK320 hb
                   replace BK321 := wb BK321 hb
                   replace BK345 := wb BK345 hb
                   replace BK355 := wb BK355 hb
                   replace BK369 := wb BK369 hb
                   replace HB := wh hb
                   (try clear hb)
                   (try clear hb2)
                   (try clear hk)
                   (try clear hi)
                   (try clear ho0)
                   (try clear ho1)
                   (try clear ho2)
                   refine hK.out _ _ ⟨(blk_cell BK320.out 0).trans rfl, (blk_cell BK320.out 1).trans rfl, (blk_cell BK320.out 2).trans rfl, (blk_cell BK321.out 0).trans rfl, (blk_cell BK321.out 1).trans rfl⟩ (fun hHeld => ?_)
                   clear hK K
                   refine nm 99 ?_
                   refine pu 5 94 (tf 6 7) ?_
                   refine pu 6 100 (tf 7 6) ?_
                   refine pu 7 101 (tf 8 5) ?_
                   refine pu 8 102 (tf 9 4) ?_
                   refine on 9 16 (tf 10 3) (fun K hK => ?_)
                   refine box_step ?hg (N := 16) ?hd (cs := #[.slice none 0 0, .slice none 0 0, .slice none 0 0]) (t := 29) ?hr ?_; (case hd => rfl); (case hg => rfl); (case hr => first | (go_simp; done) | (go_simp; rfl))
                   intro gb413 hg w114 hbox hb
                   replace HO336 := mk (Kd.R_below (up HO336.out) hb)
                   replace HO339 := mk (Kd.R_below (up HO339.out) hb)
                   replace HO342 := mk (Kd.R_below (up HO342.out) hb)
                   replace HO360 := mk (Kd.R_below (up HO360.out) hb)
                   replace HO363 := mk (Kd.R_below (up HO363.out) hb)
                   replace HO366 := mk (Kd.R_below (up HO366.out) hb)
                   replace HO393 := mk (Kd.R_below (up HO393.out) hb)
                   replace HO396 := mk (Kd.R_below (up HO396.out) hb)
                   replace HO399 := mk (Kd.R_below (up HO399.out) hb)
                   replace HO404 := mk (Kd.R_below (up HO404.out) hb)
                   replace HO407 := mk (Kd.R_below (up HO407.out) hb)
                   replace HO410 := mk (Kd.R_below (up HO410.out) hb)
                   have BK413 := mk hbox
                   have GW413 := wg hg
                   have GE413 := wg hg
                   replace HB := wh hb
                   have NB320_413 := nl BK320 hg
                   have NB413_320 := nr BK320 hg
                   replace BK320 := wb BK320 hb
                   have NB321_413 := nl BK321 hg
                   have NB413_321 := nr BK321 hg
                   replace BK321 := wb BK321 hb
                   have NB345_413 := nl BK345 hg
                   have NB413_345 := nr BK345 hg
                   replace BK345 := wb BK345 hb
                   have NB355_413 := nl BK355 hg
                   have NB413_355 := nr BK355 hg
                   replace BK355 := wb BK355 hb
                   have NB369_413 := nl BK369 hg
                   have NB413_369 := nr BK369 hg
                   replace BK369 := wb BK369 hb
                   clear hb hbox hg
                   refine hK.out _ _ ⟨(blk_cell BK320.out 0).trans rfl, (blk_cell BK320.out 1).trans rfl, (blk_cell BK320.out 2).trans rfl, (blk_cell BK321.out 0).trans rfl, (blk_cell BK321.out 1).trans rfl⟩ (fun hHeld => ?_)
                   clear hK K
                   refine nm 16 ?_
                   exact norm_ (by simp only [putAll, Act.put, List.setIfInBounds_toArray, List.set_cons_zero, List.set_cons_succ]) (hCont (.slice Ao110 t391.length co110, .slice Ao111 t394.length co111, .slice Ao112 t397.length co112, v403, v406, v409, gb413) _ ⟨hHeld, (by exact up (Kd.R_mono HO336.out (fun _ hk => by first | exact ⟨hk.1.1.1.1.1, ⟨hk.1.1.1.1.2.1, ⟨hk.1.1.1.1.2.2, ⟨hk.1.1.1.2, ⟨hk.1.1.2, ⟨hk.1.2, hk.2⟩⟩⟩⟩⟩⟩ | (revert hk; simp only [and_imp]; intros; (repeat' (refine And.intro ?_ ?_)) <;> assumption)))), (by exact up (Kd.R_mono HO339.out (fun _ hk => by first | exact ⟨hk.1.1.1.1.1, ⟨hk.1.1.1.1.2.1, ⟨hk.1.1.1.1.2.2, ⟨hk.1.1.1.2, ⟨hk.1.1.2, ⟨hk.1.2, hk.2⟩⟩⟩⟩⟩⟩ | (revert hk; simp only [and_imp]; intros; (repeat' (refine And.intro ?_ ?_)) <;> assumption)))), (by exact up (Kd.R_mono HO342.out (fun _ hk => by first | exact ⟨hk.1.1, ⟨hk.1.2, hk.2⟩⟩ | (revert hk; simp only [and_imp]; intros; (repeat' (refine And.intro ?_ ?_)) <;> assumption)))), (by exact up (Kd.R_mono HO360.out (fun _ hk => by first | exact ⟨hk.1.1.1.1.1, ⟨hk.1.1.1.1.2.1, ⟨hk.1.1.1.1.2.2, ⟨hk.1.1.1.2, ⟨hk.1.1.2, ⟨hk.1.2, hk.2⟩⟩⟩⟩⟩⟩ | (revert hk; simp only [and_imp]; intros; (repeat' (refine And.intro ?_ ?_)) <;> assumption)))), (by exact up (Kd.R_mono HO363.out (fun _ hk => by first | exact ⟨hk.1.1.1.1.1, ⟨hk.1.1.1.1.2.1, ⟨hk.1.1.1.1.2.2, ⟨hk.1.1.1.2, ⟨hk.1.1.2, ⟨hk.1.2, hk.2⟩⟩⟩⟩⟩⟩ | (revert hk; simp only [and_imp]; intros; (repeat' (refine And.intro ?_ ?_)) <;> assumption)))), (by exact up (Kd.R_mono HO366.out (fun _ hk => by first | exact ⟨hk.1.1, ⟨hk.1.2, hk.2⟩⟩ | (revert hk; simp only [and_imp]; intros; (repeat' (refine And.intro ?_ ?_)) <;> assumption)))), (by exact up (Kd.R_mono HO393.out (fun _ hk => by first | exact ⟨hk.1.1.1.1.1.2, ⟨hk.1.1.1.1.2, ⟨hk.1.1.1.2, ⟨hk.1.1.2, ⟨hk.1.1.1.1.1.1, ⟨hk.1.2, hk.2⟩⟩⟩⟩⟩⟩ | (revert hk; simp only [and_imp]; intros; (repeat' (refine And.intro ?_ ?_)) <;> assumption)))), (by exact up (Kd.R_mono HO396.out (fun _ hk => by first | exact ⟨hk.1.1.1.1.1.2, ⟨hk.1.1.1.1.2, ⟨hk.1.1.1.2, ⟨hk.1.1.2, ⟨hk.1.1.1.1.1.1, ⟨hk.1.2, hk.2⟩⟩⟩⟩⟩⟩ | (revert hk; simp only [and_imp]; intros; (repeat' (refine And.intro ?_ ?_)) <;> assumption)))), (by exact up (Kd.R_mono HO399.out (fun _ hk => by first | exact ⟨hk.1.1.2, ⟨hk.1.2, hk.2⟩⟩ | (revert hk; simp only [and_imp]; intros; (repeat' (refine And.intro ?_ ?_)) <;> assumption)))), (by exact up (Kd.R_mono HO404.out (fun _ hk => by first | exact ⟨hk.1.1.1.1.1.2, ⟨hk.1.1.1.1.2, ⟨hk.1.1.1.2, ⟨hk.1.1.2, ⟨hk.1.2, ⟨hk.2, hk.1.1.1.1.1.1⟩⟩⟩⟩⟩⟩ | (revert hk; simp only [and_imp]; intros; (repeat' (refine And.intro ?_ ?_)) <;> assumption)))), (by exact up (Kd.R_mono HO407.out (fun _ hk => by first | exact ⟨hk.1.1.1.1.1.2, ⟨hk.1.1.1.1.2, ⟨hk.1.1.1.2, ⟨hk.1.1.2, ⟨hk.1.2, ⟨hk.2, hk.1.1.1.1.1.1⟩⟩⟩⟩⟩⟩ | (revert hk; simp only [and_imp]; intros; (repeat' (refine And.intro ?_ ?_)) <;> assumption)))), (by exact up (Kd.R_mono HO410.out (fun _ hk => by first | exact ⟨hk.1.1.2, ⟨hk.1.2, hk.2⟩⟩ | (revert hk; simp only [and_imp]; intros; (repeat' (refine And.intro ?_ ?_)) <;> assumption)))), (ub BK320.out), (ub BK321.out), (ub BK345.out), (ub BK355.out), (ub BK369.out), (ub BK413.out), GW413.out, GE413.out, NB320_413.out, NB413_320.out, NB321_413.out, NB413_321.out, NB345_413.out, NB413_345.out, NB355_413.out, NB413_355.out, NB369_413.out, NB413_369.out, bl⟩)
                  ·skip
                   refine box_step ?hg (N := 16) ?hd (cs := #[.slice none 0 0, .slice none 0 0, .slice none 0 0]) (t := 29) ?hr ?_; (case hd => rfl); (case hg => rfl); (case hr => first | (go_simp; done) | (go_simp; rfl))
                   intro gb413 hg w110 hbox hb
                   replace HO336 := mk (Kd.R_below (up HO336.out) hb)
                   replace HO339 := mk (Kd.R_below (up HO339.out) hb)
                   replace HO342 := mk (Kd.R_below (up HO342.out) hb)
                   replace HO360 := mk (Kd.R_below (up HO360.out) hb)
                   replace HO363 := mk (Kd.R_below (up HO363.out) hb)
                   replace HO366 := mk (Kd.R_below (up HO366.out) hb)
                   replace HO393 := mk (Kd.R_below (up HO393.out) hb)
                   replace HO396 := mk (Kd.R_below (up HO396.out) hb)
                   replace HO399 := mk (Kd.R_below (up HO399.out) hb)
                   have BK413 := mk hbox
                   have GW413 := wg hg
                   have GE413 := wg hg
                   replace HB := wh hb
                   have NB320_413 := nl BK320 hg
                   have NB413_320 := nr BK320 hg
                   replace BK320 := wb BK320 hb
                   have NB321_413 := nl BK321 hg
                   have NB413_321 := nr BK321 hg
                   replace BK321 := wb BK321 hb
                   have NB345_413 := nl BK345 hg
                   have NB413_345 := nr BK345 hg
                   replace BK345 := wb BK345 hb
                   have NB355_413 := nl BK355 hg
                   have NB413_355 := nr BK355 hg
                   replace BK355 := wb BK355 hb
                   have NB369_413 := nl BK369 hg
                   have NB413_369 := nr BK369 hg
                   replace BK369 := wb BK369 hb
                   clear hb hbox hg
                   obtain ⟨Ao111, co111, eo111⟩ := Kd.R_slice HO393.out
                   (first | subst eo111 | (injection eo111 with f1_ f2_ f3_; have f4_ := f1_.symm; have f5_ := f3_.symm; clear f1_ f2_ f3_; subst f4_; subst f5_))
                   obtain ⟨Ao112, co112, eo112⟩ := Kd.R_slice HO396.out
                   (first | subst eo112 | (injection eo112 with f1_ f2_ f3_; have f4_ := f1_.symm; have f5_ := f3_.symm; clear f1_ f2_ f3_; subst f4_; subst f5_))
                   obtain ⟨Ao113, co113, eo113⟩ := Kd.R_slice HO399.out
                   (first | subst eo113 | (injection eo113 with f1_ f2_ f3_; have f4_ := f1_.symm; have f5_ := f3_.symm; clear f1_ f2_ f3_; subst f4_; subst f5_))
                   refine hK.out _ _ ⟨(blk_cell BK320.out 0).trans rfl, (blk_cell BK320.out 1).trans rfl, (blk_cell BK320.out 2).trans rfl, (blk_cell BK321.out 0).trans rfl, (blk_cell BK321.out 1).trans rfl⟩ (fun hHeld => ?_)
                   clear hK K
                   refine nm 16 ?_
                   refine on 4 99 #[T_,T_,T_,T_,T_,F_,F_,F_,F_,T_,F_,F_,F_] (fun K hK => ?_)
                   refine gs Try.func15 #[.agg #[.slice Ao111 t391.length co111, .slice Ao112 t394.length co112, .slice Ao113 t397.length co113], .agg #[.int .i64 t400, .int .i64 t401]] ?_
                   with_reducible refine (impl_RippleInsert.calls k _ _ t391 _ _ t394 _ _ t397 t400 t401 t402 t405 t408 t411 t412 _ ?side1 ?side2 ?side3 ?side4 ?side5 ?side6 A33.out).mono ?_
                   (case side1 => exact uc (Kd.R_reads' HO393.out).2.2)
                   (case side2 => exact (Kd.R_reads' HO393.out).2.1)
                   (case side3 => exact uc (Kd.R_reads' HO396.out).2.2)
                   (case side4 => exact (Kd.R_reads' HO396.out).2.1)
                   (case side5 => exact uc (Kd.R_reads' HO399.out).2.2)
                   (case side6 => exact (Kd.R_reads' HO399.out).2.1)
                   rintro e w114 ⟨v403, v406, v409, rfl, ho0, ho1, ho2, hb⟩
                   refine ⟨_, rfl, ?_⟩
                   have HO404 := mk (Kd.R_lower (Kd.R_new' (Kd.R_new' (Kd.R_new' (Kd.R_new' (Kd.R_new' (Kd.R_new' ho0 (Kd.R_lt (up HO336.out))) (Kd.R_lt (up HO339.out))) (Kd.R_lt (up HO360.out))) (Kd.R_lt (up HO363.out))) (Kd.R_lt (up HO393.out))) (Kd.R_lt (up HO396.out))) (below_size bl))
                   have HO407 := mk (Kd.R_lower (Kd.R_new' (Kd.R_new' (Kd.R_new' (Kd.R_new' (Kd.R_new' (Kd.R_new' ho1 (Kd.R_lt (up HO336.out))) (Kd.R_lt (up HO339.out))) (Kd.R_lt (up HO360.out))) (Kd.R_lt (up HO363.out))) (Kd.R_lt (up HO393.out))) (Kd.R_lt (up HO396.out))) (below_size bl))
                   replace HO336 := mk (Kd.R_mono (Kd.R_told (Kd.R_told (Kd.R_old (up HO336.out) hb) (Kd.R_base ho0)) (Kd.R_base ho1)) (fun _ h_ => h_.1))
                   replace HO339 := mk (Kd.R_mono (Kd.R_told (Kd.R_told (Kd.R_old (up HO339.out) hb) (Kd.R_base ho0)) (Kd.R_base ho1)) (fun _ h_ => h_.1))
                   replace HO360 := mk (Kd.R_mono (Kd.R_told (Kd.R_told (Kd.R_old (up HO360.out) hb) (Kd.R_base ho0)) (Kd.R_base ho1)) (fun _ h_ => h_.1))
                   replace HO363 := mk (Kd.R_mono (Kd.R_told (Kd.R_told (Kd.R_old (up HO363.out) hb) (Kd.R_base ho0)) (Kd.R_base ho1)) (fun _ h_ => h_.1))
                   replace HO393 := mk (Kd.R_mono (Kd.R_told (Kd.R_told (Kd.R_old (up HO393.out) hb) (Kd.R_base ho0)) (Kd.R_base ho1)) (fun _ h_ => h_.1))
                   replace HO396 := mk (Kd.R_mono (Kd.R_told (Kd.R_told (Kd.R_old (up HO396.out) hb) (Kd.R_base ho0)) (Kd.R_base ho1)) (fun _ h_ => h_.1))
                   have HO410 := mk (Kd.R_lower (Kd.R_new' (Kd.R_new' (Kd.R_new' ho2 (Kd.R_lt (up HO342.out))) (Kd.R_lt (up HO366.out))) (Kd.R_lt (up HO399.out))) (below_size bl))
                   replace HO342 := mk (Kd.R_elder' (up HO342.out) (Kd.R_base ho2) hb)
                   replace HO366 := mk (Kd.R_elder' (up HO366.out) (Kd.R_base ho2) hb)
                   replace HO399 := mk (Kd.R_elder' (up HO399.out) (Kd.R_base ho2) hb)
                   replace BK320 := wb BK320 hb
                   replace BK321 := wb BK321 hb
                   replace BK345 := wb BK345 hb
                   replace BK355 := wb BK355 hb
                   replace BK369 := wb BK369 hb
                   replace BK413 := wb BK413 hb
                   replace HB := wh hb
                   (try clear hb)
                   (try clear hb2)
                   (try clear hk)
                   (try clear hi)
                   (try clear ho0)
                   (try clear ho1)
                   (try clear ho2)
                   refine hK.out _ _ ⟨(blk_cell BK320.out 0).trans rfl, (blk_cell BK320.out 1).trans rfl, (blk_cell BK320.out 2).trans rfl, (blk_cell BK321.out 0).trans rfl, (blk_cell BK321.out 1).trans rfl⟩ (fun hHeld => ?_)
                   clear hK K
                   refine nm 99 ?_
                   refine pu 5 94 #[T_,T_,T_,T_,T_,T_,F_,F_,F_,T_,F_,F_,F_] ?_
                   refine pu 6 100 #[T_,T_,T_,T_,T_,T_,T_,F_,F_,T_,F_,F_,F_] ?_
                   refine pu 7 101 #[T_,T_,T_,T_,T_,T_,T_,T_,F_,T_,F_,F_,F_] ?_
                   refine pu 8 102 (tf 10 3) ?_
                   exact norm_ (by simp only [putAll, Act.put, List.setIfInBounds_toArray, List.set_cons_zero, List.set_cons_succ]) (hCont (.slice Ao111 t391.length co111, .slice Ao112 t394.length co112, .slice Ao113 t397.length co113, v403, v406, v409, gb413) _ ⟨hHeld, (by exact up (Kd.R_mono HO336.out (fun _ hk => by first | exact ⟨hk.1.1.1.1.1, ⟨hk.1.1.1.1.2.1, ⟨hk.1.1.1.1.2.2, ⟨hk.1.1.1.2, ⟨hk.1.1.2, ⟨hk.1.2, hk.2⟩⟩⟩⟩⟩⟩ | (revert hk; simp only [and_imp]; intros; (repeat' (refine And.intro ?_ ?_)) <;> assumption)))), (by exact up (Kd.R_mono HO339.out (fun _ hk => by first | exact ⟨hk.1.1.1.1.1, ⟨hk.1.1.1.1.2.1, ⟨hk.1.1.1.1.2.2, ⟨hk.1.1.1.2, ⟨hk.1.1.2, ⟨hk.1.2, hk.2⟩⟩⟩⟩⟩⟩ | (revert hk; simp only [and_imp]; intros; (repeat' (refine And.intro ?_ ?_)) <;> assumption)))), (by exact up (Kd.R_mono HO342.out (fun _ hk => by first | exact ⟨hk.1.1, ⟨hk.1.2, hk.2⟩⟩ | (revert hk; simp only [and_imp]; intros; (repeat' (refine And.intro ?_ ?_)) <;> assumption)))), (by exact up (Kd.R_mono HO360.out (fun _ hk => by first | exact ⟨hk.1.1.1.1.1, ⟨hk.1.1.1.1.2.1, ⟨hk.1.1.1.1.2.2, ⟨hk.1.1.1.2, ⟨hk.1.1.2, ⟨hk.1.2, hk.2⟩⟩⟩⟩⟩⟩ | (revert hk; simp only [and_imp]; intros; (repeat' (refine And.intro ?_ ?_)) <;> assumption)))), (by exact up (Kd.R_mono HO363.out (fun _ hk => by first | exact ⟨hk.1.1.1.1.1, ⟨hk.1.1.1.1.2.1, ⟨hk.1.1.1.1.2.2, ⟨hk.1.1.1.2, ⟨hk.1.1.2, ⟨hk.1.2, hk.2⟩⟩⟩⟩⟩⟩ | (revert hk; simp only [and_imp]; intros; (repeat' (refine And.intro ?_ ?_)) <;> assumption)))), (by exact up (Kd.R_mono HO366.out (fun _ hk => by first | exact ⟨hk.1.1, ⟨hk.1.2, hk.2⟩⟩ | (revert hk; simp only [and_imp]; intros; (repeat' (refine And.intro ?_ ?_)) <;> assumption)))), (by exact up (Kd.R_mono HO393.out (fun _ hk => by first | exact ⟨hk.1.1.1.1.1.2, ⟨hk.1.1.1.1.2, ⟨hk.1.1.1.2, ⟨hk.1.1.2, ⟨hk.1.1.1.1.1.1, ⟨hk.1.2, hk.2⟩⟩⟩⟩⟩⟩ | (revert hk; simp only [and_imp]; intros; (repeat' (refine And.intro ?_ ?_)) <;> assumption)))), (by exact up (Kd.R_mono HO396.out (fun _ hk => by first | exact ⟨hk.1.1.1.1.1.2, ⟨hk.1.1.1.1.2, ⟨hk.1.1.1.2, ⟨hk.1.1.2, ⟨hk.1.1.1.1.1.1, ⟨hk.1.2, hk.2⟩⟩⟩⟩⟩⟩ | (revert hk; simp only [and_imp]; intros; (repeat' (refine And.intro ?_ ?_)) <;> assumption)))), (by exact up (Kd.R_mono HO399.out (fun _ hk => by first | exact ⟨hk.1.1.2, ⟨hk.1.2, hk.2⟩⟩ | (revert hk; simp only [and_imp]; intros; (repeat' (refine And.intro ?_ ?_)) <;> assumption)))), (by exact up (Kd.R_mono HO404.out (fun _ hk => by first | exact ⟨hk.1.1.1.1.1.2, ⟨hk.1.1.1.1.2, ⟨hk.1.1.1.2, ⟨hk.1.1.2, ⟨hk.1.2, ⟨hk.2, hk.1.1.1.1.1.1⟩⟩⟩⟩⟩⟩ | (revert hk; simp only [and_imp]; intros; (repeat' (refine And.intro ?_ ?_)) <;> assumption)))), (by exact up (Kd.R_mono HO407.out (fun _ hk => by first | exact ⟨hk.1.1.1.1.1.2, ⟨hk.1.1.1.1.2, ⟨hk.1.1.1.2, ⟨hk.1.1.2, ⟨hk.1.2, ⟨hk.2, hk.1.1.1.1.1.1⟩⟩⟩⟩⟩⟩ | (revert hk; simp only [and_imp]; intros; (repeat' (refine And.intro ?_ ?_)) <;> assumption)))), (by exact up (Kd.R_mono HO410.out (fun _ hk => by first | exact ⟨hk.1.1.2, ⟨hk.1.2, hk.2⟩⟩ | (revert hk; simp only [and_imp]; intros; (repeat' (refine And.intro ?_ ?_)) <;> assumption)))), (ub BK320.out), (ub BK321.out), (ub BK345.out), (ub BK355.out), (ub BK369.out), (ub BK413.out), GW413.out, GE413.out, NB320_413.out, NB413_320.out, NB321_413.out, NB413_321.out, NB345_413.out, NB413_345.out, NB355_413.out, NB413_355.out, NB369_413.out, NB413_369.out, bl⟩)
                 ·skip
                  refine box_step ?hg (N := 16) ?hd (cs := #[.slice none 0 0, .slice none 0 0, .slice none 0 0]) (t := 29) ?hr ?_; (case hd => rfl); (case hg => rfl); (case hr => first | (go_simp; done) | (go_simp; rfl))
                  intro gb413 hg w109 hbox hb
                  replace HO336 := mk (Kd.R_below (up HO336.out) hb)
                  replace HO339 := mk (Kd.R_below (up HO339.out) hb)
                  replace HO342 := mk (Kd.R_below (up HO342.out) hb)
                  replace HO360 := mk (Kd.R_below (up HO360.out) hb)
                  replace HO363 := mk (Kd.R_below (up HO363.out) hb)
                  replace HO366 := mk (Kd.R_below (up HO366.out) hb)
                  replace HO393 := mk (Kd.R_below (up HO393.out) hb)
                  replace HO396 := mk (Kd.R_below (up HO396.out) hb)
                  replace HO399 := mk (Kd.R_below (up HO399.out) hb)
                  have BK413 := mk hbox
                  have GW413 := wg hg
                  have GE413 := wg hg
                  replace HB := wh hb
                  have NB320_413 := nl BK320 hg
                  have NB413_320 := nr BK320 hg
                  replace BK320 := wb BK320 hb
                  have NB321_413 := nl BK321 hg
                  have NB413_321 := nr BK321 hg
                  replace BK321 := wb BK321 hb
                  have NB345_413 := nl BK345 hg
                  have NB413_345 := nr BK345 hg
                  replace BK345 := wb BK345 hb
                  have NB355_413 := nl BK355 hg
                  have NB413_355 := nr BK355 hg
                  replace BK355 := wb BK355 hb
                  have NB369_413 := nl BK369 hg
                  have NB413_369 := nr BK369 hg
                  replace BK369 := wb BK369 hb
                  clear hb hbox hg
                  refine hK.out _ _ ⟨(blk_cell BK320.out 0).trans rfl, (blk_cell BK320.out 1).trans rfl, (blk_cell BK320.out 2).trans rfl, (blk_cell BK321.out 0).trans rfl, (blk_cell BK321.out 1).trans rfl⟩ (fun hHeld => ?_)
                  clear hK K
                  refine nm 16 ?_
                  refine on 3 98 #[T_,T_,T_,T_,F_,F_,F_,F_,F_,T_,F_,F_,F_] (fun K hK => ?_)
                  refine gs Try.func14 #[.agg #[.int .i64 a1_0, .int .i64 a1_1]] ?_
                  with_reducible refine (laws_toItem.calls a1_0 a1_1 t400 t401 _ A32.out).mono ?_
                  rintro e w110 ⟨rfl, hb⟩
                  refine ⟨_, rfl, ?_⟩
                  replace HO336 := mk (Kd.R_below (up HO336.out) hb)
                  replace HO339 := mk (Kd.R_below (up HO339.out) hb)
                  replace HO342 := mk (Kd.R_below (up HO342.out) hb)
                  replace HO360 := mk (Kd.R_below (up HO360.out) hb)
                  replace HO363 := mk (Kd.R_below (up HO363.out) hb)
                  replace HO366 := mk (Kd.R_below (up HO366.out) hb)
                  replace HO393 := mk (Kd.R_below (up HO393.out) hb)
                  replace HO396 := mk (Kd.R_below (up HO396.out) hb)
                  replace HO399 := mk (Kd.R_below (up HO399.out) hb)
                  replace BK320 := wb BK320 hb
                  replace BK321 := wb BK321 hb
                  replace BK345 := wb BK345 hb
                  replace BK355 := wb BK355 hb
                  replace BK369 := wb BK369 hb
                  replace BK413 := wb BK413 hb
                  replace HB := wh hb
                  (try clear hb)
                  (try clear hb2)
                  (try clear hk)
                  (try clear hi)
                  obtain ⟨Ao111, co111, eo111⟩ := Kd.R_slice HO393.out
                  (first | subst eo111 | (injection eo111 with f1_ f2_ f3_; have f4_ := f1_.symm; have f5_ := f3_.symm; clear f1_ f2_ f3_; subst f4_; subst f5_))
                  obtain ⟨Ao112, co112, eo112⟩ := Kd.R_slice HO396.out
                  (first | subst eo112 | (injection eo112 with f1_ f2_ f3_; have f4_ := f1_.symm; have f5_ := f3_.symm; clear f1_ f2_ f3_; subst f4_; subst f5_))
                  obtain ⟨Ao113, co113, eo113⟩ := Kd.R_slice HO399.out
                  (first | subst eo113 | (injection eo113 with f1_ f2_ f3_; have f4_ := f1_.symm; have f5_ := f3_.symm; clear f1_ f2_ f3_; subst f4_; subst f5_))
                  refine hK.out _ _ ⟨(blk_cell BK320.out 0).trans rfl, (blk_cell BK320.out 1).trans rfl, (blk_cell BK320.out 2).trans rfl, (blk_cell BK321.out 0).trans rfl, (blk_cell BK321.out 1).trans rfl⟩ (fun hHeld => ?_)
                  clear hK K
                  refine nm 98 ?_
                  refine on 4 99 #[T_,T_,T_,T_,T_,F_,F_,F_,F_,T_,F_,F_,F_] (fun K hK => ?_)
                  refine gs Try.func15 #[.agg #[.slice Ao111 t391.length co111, .slice Ao112 t394.length co112, .slice Ao113 t397.length co113], .agg #[.int .i64 t400, .int .i64 t401]] ?_
                  with_reducible refine (impl_RippleInsert.calls k _ _ t391 _ _ t394 _ _ t397 t400 t401 t402 t405 t408 t411 t412 _ ?side1 ?side2 ?side3 ?side4 ?side5 ?side6 A33.out).mono ?_
                  (case side1 => exact uc (Kd.R_reads' HO393.out).2.2)
                  (case side2 => exact (Kd.R_reads' HO393.out).2.1)
                  (case side3 => exact uc (Kd.R_reads' HO396.out).2.2)
                  (case side4 => exact (Kd.R_reads' HO396.out).2.1)
                  (case side5 => exact uc (Kd.R_reads' HO399.out).2.2)
                  (case side6 => exact (Kd.R_reads' HO399.out).2.1)
                  rintro e w114 ⟨v403, v406, v409, rfl, ho0, ho1, ho2, hb⟩
                  refine ⟨_, rfl, ?_⟩
                  have HO404 := mk (Kd.R_lower (Kd.R_new' (Kd.R_new' (Kd.R_new' (Kd.R_new' (Kd.R_new' (Kd.R_new' ho0 (Kd.R_lt (up HO336.out))) (Kd.R_lt (up HO339.out))) (Kd.R_lt (up HO360.out))) (Kd.R_lt (up HO363.out))) (Kd.R_lt (up HO393.out))) (Kd.R_lt (up HO396.out))) (below_size bl))
                  have HO407 := mk (Kd.R_lower (Kd.R_new' (Kd.R_new' (Kd.R_new' (Kd.R_new' (Kd.R_new' (Kd.R_new' ho1 (Kd.R_lt (up HO336.out))) (Kd.R_lt (up HO339.out))) (Kd.R_lt (up HO360.out))) (Kd.R_lt (up HO363.out))) (Kd.R_lt (up HO393.out))) (Kd.R_lt (up HO396.out))) (below_size bl))
                  replace HO336 := mk (Kd.R_mono (Kd.R_told (Kd.R_told (Kd.R_old (up HO336.out) hb) (Kd.R_base ho0)) (Kd.R_base ho1)) (fun _ h_ => h_.1))
                  replace HO339 := mk (Kd.R_mono (Kd.R_told (Kd.R_told (Kd.R_old (up HO339.out) hb) (Kd.R_base ho0)) (Kd.R_base ho1)) (fun _ h_ => h_.1))
                  replace HO360 := mk (Kd.R_mono (Kd.R_told (Kd.R_told (Kd.R_old (up HO360.out) hb) (Kd.R_base ho0)) (Kd.R_base ho1)) (fun _ h_ => h_.1))
                  replace HO363 := mk (Kd.R_mono (Kd.R_told (Kd.R_told (Kd.R_old (up HO363.out) hb) (Kd.R_base ho0)) (Kd.R_base ho1)) (fun _ h_ => h_.1))
                  replace HO393 := mk (Kd.R_mono (Kd.R_told (Kd.R_told (Kd.R_old (up HO393.out) hb) (Kd.R_base ho0)) (Kd.R_base ho1)) (fun _ h_ => h_.1))
                  replace HO396 := mk (Kd.R_mono (Kd.R_told (Kd.R_told (Kd.R_old (up HO396.out) hb) (Kd.R_base ho0)) (Kd.R_base ho1)) (fun _ h_ => h_.1))
                  have HO410 := mk (Kd.R_lower (Kd.R_new' (Kd.R_new' (Kd.R_new' ho2 (Kd.R_lt (up HO342.out))) (Kd.R_lt (up HO366.out))) (Kd.R_lt (up HO399.out))) (below_size bl))
                  replace HO342 := mk (Kd.R_elder' (up HO342.out) (Kd.R_base ho2) hb)
                  replace HO366 := mk (Kd.R_elder' (up HO366.out) (Kd.R_base ho2) hb)
                  replace HO399 := mk (Kd.R_elder' (up HO399.out) (Kd.R_base ho2) hb)
                  replace BK320 := wb BK320 hb
                  replace BK321 := wb BK321 hb
                  replace BK345 := wb BK345 hb
                  replace BK355 := wb BK355 hb
                  replace BK369 := wb BK369 hb
                  replace BK413 := wb BK413 hb
                  replace HB := wh hb
                  (try clear hb)
                  (try clear hb2)
                  (try clear hk)
                  (try clear hi)
                  (try clear ho0)
                  (try clear ho1)
                  (try clear ho2)
                  refine hK.out _ _ ⟨(blk_cell BK320.out 0).trans rfl, (blk_cell BK320.out 1).trans rfl, (blk_cell BK320.out 2).trans rfl, (blk_cell BK321.out 0).trans rfl, (blk_cell BK321.out 1).trans rfl⟩ (fun hHeld => ?_)
                  clear hK K
                  refine nm 99 ?_
                  refine pu 5 94 #[T_,T_,T_,T_,T_,T_,F_,F_,F_,T_,F_,F_,F_] ?_
                  refine pu 6 100 #[T_,T_,T_,T_,T_,T_,T_,F_,F_,T_,F_,F_,F_] ?_
                  refine pu 7 101 #[T_,T_,T_,T_,T_,T_,T_,T_,F_,T_,F_,F_,F_] ?_
                  refine pu 8 102 (tf 10 3) ?_
                  exact norm_ (by simp only [putAll, Act.put, List.setIfInBounds_toArray, List.set_cons_zero, List.set_cons_succ]) (hCont (.slice Ao111 t391.length co111, .slice Ao112 t394.length co112, .slice Ao113 t397.length co113, v403, v406, v409, gb413) _ ⟨hHeld, (by exact up (Kd.R_mono HO336.out (fun _ hk => by first | exact ⟨hk.1.1.1.1.1, ⟨hk.1.1.1.1.2.1, ⟨hk.1.1.1.1.2.2, ⟨hk.1.1.1.2, ⟨hk.1.1.2, ⟨hk.1.2, hk.2⟩⟩⟩⟩⟩⟩ | (revert hk; simp only [and_imp]; intros; (repeat' (refine And.intro ?_ ?_)) <;> assumption)))), (by exact up (Kd.R_mono HO339.out (fun _ hk => by first | exact ⟨hk.1.1.1.1.1, ⟨hk.1.1.1.1.2.1, ⟨hk.1.1.1.1.2.2, ⟨hk.1.1.1.2, ⟨hk.1.1.2, ⟨hk.1.2, hk.2⟩⟩⟩⟩⟩⟩ | (revert hk; simp only [and_imp]; intros; (repeat' (refine And.intro ?_ ?_)) <;> assumption)))), (by exact up (Kd.R_mono HO342.out (fun _ hk => by first | exact ⟨hk.1.1, ⟨hk.1.2, hk.2⟩⟩ | (revert hk; simp only [and_imp]; intros; (repeat' (refine And.intro ?_ ?_)) <;> assumption)))), (by exact up (Kd.R_mono HO360.out (fun _ hk => by first | exact ⟨hk.1.1.1.1.1, ⟨hk.1.1.1.1.2.1, ⟨hk.1.1.1.1.2.2, ⟨hk.1.1.1.2, ⟨hk.1.1.2, ⟨hk.1.2, hk.2⟩⟩⟩⟩⟩⟩ | (revert hk; simp only [and_imp]; intros; (repeat' (refine And.intro ?_ ?_)) <;> assumption)))), (by exact up (Kd.R_mono HO363.out (fun _ hk => by first | exact ⟨hk.1.1.1.1.1, ⟨hk.1.1.1.1.2.1, ⟨hk.1.1.1.1.2.2, ⟨hk.1.1.1.2, ⟨hk.1.1.2, ⟨hk.1.2, hk.2⟩⟩⟩⟩⟩⟩ | (revert hk; simp only [and_imp]; intros; (repeat' (refine And.intro ?_ ?_)) <;> assumption)))), (by exact up (Kd.R_mono HO366.out (fun _ hk => by first | exact ⟨hk.1.1, ⟨hk.1.2, hk.2⟩⟩ | (revert hk; simp only [and_imp]; intros; (repeat' (refine And.intro ?_ ?_)) <;> assumption)))), (by exact up (Kd.R_mono HO393.out (fun _ hk => by first | exact ⟨hk.1.1.1.1.1.2, ⟨hk.1.1.1.1.2, ⟨hk.1.1.1.2, ⟨hk.1.1.2, ⟨hk.1.1.1.1.1.1, ⟨hk.1.2, hk.2⟩⟩⟩⟩⟩⟩ | (revert hk; simp only [and_imp]; intros; (repeat' (refine And.intro ?_ ?_)) <;> assumption)))), (by exact up (Kd.R_mono HO396.out (fun _ hk => by first | exact ⟨hk.1.1.1.1.1.2, ⟨hk.1.1.1.1.2, ⟨hk.1.1.1.2, ⟨hk.1.1.2, ⟨hk.1.1.1.1.1.1, ⟨hk.1.2, hk.2⟩⟩⟩⟩⟩⟩ | (revert hk; simp only [and_imp]; intros; (repeat' (refine And.intro ?_ ?_)) <;> assumption)))), (by exact up (Kd.R_mono HO399.out (fun _ hk => by first | exact ⟨hk.1.1.2, ⟨hk.1.2, hk.2⟩⟩ | (revert hk; simp only [and_imp]; intros; (repeat' (refine And.intro ?_ ?_)) <;> assumption)))), (by exact up (Kd.R_mono HO404.out (fun _ hk => by first | exact ⟨hk.1.1.1.1.1.2, ⟨hk.1.1.1.1.2, ⟨hk.1.1.1.2, ⟨hk.1.1.2, ⟨hk.1.2, ⟨hk.2, hk.1.1.1.1.1.1⟩⟩⟩⟩⟩⟩ | (revert hk; simp only [and_imp]; intros; (repeat' (refine And.intro ?_ ?_)) <;> assumption)))), (by exact up (Kd.R_mono HO407.out (fun _ hk => by first | exact ⟨hk.1.1.1.1.1.2, ⟨hk.1.1.1.1.2, ⟨hk.1.1.1.2, ⟨hk.1.1.2, ⟨hk.1.2, ⟨hk.2, hk.1.1.1.1.1.1⟩⟩⟩⟩⟩⟩ | (revert hk; simp only [and_imp]; intros; (repeat' (refine And.intro ?_ ?_)) <;> assumption)))), (by exact up (Kd.R_mono HO410.out (fun _ hk => by first | exact ⟨hk.1.1.2, ⟨hk.1.2, hk.2⟩⟩ | (revert hk; simp only [and_imp]; intros; (repeat' (refine And.intro ?_ ?_)) <;> assumption)))), (ub BK320.out), (ub BK321.out), (ub BK345.out), (ub BK355.out), (ub BK369.out), (ub BK413.out), GW413.out, GE413.out, NB320_413.out, NB413_320.out, NB321_413.out, NB413_321.out, NB345_413.out, NB413_345.out, NB355_413.out, NB413_355.out, NB369_413.out, NB413_369.out, bl⟩)
                ·skip
                 refine box_step ?hg (N := 16) ?hd (cs := #[.slice none 0 0, .slice none 0 0, .slice none 0 0]) (t := 29) ?hr ?_; (case hd => rfl); (case hg => rfl); (case hr => first | (go_simp; done) | (go_simp; rfl))
                 intro gb413 hg w108 hbox hb
                 replace HO336 := mk (Kd.R_below (up HO336.out) hb)
                 replace HO339 := mk (Kd.R_below (up HO339.out) hb)
                 replace HO342 := mk (Kd.R_below (up HO342.out) hb)
                 replace HO360 := mk (Kd.R_below (up HO360.out) hb)
                 replace HO363 := mk (Kd.R_below (up HO363.out) hb)
                 replace HO366 := mk (Kd.R_below (up HO366.out) hb)
                 have BK413 := mk hbox
                 have GW413 := wg hg
                 have GE413 := wg hg
                 replace HB := wh hb
                 have NB320_413 := nl BK320 hg
                 have NB413_320 := nr BK320 hg
                 replace BK320 := wb BK320 hb
                 have NB321_413 := nl BK321 hg
                 have NB413_321 := nr BK321 hg
                 replace BK321 := wb BK321 hb
                 have NB345_413 := nl BK345 hg
                 have NB413_345 := nr BK345 hg
                 replace BK345 := wb BK345 hb
                 have NB355_413 := nl BK355 hg
                 have NB413_355 := nr BK355 hg
                 replace BK355 := wb BK355 hb
                 have NB369_413 := nl BK369 hg
                 have NB413_369 := nr BK369 hg
                 replace BK369 := wb BK369 hb
                 clear hb hbox hg
                 refine hK.out _ _ ⟨(blk_cell BK320.out 0).trans rfl, (blk_cell BK320.out 1).trans rfl, (blk_cell BK320.out 2).trans rfl, (blk_cell BK321.out 0).trans rfl, (blk_cell BK321.out 1).trans rfl⟩ (fun hHeld => ?_)
                 clear hK K
                 refine nm 16 ?_
                 refine on 1 96 #[T_,T_,T_,F_,F_,F_,F_,F_,F_,T_,F_,F_,F_] (fun K hK => ?_)
                 refine gs Try.func8 #[.agg #[.slice A0_0 l0_0.length c0_0, .slice A0_1 l0_1.length c0_1, .slice A0_2 l0_2.length c0_2]] ?_
                 with_reducible refine (laws_toCracker.calls k _ _ l0_0 _ _ l0_1 _ _ l0_2 t391 t394 t397 _ ?side1 ?side2 ?side3 ?side4 ?side5 ?side6 A31.out).mono ?_
                 (case side1 => exact uc (Kd.C_below HR0_0.out HB.out))
                 (case side2 => exact HC0_0.out)
                 (case side3 => exact uc (Kd.C_below HR0_1.out HB.out))
                 (case side4 => exact HC0_1.out)
                 (case side5 => exact uc (Kd.C_below HR0_2.out HB.out))
                 (case side6 => exact HC0_2.out)
                 rintro e w109 ⟨v392, v395, v398, rfl, ho0, ho1, ho2, hb⟩
                 refine ⟨_, rfl, ?_⟩
                 have HO393 := mk (Kd.R_lower (Kd.R_new' (Kd.R_new' (Kd.R_new' (Kd.R_new' ho0 (Kd.R_lt (up HO336.out))) (Kd.R_lt (up HO339.out))) (Kd.R_lt (up HO360.out))) (Kd.R_lt (up HO363.out))) (below_size bl))
                 have HO396 := mk (Kd.R_lower (Kd.R_new' (Kd.R_new' (Kd.R_new' (Kd.R_new' ho1 (Kd.R_lt (up HO336.out))) (Kd.R_lt (up HO339.out))) (Kd.R_lt (up HO360.out))) (Kd.R_lt (up HO363.out))) (below_size bl))
                 replace HO336 := mk (Kd.R_mono (Kd.R_told (Kd.R_told (Kd.R_old (up HO336.out) hb) (Kd.R_base ho0)) (Kd.R_base ho1)) (fun _ h_ => h_.1))
                 replace HO339 := mk (Kd.R_mono (Kd.R_told (Kd.R_told (Kd.R_old (up HO339.out) hb) (Kd.R_base ho0)) (Kd.R_base ho1)) (fun _ h_ => h_.1))
                 replace HO360 := mk (Kd.R_mono (Kd.R_told (Kd.R_told (Kd.R_old (up HO360.out) hb) (Kd.R_base ho0)) (Kd.R_base ho1)) (fun _ h_ => h_.1))
                 replace HO363 := mk (Kd.R_mono (Kd.R_told (Kd.R_told (Kd.R_old (up HO363.out) hb) (Kd.R_base ho0)) (Kd.R_base ho1)) (fun _ h_ => h_.1))
                 have HO399 := mk (Kd.R_lower (Kd.R_new' (Kd.R_new' ho2 (Kd.R_lt (up HO342.out))) (Kd.R_lt (up HO366.out))) (below_size bl))
                 replace HO342 := mk (Kd.R_elder' (up HO342.out) (Kd.R_base ho2) hb)
                 replace HO366 := mk (Kd.R_elder' (up HO366.out) (Kd.R_base ho2) hb)
                 replace BK320 := wb BK320 hb
                 replace BK321 := wb BK321 hb
                 replace BK345 := wb BK345 hb
                 replace BK355 := wb BK355 hb
                 replace BK369 := wb BK369 hb
                 replace BK413 := wb BK413 hb
                 replace HB := wh hb
                 (try clear hb)
                 (try clear hb2)
                 (try clear hk)
                 (try clear hi)
                 (try clear ho0)
                 (try clear ho1)
                 (try clear ho2)
                 refine hK.out _ _ ⟨(blk_cell BK320.out 0).trans rfl, (blk_cell BK320.out 1).trans rfl, (blk_cell BK320.out 2).trans rfl, (blk_cell BK321.out 0).trans rfl, (blk_cell BK321.out 1).trans rfl⟩ (fun hHeld => ?_)
                 clear hK K
                 refine nm 96 ?_
                 refine on 3 98 #[T_,T_,T_,T_,F_,F_,F_,F_,F_,T_,F_,F_,F_] (fun K hK => ?_)
                 refine gs Try.func14 #[.agg #[.int .i64 a1_0, .int .i64 a1_1]] ?_
                 with_reducible refine (laws_toItem.calls a1_0 a1_1 t400 t401 _ A32.out).mono ?_
                 rintro e w110 ⟨rfl, hb⟩
                 refine ⟨_, rfl, ?_⟩
                 replace HO336 := mk (Kd.R_below (up HO336.out) hb)
                 replace HO339 := mk (Kd.R_below (up HO339.out) hb)
                 replace HO342 := mk (Kd.R_below (up HO342.out) hb)
                 replace HO360 := mk (Kd.R_below (up HO360.out) hb)
                 replace HO363 := mk (Kd.R_below (up HO363.out) hb)
                 replace HO366 := mk (Kd.R_below (up HO366.out) hb)
                 replace HO393 := mk (Kd.R_below (up HO393.out) hb)
                 replace HO396 := mk (Kd.R_below (up HO396.out) hb)
                 replace HO399 := mk (Kd.R_below (up HO399.out) hb)
                 replace BK320 := wb BK320 hb
                 replace BK321 := wb BK321 hb
                 replace BK345 := wb BK345 hb
                 replace BK355 := wb BK355 hb
                 replace BK369 := wb BK369 hb
                 replace BK413 := wb BK413 hb
                 replace HB := wh hb
                 (try clear hb)
                 (try clear hb2)
                 (try clear hk)
                 (try clear hi)
                 obtain ⟨Ao111, co111, eo111⟩ := Kd.R_slice HO393.out
                 (first | subst eo111 | (injection eo111 with f1_ f2_ f3_; have f4_ := f1_.symm; have f5_ := f3_.symm; clear f1_ f2_ f3_; subst f4_; subst f5_))
                 obtain ⟨Ao112, co112, eo112⟩ := Kd.R_slice HO396.out
                 (first | subst eo112 | (injection eo112 with f1_ f2_ f3_; have f4_ := f1_.symm; have f5_ := f3_.symm; clear f1_ f2_ f3_; subst f4_; subst f5_))
                 obtain ⟨Ao113, co113, eo113⟩ := Kd.R_slice HO399.out
                 (first | subst eo113 | (injection eo113 with f1_ f2_ f3_; have f4_ := f1_.symm; have f5_ := f3_.symm; clear f1_ f2_ f3_; subst f4_; subst f5_))
                 refine hK.out _ _ ⟨(blk_cell BK320.out 0).trans rfl, (blk_cell BK320.out 1).trans rfl, (blk_cell BK320.out 2).trans rfl, (blk_cell BK321.out 0).trans rfl, (blk_cell BK321.out 1).trans rfl⟩ (fun hHeld => ?_)
                 clear hK K
                 refine nm 98 ?_
                 refine on 4 99 #[T_,T_,T_,T_,T_,F_,F_,F_,F_,T_,F_,F_,F_] (fun K hK => ?_)
                 refine gs Try.func15 #[.agg #[.slice Ao111 t391.length co111, .slice Ao112 t394.length co112, .slice Ao113 t397.length co113], .agg #[.int .i64 t400, .int .i64 t401]] ?_
                 with_reducible refine (impl_RippleInsert.calls k _ _ t391 _ _ t394 _ _ t397 t400 t401 t402 t405 t408 t411 t412 _ ?side1 ?side2 ?side3 ?side4 ?side5 ?side6 A33.out).mono ?_
                 (case side1 => exact uc (Kd.R_reads' HO393.out).2.2)
                 (case side2 => exact (Kd.R_reads' HO393.out).2.1)
                 (case side3 => exact uc (Kd.R_reads' HO396.out).2.2)
                 (case side4 => exact (Kd.R_reads' HO396.out).2.1)
                 (case side5 => exact uc (Kd.R_reads' HO399.out).2.2)
                 (case side6 => exact (Kd.R_reads' HO399.out).2.1)
                 rintro e w114 ⟨v403, v406, v409, rfl, ho0, ho1, ho2, hb⟩
                 refine ⟨_, rfl, ?_⟩
                 have HO404 := mk (Kd.R_lower (Kd.R_new' (Kd.R_new' (Kd.R_new' (Kd.R_new' (Kd.R_new' (Kd.R_new' ho0 (Kd.R_lt (up HO336.out))) (Kd.R_lt (up HO339.out))) (Kd.R_lt (up HO360.out))) (Kd.R_lt (up HO363.out))) (Kd.R_lt (up HO393.out))) (Kd.R_lt (up HO396.out))) (below_size bl))
                 have HO407 := mk (Kd.R_lower (Kd.R_new' (Kd.R_new' (Kd.R_new' (Kd.R_new' (Kd.R_new' (Kd.R_new' ho1 (Kd.R_lt (up HO336.out))) (Kd.R_lt (up HO339.out))) (Kd.R_lt (up HO360.out))) (Kd.R_lt (up HO363.out))) (Kd.R_lt (up HO393.out))) (Kd.R_lt (up HO396.out))) (below_size bl))
                 replace HO336 := mk (Kd.R_mono (Kd.R_told (Kd.R_told (Kd.R_old (up HO336.out) hb) (Kd.R_base ho0)) (Kd.R_base ho1)) (fun _ h_ => h_.1))
                 replace HO339 := mk (Kd.R_mono (Kd.R_told (Kd.R_told (Kd.R_old (up HO339.out) hb) (Kd.R_base ho0)) (Kd.R_base ho1)) (fun _ h_ => h_.1))
                 replace HO360 := mk (Kd.R_mono (Kd.R_told (Kd.R_told (Kd.R_old (up HO360.out) hb) (Kd.R_base ho0)) (Kd.R_base ho1)) (fun _ h_ => h_.1))
                 replace HO363 := mk (Kd.R_mono (Kd.R_told (Kd.R_told (Kd.R_old (up HO363.out) hb) (Kd.R_base ho0)) (Kd.R_base ho1)) (fun _ h_ => h_.1))
                 replace HO393 := mk (Kd.R_mono (Kd.R_told (Kd.R_told (Kd.R_old (up HO393.out) hb) (Kd.R_base ho0)) (Kd.R_base ho1)) (fun _ h_ => h_.1))
                 replace HO396 := mk (Kd.R_mono (Kd.R_told (Kd.R_told (Kd.R_old (up HO396.out) hb) (Kd.R_base ho0)) (Kd.R_base ho1)) (fun _ h_ => h_.1))
                 have HO410 := mk (Kd.R_lower (Kd.R_new' (Kd.R_new' (Kd.R_new' ho2 (Kd.R_lt (up HO342.out))) (Kd.R_lt (up HO366.out))) (Kd.R_lt (up HO399.out))) (below_size bl))
                 replace HO342 := mk (Kd.R_elder' (up HO342.out) (Kd.R_base ho2) hb)
                 replace HO366 := mk (Kd.R_elder' (up HO366.out) (Kd.R_base ho2) hb)
                 replace HO399 := mk (Kd.R_elder' (up HO399.out) (Kd.R_base ho2) hb)
                 replace BK320 := wb BK320 hb
                 replace BK321 := wb BK321 hb
                 replace BK345 := wb BK345 hb
                 replace BK355 := wb BK355 hb
                 replace BK369 := wb BK369 hb
                 replace BK413 := wb BK413 hb
                 replace HB := wh hb
                 (try clear hb)
                 (try clear hb2)
                 (try clear hk)
                 (try clear hi)
                 (try clear ho0)
                 (try clear ho1)
                 (try clear ho2)
                 refine hK.out _ _ ⟨(blk_cell BK320.out 0).trans rfl, (blk_cell BK320.out 1).trans rfl, (blk_cell BK320.out 2).trans rfl, (blk_cell BK321.out 0).trans rfl, (blk_cell BK321.out 1).trans rfl⟩ (fun hHeld => ?_)
                 clear hK K
                 refine nm 99 ?_
                 refine pu 5 94 #[T_,T_,T_,T_,T_,T_,F_,F_,F_,T_,F_,F_,F_] ?_
                 refine pu 6 100 #[T_,T_,T_,T_,T_,T_,T_,F_,F_,T_,F_,F_,F_] ?_
                 refine pu 7 101 #[T_,T_,T_,T_,T_,T_,T_,T_,F_,T_,F_,F_,F_] ?_
                 refine pu 8 102 (tf 10 3) ?_
                 exact norm_ (by simp only [putAll, Act.put, List.setIfInBounds_toArray, List.set_cons_zero, List.set_cons_succ]) (hCont (.slice Ao111 t391.length co111, .slice Ao112 t394.length co112, .slice Ao113 t397.length co113, v403, v406, v409, gb413) _ ⟨hHeld, (by exact up (Kd.R_mono HO336.out (fun _ hk => by first | exact ⟨hk.1.1.1.1.1, ⟨hk.1.1.1.1.2.1, ⟨hk.1.1.1.1.2.2, ⟨hk.1.1.1.2, ⟨hk.1.1.2, ⟨hk.1.2, hk.2⟩⟩⟩⟩⟩⟩ | (revert hk; simp only [and_imp]; intros; (repeat' (refine And.intro ?_ ?_)) <;> assumption)))), (by exact up (Kd.R_mono HO339.out (fun _ hk => by first | exact ⟨hk.1.1.1.1.1, ⟨hk.1.1.1.1.2.1, ⟨hk.1.1.1.1.2.2, ⟨hk.1.1.1.2, ⟨hk.1.1.2, ⟨hk.1.2, hk.2⟩⟩⟩⟩⟩⟩ | (revert hk; simp only [and_imp]; intros; (repeat' (refine And.intro ?_ ?_)) <;> assumption)))), (by exact up (Kd.R_mono HO342.out (fun _ hk => by first | exact ⟨hk.1.1, ⟨hk.1.2, hk.2⟩⟩ | (revert hk; simp only [and_imp]; intros; (repeat' (refine And.intro ?_ ?_)) <;> assumption)))), (by exact up (Kd.R_mono HO360.out (fun _ hk => by first | exact ⟨hk.1.1.1.1.1, ⟨hk.1.1.1.1.2.1, ⟨hk.1.1.1.1.2.2, ⟨hk.1.1.1.2, ⟨hk.1.1.2, ⟨hk.1.2, hk.2⟩⟩⟩⟩⟩⟩ | (revert hk; simp only [and_imp]; intros; (repeat' (refine And.intro ?_ ?_)) <;> assumption)))), (by exact up (Kd.R_mono HO363.out (fun _ hk => by first | exact ⟨hk.1.1.1.1.1, ⟨hk.1.1.1.1.2.1, ⟨hk.1.1.1.1.2.2, ⟨hk.1.1.1.2, ⟨hk.1.1.2, ⟨hk.1.2, hk.2⟩⟩⟩⟩⟩⟩ | (revert hk; simp only [and_imp]; intros; (repeat' (refine And.intro ?_ ?_)) <;> assumption)))), (by exact up (Kd.R_mono HO366.out (fun _ hk => by first | exact ⟨hk.1.1, ⟨hk.1.2, hk.2⟩⟩ | (revert hk; simp only [and_imp]; intros; (repeat' (refine And.intro ?_ ?_)) <;> assumption)))), (by exact up (Kd.R_mono HO393.out (fun _ hk => by first | exact ⟨hk.1.1.1.1.1.2, ⟨hk.1.1.1.1.2, ⟨hk.1.1.1.2, ⟨hk.1.1.2, ⟨hk.1.1.1.1.1.1, ⟨hk.1.2, hk.2⟩⟩⟩⟩⟩⟩ | (revert hk; simp only [and_imp]; intros; (repeat' (refine And.intro ?_ ?_)) <;> assumption)))), (by exact up (Kd.R_mono HO396.out (fun _ hk => by first | exact ⟨hk.1.1.1.1.1.2, ⟨hk.1.1.1.1.2, ⟨hk.1.1.1.2, ⟨hk.1.1.2, ⟨hk.1.1.1.1.1.1, ⟨hk.1.2, hk.2⟩⟩⟩⟩⟩⟩ | (revert hk; simp only [and_imp]; intros; (repeat' (refine And.intro ?_ ?_)) <;> assumption)))), (by exact up (Kd.R_mono HO399.out (fun _ hk => by first | exact ⟨hk.1.1.2, ⟨hk.1.2, hk.2⟩⟩ | (revert hk; simp only [and_imp]; intros; (repeat' (refine And.intro ?_ ?_)) <;> assumption)))), (by exact up (Kd.R_mono HO404.out (fun _ hk => by first | exact ⟨hk.1.1.1.1.1.2, ⟨hk.1.1.1.1.2, ⟨hk.1.1.1.2, ⟨hk.1.1.2, ⟨hk.1.2, ⟨hk.2, hk.1.1.1.1.1.1⟩⟩⟩⟩⟩⟩ | (revert hk; simp only [and_imp]; intros; (repeat' (refine And.intro ?_ ?_)) <;> assumption)))), (by exact up (Kd.R_mono HO407.out (fun _ hk => by first | exact ⟨hk.1.1.1.1.1.2, ⟨hk.1.1.1.1.2, ⟨hk.1.1.1.2, ⟨hk.1.1.2, ⟨hk.1.2, ⟨hk.2, hk.1.1.1.1.1.1⟩⟩⟩⟩⟩⟩ | (revert hk; simp only [and_imp]; intros; (repeat' (refine And.intro ?_ ?_)) <;> assumption)))), (by exact up (Kd.R_mono HO410.out (fun _ hk => by first | exact ⟨hk.1.1.2, ⟨hk.1.2, hk.2⟩⟩ | (revert hk; simp only [and_imp]; intros; (repeat' (refine And.intro ?_ ?_)) <;> assumption)))), (ub BK320.out), (ub BK321.out), (ub BK345.out), (ub BK355.out), (ub BK369.out), (ub BK413.out), GW413.out, GE413.out, NB320_413.out, NB413_320.out, NB321_413.out, NB413_321.out, NB345_413.out, NB413_345.out, NB355_413.out, NB413_355.out, NB369_413.out, NB413_369.out, bl⟩)
               rintro ⟨v392, v395, v398, v403, v406, v409, gb413⟩ w115 ⟨hS_, h0_, h1_, h2_, h3_, h4_, h5_, h6_, h7_, h8_, h9_, h10_, h11_, h12_, h13_, h14_, h15_, h16_, h17_, h18_, h19_, h20_, h21_, h22_, h23_, h24_, h25_, h26_, h27_, h28_, h29_, h30_⟩
               have n0_ : Aside0 (Kd.R (Kd.int .i64) 3 w115 w.heap.size (fun k_ => some k_ ≠ (.slice Ao57 t337.length co57 : Value).ownBlock ∧ some k_ ≠ (.slice Ao78 t358.length co78 : Value).ownBlock ∧ some k_ ≠ (.slice Ao80 t361.length co80 : Value).ownBlock ∧ some k_ ≠ (v392 : Value).ownBlock ∧ some k_ ≠ (v395 : Value).ownBlock ∧ some k_ ≠ (v403 : Value).ownBlock ∧ some k_ ≠ (v406 : Value).ownBlock) (.slice Ao55 t334.length co55) t334) := ⟨h0_⟩
               have n1_ : Aside0 (Kd.R (Kd.int .i64) 3 w115 w.heap.size (fun k_ => some k_ ≠ (.slice Ao55 t334.length co55 : Value).ownBlock ∧ some k_ ≠ (.slice Ao78 t358.length co78 : Value).ownBlock ∧ some k_ ≠ (.slice Ao80 t361.length co80 : Value).ownBlock ∧ some k_ ≠ (v392 : Value).ownBlock ∧ some k_ ≠ (v395 : Value).ownBlock ∧ some k_ ≠ (v403 : Value).ownBlock ∧ some k_ ≠ (v406 : Value).ownBlock) (.slice Ao57 t337.length co57) t337) := ⟨h1_⟩
               have n2_ : Aside0 (Kd.R k50 50 w115 w.heap.size (fun k_ => some k_ ≠ (.slice Ao82 t364.length co82 : Value).ownBlock ∧ some k_ ≠ (v398 : Value).ownBlock ∧ some k_ ≠ (v409 : Value).ownBlock) (.slice Ao59 t340.length co59) t340) := ⟨h2_⟩
               have n3_ : Aside0 (Kd.R (Kd.int .i64) 3 w115 w.heap.size (fun k_ => some k_ ≠ (.slice Ao55 t334.length co55 : Value).ownBlock ∧ some k_ ≠ (.slice Ao57 t337.length co57 : Value).ownBlock ∧ some k_ ≠ (.slice Ao80 t361.length co80 : Value).ownBlock ∧ some k_ ≠ (v392 : Value).ownBlock ∧ some k_ ≠ (v395 : Value).ownBlock ∧ some k_ ≠ (v403 : Value).ownBlock ∧ some k_ ≠ (v406 : Value).ownBlock) (.slice Ao78 t358.length co78) t387) := ⟨h3_⟩
               have n4_ : Aside0 (Kd.R (Kd.int .i64) 3 w115 w.heap.size (fun k_ => some k_ ≠ (.slice Ao55 t334.length co55 : Value).ownBlock ∧ some k_ ≠ (.slice Ao57 t337.length co57 : Value).ownBlock ∧ some k_ ≠ (.slice Ao78 t358.length co78 : Value).ownBlock ∧ some k_ ≠ (v392 : Value).ownBlock ∧ some k_ ≠ (v395 : Value).ownBlock ∧ some k_ ≠ (v403 : Value).ownBlock ∧ some k_ ≠ (v406 : Value).ownBlock) (.slice Ao80 t361.length co80) t388) := ⟨h4_⟩
               have n5_ : Aside0 (Kd.R k50 50 w115 w.heap.size (fun k_ => some k_ ≠ (.slice Ao59 t340.length co59 : Value).ownBlock ∧ some k_ ≠ (v398 : Value).ownBlock ∧ some k_ ≠ (v409 : Value).ownBlock) (.slice Ao82 t364.length co82) t389) := ⟨h5_⟩
               have n6_ : Aside0 (Kd.R (Kd.int .i64) 3 w115 w.heap.size (fun k_ => some k_ ≠ (.slice Ao55 t334.length co55 : Value).ownBlock ∧ some k_ ≠ (.slice Ao57 t337.length co57 : Value).ownBlock ∧ some k_ ≠ (.slice Ao78 t358.length co78 : Value).ownBlock ∧ some k_ ≠ (.slice Ao80 t361.length co80 : Value).ownBlock ∧ some k_ ≠ (v395 : Value).ownBlock ∧ some k_ ≠ (v403 : Value).ownBlock ∧ some k_ ≠ (v406 : Value).ownBlock) v392 t391) := ⟨h6_⟩
               have n7_ : Aside0 (Kd.R (Kd.int .i64) 3 w115 w.heap.size (fun k_ => some k_ ≠ (.slice Ao55 t334.length co55 : Value).ownBlock ∧ some k_ ≠ (.slice Ao57 t337.length co57 : Value).ownBlock ∧ some k_ ≠ (.slice Ao78 t358.length co78 : Value).ownBlock ∧ some k_ ≠ (.slice Ao80 t361.length co80 : Value).ownBlock ∧ some k_ ≠ (v392 : Value).ownBlock ∧ some k_ ≠ (v403 : Value).ownBlock ∧ some k_ ≠ (v406 : Value).ownBlock) v395 t394) := ⟨h7_⟩
               have n8_ : Aside0 (Kd.R k50 50 w115 w.heap.size (fun k_ => some k_ ≠ (.slice Ao59 t340.length co59 : Value).ownBlock ∧ some k_ ≠ (.slice Ao82 t364.length co82 : Value).ownBlock ∧ some k_ ≠ (v409 : Value).ownBlock) v398 t397) := ⟨h8_⟩
               have n9_ : Aside0 (Kd.R (Kd.int .i64) 3 w115 w.heap.size (fun k_ => some k_ ≠ (.slice Ao55 t334.length co55 : Value).ownBlock ∧ some k_ ≠ (.slice Ao57 t337.length co57 : Value).ownBlock ∧ some k_ ≠ (.slice Ao78 t358.length co78 : Value).ownBlock ∧ some k_ ≠ (.slice Ao80 t361.length co80 : Value).ownBlock ∧ some k_ ≠ (v392 : Value).ownBlock ∧ some k_ ≠ (v395 : Value).ownBlock ∧ some k_ ≠ (v406 : Value).ownBlock) v403 t402) := ⟨h9_⟩
               have n10_ : Aside0 (Kd.R (Kd.int .i64) 3 w115 w.heap.size (fun k_ => some k_ ≠ (.slice Ao55 t334.length co55 : Value).ownBlock ∧ some k_ ≠ (.slice Ao57 t337.length co57 : Value).ownBlock ∧ some k_ ≠ (.slice Ao78 t358.length co78 : Value).ownBlock ∧ some k_ ≠ (.slice Ao80 t361.length co80 : Value).ownBlock ∧ some k_ ≠ (v392 : Value).ownBlock ∧ some k_ ≠ (v395 : Value).ownBlock ∧ some k_ ≠ (v403 : Value).ownBlock) v406 t405) := ⟨h10_⟩
               have n11_ : Aside0 (Kd.R k50 50 w115 w.heap.size (fun k_ => some k_ ≠ (.slice Ao59 t340.length co59 : Value).ownBlock ∧ some k_ ≠ (.slice Ao82 t364.length co82 : Value).ownBlock ∧ some k_ ≠ (v398 : Value).ownBlock) v409 t408) := ⟨h11_⟩
               have n12_ : Aside0 (w115.heap[gb320]? = some (.cells #[.slice A0_0 l0_0.length c0_0, .slice A0_1 l0_1.length c0_1, .slice A0_2 l0_2.length c0_2] 25 (0, 0))) := ⟨h12_⟩
               have n13_ : Aside0 (w115.heap[gb321]? = some (.cells #[.int .i64 a1_0, .int .i64 a1_1] 37 (0, 0))) := ⟨h13_⟩
               have n14_ : Aside0 (w115.heap[gb345]? = some (.cells #[.slice Ao55 t334.length co55, .slice Ao57 t337.length co57, .slice Ao59 t340.length co59] 29 (0, 0))) := ⟨h14_⟩
               have n15_ : Aside0 (w115.heap[gb355]? = some (.cells #[.slice Ao65 t346.length co65, .slice Ao70 t349.length co70, .slice Ao71 t352.length co71] 29 (0, 0))) := ⟨h15_⟩
               have n16_ : Aside0 (w115.heap[gb369]? = some (.cells #[.slice Ao78 t358.length co78, .slice Ao80 t361.length co80, .slice Ao82 t364.length co82] 29 (0, 0))) := ⟨h16_⟩
               have n17_ : Aside0 (w115.heap[gb413]? = some (.cells #[.slice none 0 0, .slice none 0 0, .slice none 0 0] 29 (0, 0))) := ⟨h17_⟩
               have n18_ : Aside0 (w.heap.size ≤ gb413) := ⟨h18_⟩
               have n19_ : Aside0 (w.heap.size ≤ gb413) := ⟨h19_⟩
               have n20_ : Aside0 (gb320 ≠ gb413) := ⟨h20_⟩
               have n21_ : Aside0 (gb413 ≠ gb320) := ⟨h21_⟩
               have n22_ : Aside0 (gb321 ≠ gb413) := ⟨h22_⟩
               have n23_ : Aside0 (gb413 ≠ gb321) := ⟨h23_⟩
               have n24_ : Aside0 (gb345 ≠ gb413) := ⟨h24_⟩
               have n25_ : Aside0 (gb413 ≠ gb345) := ⟨h25_⟩
               have n26_ : Aside0 (gb355 ≠ gb413) := ⟨h26_⟩
               have n27_ : Aside0 (gb413 ≠ gb355) := ⟨h27_⟩
               have n28_ : Aside0 (gb369 ≠ gb413) := ⟨h28_⟩
               have n29_ : Aside0 (gb413 ≠ gb369) := ⟨h29_⟩
               have n30_ : Aside0 (Below w.heap.size w w115) := ⟨h30_⟩
               clear HO336
               clear HO339
               clear HO342
               clear HO360
               clear HO363
               clear HO366
               clear BK320
               clear BK321
               clear BK345
               clear BK355
               clear BK369
               clear HB
               clear h0_ h1_ h2_ h3_ h4_ h5_ h6_ h7_ h8_ h9_ h10_ h11_ h12_ h13_ h14_ h15_ h16_ h17_ h18_ h19_ h20_ h21_ h22_ h23_ h24_ h25_ h26_ h27_ h28_ h29_ h30_
               have HO336 := n0_
               have HO339 := n1_
               have HO342 := n2_
               have HO360 := n3_
               have HO363 := n4_
               have HO366 := n5_
               have HO393 := n6_
               have HO396 := n7_
               have HO399 := n8_
               have HO404 := n9_
               have HO407 := n10_
               have HO410 := n11_
               have BK320 := n12_
               have BK321 := n13_
               have BK345 := n14_
               have BK355 := n15_
               have BK369 := n16_
               have BK413 := n17_
               have GW413 := n18_
               have GE413 := n19_
               have NB320_413 := n20_
               have NB413_320 := n21_
               have NB321_413 := n22_
               have NB413_321 := n23_
               have NB345_413 := n24_
               have NB413_345 := n25_
               have NB355_413 := n26_
               have NB413_355 := n27_
               have NB369_413 := n28_
               have NB413_369 := n29_
               have HB := n30_
               clear n0_ n1_ n2_ n3_ n4_ n5_ n6_ n7_ n8_ n9_ n10_ n11_ n12_ n13_ n14_ n15_ n16_ n17_ n18_ n19_ n20_ n21_ n22_ n23_ n24_ n25_ n26_ n27_ n28_ n29_ n30_
               have hHeld : w115.cell? ⟨gb320, 0, none⟩ = some (.slice A0_0 l0_0.length c0_0) ∧ w115.cell? ⟨gb320, 1, none⟩ = some (.slice A0_1 l0_1.length c0_1) ∧ w115.cell? ⟨gb320, 2, none⟩ = some (.slice A0_2 l0_2.length c0_2) ∧ w115.cell? ⟨gb321, 0, none⟩ = some (.int .i64 a1_0) ∧ w115.cell? ⟨gb321, 1, none⟩ = some (.int .i64 a1_1) := hS_
               obtain ⟨Ao116, co116, eo116⟩ := Kd.R_slice HO404.out
               (first | subst eo116 | (injection eo116 with f1_ f2_ f3_; have f4_ := f1_.symm; have f5_ := f3_.symm; clear f1_ f2_ f3_; subst f4_; subst f5_))
               obtain ⟨Ao118, co118, eo118⟩ := Kd.R_slice HO407.out
               (first | subst eo118 | (injection eo118 with f1_ f2_ f3_; have f4_ := f1_.symm; have f5_ := f3_.symm; clear f1_ f2_ f3_; subst f4_; subst f5_))
               obtain ⟨Ao120, co120, eo120⟩ := Kd.R_slice HO410.out
               (first | subst eo120 | (injection eo120 with f1_ f2_ f3_; have f4_ := f1_.symm; have f5_ := f3_.symm; clear f1_ f2_ f3_; subst f4_; subst f5_))
               refine norm_ (a' := ?_) ?_ ?_
               rotate_left
               ·simp only [putAll, Act.put, List.setIfInBounds_toArray, List.set_cons_zero, List.set_cons_succ]
                rfl
               refine one_ (i := 10) (N := none) #[T_, T_, T_, T_, T_, T_, T_, T_, T_, T_, T_, F_, F_] rfl rfl (one_of HT_.out (by kernel_rfl)) (by decide) (fun K hK => ?_)
               have hs117 : w115.cell? ⟨gb413, 0, none⟩ = some (.slice none 0 0) := (blk_cell BK413.out 0).trans rfl
               have hfs117 := blk_frozen BK413.out 0
               have hns117_0 := NB320_413.out
               have hns117_1 := NB321_413.out
               have hns117_2 := NB345_413.out
               have hns117_3 := NB355_413.out
               have hns117_4 := NB369_413.out
               have hms117_0 := NB413_320.out
               have hms117_1 := NB413_321.out
               have hms117_2 := NB413_345.out
               have hms117_3 := NB413_355.out
               have hms117_4 := NB413_369.out
               have hs119 : w115.cell? ⟨gb413, 1, none⟩ = some (.slice none 0 0) := (blk_cell BK413.out 1).trans rfl
               have hfs119 := blk_frozen BK413.out 1
               have hns119_0 := NB320_413.out
               have hns119_1 := NB321_413.out
               have hns119_2 := NB345_413.out
               have hns119_3 := NB355_413.out
               have hns119_4 := NB369_413.out
               have hms119_0 := NB413_320.out
               have hms119_1 := NB413_321.out
               have hms119_2 := NB413_345.out
               have hms119_3 := NB413_355.out
               have hms119_4 := NB413_369.out
               have hs121 : w115.cell? ⟨gb413, 2, none⟩ = some (.slice none 0 0) := (blk_cell BK413.out 2).trans rfl
               have hfs121 := blk_frozen BK413.out 2
               have hns121_0 := NB320_413.out
               have hns121_1 := NB321_413.out
               have hns121_2 := NB345_413.out
               have hns121_3 := NB355_413.out
               have hns121_4 := NB369_413.out
               have hms121_0 := NB413_320.out
               have hms121_1 := NB413_321.out
               have hms121_2 := NB413_345.out
               have hms121_3 := NB413_355.out
               have hms121_4 := NB413_369.out
               refine skip_ (w1 := ?_) (by rfl) rfl ?_ ?_
               rotate_left
               ·go_simp
                rfl
               refine hK.out _ _ ⟨((cell_far (p := ⟨gb413, _, none⟩) NB320_413.out _).trans (((cell_far (p := ⟨gb413, _, none⟩) NB320_413.out _).trans (((cell_far (p := ⟨gb413, _, none⟩) NB320_413.out _).trans (hHeld.1)))))), ((cell_far (p := ⟨gb413, _, none⟩) NB320_413.out _).trans (((cell_far (p := ⟨gb413, _, none⟩) NB320_413.out _).trans (((cell_far (p := ⟨gb413, _, none⟩) NB320_413.out _).trans (hHeld.2.1)))))), ((cell_far (p := ⟨gb413, _, none⟩) NB320_413.out _).trans (((cell_far (p := ⟨gb413, _, none⟩) NB320_413.out _).trans (((cell_far (p := ⟨gb413, _, none⟩) NB320_413.out _).trans (hHeld.2.2.1)))))), ((cell_far (p := ⟨gb413, _, none⟩) NB321_413.out _).trans (((cell_far (p := ⟨gb413, _, none⟩) NB321_413.out _).trans (((cell_far (p := ⟨gb413, _, none⟩) NB321_413.out _).trans (hHeld.2.2.2.1)))))), ((cell_far (p := ⟨gb413, _, none⟩) NB321_413.out _).trans (((cell_far (p := ⟨gb413, _, none⟩) NB321_413.out _).trans (((cell_far (p := ⟨gb413, _, none⟩) NB321_413.out _).trans (hHeld.2.2.2.2))))))⟩ (fun hHeld => ?_)
               clear hK K
               refine pu 11 17 (tf 12 1) ?_
               refine pu 12 18 (tf 13 0) ?_
               refine done_ (done_of HT_.out (by kernel_rfl)) ?_
               have hnb122 := NB413_320.out
               have hnc122 := NB320_413.out
               have hnb123 := NB413_321.out
               have hnc123 := NB321_413.out
               have hnb124 := NB413_345.out
               have hnc124 := NB345_413.out
               have hnb125 := NB413_355.out
               have hnc125 := NB355_413.out
               have hnb126 := NB413_369.out
               have hnc126 := NB369_413.out
               obtain ⟨hcz127_0, hcz127_1, hcz127_2, hfz127_0, hfz127_1, hfz127_2⟩ := bz3 BK413
               obtain ⟨hcz128_0, hcz128_1, hcz128_2, hfz128_0, hfz128_1, hfz128_2⟩ := bz3 BK345
               try go_wp2_with (first | ((with_reducible refine gate_callee (f := 10) rfl ?_); refine gl (some 105) rfl Try.func10 #[.agg #[.slice Ao116 t402.length co116, .slice Ao118 t405.length co118, .slice Ao120 t408.length co120], .agg #[.slice Ao55 t334.length co55, .slice Ao57 t337.length co57, .slice Ao59 t340.length co59]] ?_; (with_reducible refine (laws_eqCracker.calls k _ _ t402 _ _ t405 _ _ t408 _ _ t334 _ _ t337 _ _ t340 true _ ?side1 ?side2 ?side3 ?side4 ?side5 ?side6 ?side7 ?side8 ?side9 ?side10 ?side11 ?side12 A34.out).mono ?_); (case side1 => refine (Kd.R_reads' (e := 3) (base := w.heap.size) (ok := fun k_ => (some k_ ≠ (.slice Ao55 t334.length co55 : Value).ownBlock ∧ (some k_ ≠ (.slice Ao57 t337.length co57 : Value).ownBlock ∧ (some k_ ≠ (.slice Ao78 t358.length co78 : Value).ownBlock ∧ (some k_ ≠ (.slice Ao80 t361.length co80 : Value).ownBlock ∧ (some k_ ≠ (v392 : Value).ownBlock ∧ (some k_ ≠ (v395 : Value).ownBlock ∧ some k_ ≠ (.slice Ao118 t405.length co118 : Value).ownBlock))))))) (n := t402.length) (c := co116) ?_).2.2; exact (by exact rs1 HO404 BK413)); (case side2 => exact (Kd.R_reads' HO404.out).2.1); (case side3 => refine (Kd.R_reads' (e := 3) (base := w.heap.size) (ok := fun k_ => (some k_ ≠ (.slice Ao55 t334.length co55 : Value).ownBlock ∧ (some k_ ≠ (.slice Ao57 t337.length co57 : Value).ownBlock ∧ (some k_ ≠ (.slice Ao78 t358.length co78 : Value).ownBlock ∧ (some k_ ≠ (.slice Ao80 t361.length co80 : Value).ownBlock ∧ (some k_ ≠ (v392 : Value).ownBlock ∧ (some k_ ≠ (v395 : Value).ownBlock ∧ some k_ ≠ (.slice Ao116 t402.length co116 : Value).ownBlock))))))) (n := t405.length) (c := co118) ?_).2.2; exact (by exact rs1 HO407 BK413)); (case side4 => exact (Kd.R_reads' HO407.out).2.1); (case side5 => refine (Kd.R_reads' (e := 50) (base := w.heap.size) (ok := fun k_ => (some k_ ≠ (.slice Ao59 t340.length co59 : Value).ownBlock ∧ (some k_ ≠ (.slice Ao82 t364.length co82 : Value).ownBlock ∧ some k_ ≠ (v398 : Value).ownBlock))) (n := t408.length) (c := co120) ?_).2.2; exact (by exact rs1 HO410 BK413)); (case side6 => exact (Kd.R_reads' HO410.out).2.1); (case side7 => refine (Kd.R_reads' (e := 3) (base := w.heap.size) (ok := fun k_ => (some k_ ≠ (.slice Ao57 t337.length co57 : Value).ownBlock ∧ (some k_ ≠ (.slice Ao78 t358.length co78 : Value).ownBlock ∧ (some k_ ≠ (.slice Ao80 t361.length co80 : Value).ownBlock ∧ (some k_ ≠ (v392 : Value).ownBlock ∧ (some k_ ≠ (v395 : Value).ownBlock ∧ (some k_ ≠ (.slice Ao116 t402.length co116 : Value).ownBlock ∧ some k_ ≠ (.slice Ao118 t405.length co118 : Value).ownBlock))))))) (n := t334.length) (c := co55) ?_).2.2; exact (by exact rs1 HO336 BK413)); (case side8 => exact (Kd.R_reads' HO336.out).2.1); (case side9 => refine (Kd.R_reads' (e := 3) (base := w.heap.size) (ok := fun k_ => (some k_ ≠ (.slice Ao55 t334.length co55 : Value).ownBlock ∧ (some k_ ≠ (.slice Ao78 t358.length co78 : Value).ownBlock ∧ (some k_ ≠ (.slice Ao80 t361.length co80 : Value).ownBlock ∧ (some k_ ≠ (v392 : Value).ownBlock ∧ (some k_ ≠ (v395 : Value).ownBlock ∧ (some k_ ≠ (.slice Ao116 t402.length co116 : Value).ownBlock ∧ some k_ ≠ (.slice Ao118 t405.length co118 : Value).ownBlock))))))) (n := t337.length) (c := co57) ?_).2.2; exact (by exact rs1 HO339 BK413)); (case side10 => exact (Kd.R_reads' HO339.out).2.1); (case side11 => refine (Kd.R_reads' (e := 50) (base := w.heap.size) (ok := fun k_ => (some k_ ≠ (.slice Ao82 t364.length co82 : Value).ownBlock ∧ (some k_ ≠ (v398 : Value).ownBlock ∧ some k_ ≠ (.slice Ao120 t408.length co120 : Value).ownBlock))) (n := t340.length) (c := co59) ?_).2.2; exact (by exact rs1 HO342 BK413)); (case side12 => exact (Kd.R_reads' HO342.out).2.1); rintro e w129 ⟨rfl, hb⟩; refine ⟨_, rfl, ?_⟩; replace HO336 := mk (Kd.R_below (by exact rs1 HO336 BK413) hb); replace HO339 := mk (Kd.R_below (by exact rs1 HO339 BK413) hb); replace HO342 := mk (Kd.R_below (by exact rs1 HO342 BK413) hb); replace HO360 := mk (Kd.R_below (by exact rs1 HO360 BK413) hb); replace HO363 := mk (Kd.R_below (by exact rs1 HO363 BK413) hb); replace HO366 := mk (Kd.R_below (by exact rs1 HO366 BK413) hb); replace HO393 := mk (Kd.R_below (by exact rs1 HO393 BK413) hb); replace HO396 := mk (Kd.R_below (by exact rs1 HO396 BK413) hb); replace HO399 := mk (Kd.R_below (by exact rs1 HO399 BK413) hb); replace HO404 := mk (Kd.R_below (by exact rs1 HO404 BK413) hb); replace HO407 := mk (Kd.R_below (by exact rs1 HO407 BK413) hb); replace HO410 := mk (Kd.R_below (by exact rs1 HO410 BK413) hb); replace BK320 := wx BK320 hb; replace BK321 := wx BK321 hb; replace BK345 := wx BK345 hb; replace BK355 := wx BK355 hb; replace BK369 := wx BK369 hb; replace BK413 := mk (blk_below (g := gb413) (o := .cells #[.slice Ao116 t402.length co116, .slice Ao118 t405.length co118, .slice Ao120 t408.length co120] 29 (0, 0)) bq hb); replace HB := wh hb; (try clear hb); (try clear hb2); (try clear hk); (try clear hi); replace HO360 := mk (Kd.R_mono (ok' := (fun k_ => some k_ ≠ (.slice Ao80 t361.length co80 : Value).ownBlock)) HO360.out (fun k_ hk => by first | exact hk.2.2.1 | (revert hk; simp only [and_imp]; intros; (repeat' (refine And.intro ?_ ?_)) <;> assumption))); replace HO363 := mk (Kd.R_mono (ok' := (fun k_ => some k_ ≠ (.slice Ao78 t358.length co78 : Value).ownBlock)) HO363.out (fun k_ hk => by first | exact hk.2.2.1 | (revert hk; simp only [and_imp]; intros; (repeat' (refine And.intro ?_ ?_)) <;> assumption))); replace HO366 := mk (Kd.R_mono (ok' := (fun _ => True)) HO366.out (fun k_ hk => trivial)); clear HO336; clear HO339; clear HO342; clear HO393; clear HO396; clear HO399; clear HO404; clear HO407; clear HO410; obtain ⟨hcz130_0, hcz130_1, hcz130_2, hfz130_0, hfz130_1, hfz130_2⟩ := bz3 BK369) | ((with_reducible refine gate_callee (f := 12) rfl ?_); refine goesL_ (some 119) rfl rfl Try.func12 (by kernel_rfl) rfl #[.agg #[.slice Ao78 t387.length co78, .slice Ao80 t388.length co80, .slice Ao82 t389.length co82], .int .i64 1] rfl (by (try simp only [List.map_toArray, List.map_cons, List.map_nil]); first | done | (rw [show t387.length = t358.length from (Kd.R_reads' HO360.out).1.symm, show t388.length = t361.length from (Kd.R_reads' HO363.out).1.symm, show t389.length = t364.length from (Kd.R_reads' HO366.out).1.symm] <;> rfl) | rfl | (simp only [List.length_drop, List.length_take]; rfl)) ?_; (with_reducible refine (laws_heldCracker.calls k _ _ t387 _ _ t388 _ _ t389 1 t415 _ ?side1 ?side2 ?side3 ?side4 ?side5 ?side6 A38.out).mono ?_); (case side1 => exact uc (Kd.R_reads' HO360.out).2.2); (case side2 => rw [show t387.length = t358.length from (Kd.R_reads' HO360.out).1.symm]; exact (Kd.R_reads' HO360.out).2.1); (case side3 => exact uc (Kd.R_reads' HO363.out).2.2); (case side4 => rw [show t388.length = t361.length from (Kd.R_reads' HO363.out).1.symm]; exact (Kd.R_reads' HO363.out).2.1); (case side5 => exact uc (Kd.R_reads' HO366.out).2.2); (case side6 => rw [show t389.length = t364.length from (Kd.R_reads' HO366.out).1.symm]; exact (Kd.R_reads' HO366.out).2.1); rintro e w131 ⟨rfl, hb⟩; refine ⟨_, rfl, ?_⟩; replace HO360 := mk (Kd.R_below (up HO360.out) hb); replace HO363 := mk (Kd.R_below (up HO363.out) hb); replace HO366 := mk (Kd.R_below (up HO366.out) hb); replace BK320 := wb BK320 hb; replace BK321 := wb BK321 hb; replace BK345 := wb BK345 hb; replace BK355 := wb BK355 hb; replace BK369 := wb BK369 hb; replace BK413 := wb BK413 hb; replace HB := wh hb; (try clear hb); (try clear hb2); (try clear hk); (try clear hi)))
               go_ret
               exact ⟨by first | rfl | (simp [errW_none, errW_some] <;> rfl) | (simp [*, errW_none, errW_some] <;> rfl), bl⟩
              ·rw [if_neg c40] at H
               exact absurd H (by simp)
           ·rw [if_neg c36] at H
            exact absurd H (by simp)
          ·replace c35 := Bool.eq_false_iff.mpr c35
           subst c35
           rw [if_neg nf] at H
           exact absurd H (by simp)
         ·rw [if_neg c30] at H
          exact absurd H (by simp)
       ·replace c26 := Bool.eq_false_iff.mpr c26
        subst c26
        rw [if_neg nf] at H
        exact absurd H (by simp)
     ·replace c22 := Bool.eq_false_iff.mpr c22
      subst c22
      rw [if_neg nf] at H
      exact absurd H (by simp)
   ·rw [if_neg c18] at H
    exact absurd H (by simp)
  ·replace c17 := Bool.eq_false_iff.mpr c17
   subst c17
   rw [if_neg nf] at H
   exact absurd H (by simp)

end Go.Proofs.Ytlikcmonejefoab.PFnExactRippleInsert
