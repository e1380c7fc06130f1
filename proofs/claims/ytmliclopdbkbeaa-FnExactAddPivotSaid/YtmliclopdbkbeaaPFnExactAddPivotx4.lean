-- printed by a program of this session, a turned copy of the print of the kit
import Derived.Test.YtmliclopdbkbeaaSq
import Derived.Test.YtmliclopdbkbeaaPFnExactAddPivotx0
import Derived.Test.YtmliclopdbkbeaaPFnExactAddPivotx3
namespace Go.Proofs.Ytmliclopdbkbeaa.PFnExactAddPivot
open Go.RowKit Go.Proofs.YtmliclopdbkbeaaW.PrintWords Go.Proofs.YtmliclopdbkbeaaW.PrintLast Go.Proofs.YtmliclopdbkbeaaW.PrintMore Go.Proofs.Ytmliclopdbkbeaa.Sq
attribute [local go_sem] max2_int min2_int max_two min_two max_three min_three max_four min_four Giv.cell_twice   -- for this text's walks alone
set_option linter.unusedVariables false
set_option linter.unusedSimpArgs false

/-! ### spec_l4Pivots: function 30 -/
mutual
def spec_l4Pivots.l0 : Nat → List Int → List (S35) → Int → Option (Bool)
 | 0, _, _, _ => none
 | k + 1, x0, x1, x5 => if x5 < (x1.length : Int) then (if 0 ≤ x5 then ((spec_l1In.f ((rd_T35 x1 x5).f0) (-1000) 1000).bind fun t130 => (if t130 = true then ((spec_l1In.f ((rd_T35 x1 x5).f1) 0 (x0.length : Int)).bind fun t131 => (if t131 = true then (if x5 > 0 then (if 0 ≤ (wrap64 (x5 - 1)) then (if (wrap64 (x5 - 1)) < (x1.length : Int) then (if ((rd_T35 x1 x5).f0) ≤ ((rd_T35 x1 (wrap64 (x5 - 1))).f0) then (spec_l4Pivots.j1 k x0 x1 x5 true ((rd_T35 x1 x5).f0) ((rd_T35 x1 x5).f1)) else (spec_l4Pivots.j1 k x0 x1 x5 (decide (((rd_T35 x1 x5).f1) < ((rd_T35 x1 (wrap64 (x5 - 1))).f1))) ((rd_T35 x1 x5).f0) ((rd_T35 x1 x5).f1))) else (none)) else (none)) else (spec_l4Pivots.j1 k x0 x1 x5 false ((rd_T35 x1 x5).f0) ((rd_T35 x1 x5).f1))) else (spec_l4Pivots.j1 k x0 x1 x5 true ((rd_T35 x1 x5).f0) ((rd_T35 x1 x5).f1)))) else (spec_l4Pivots.j1 k x0 x1 x5 true ((rd_T35 x1 x5).f0) ((rd_T35 x1 x5).f1)))) else (none)) else (some true)
def spec_l4Pivots.j1 : Nat → List Int → List (S35) → Int → Bool → Int → Int → Option (Bool)
 | 0, _, _, _, _, _, _ => none
 | k + 1, x0, x1, x5, x55, x130000, x130001 => if x55 = true then (some false) else (spec_l4Pivots.l1 k x0 x1 x5 0 x130000 x130001)
def spec_l4Pivots.l1 : Nat → List Int → List (S35) → Int → Int → Int → Int → Option (Bool)
 | 0, _, _, _, _, _, _ => none
 | k + 1, x0, x1, x5, x7, x130000, x130001 => if x7 < (x0.length : Int) then (if 0 ≤ x7 then (if ((decide ((rd x0 x7) < x130000)) != (decide (x7 < x130001))) = true then (some false) else (spec_l4Pivots.l1 k x0 x1 x5 (wrap64 (x7 + 1)) x130000 x130001)) else (none)) else (spec_l4Pivots.l0 k x0 x1 (wrap64 (x5 + 1)))
end
def spec_l4Pivots.f (k : Nat) (l0 : List Int) (l1 : List (S35)) : Option (Bool) := spec_l4Pivots.l0 k l0 l1 0
theorem spec_l4Pivots.mono_l : ∀ k, (∀ y0 y1 y2, LeO (spec_l4Pivots.l0 k y0 y1 y2) (spec_l4Pivots.l0 (k + 1) y0 y1 y2)) ∧ (∀ y0 y1 y2 y3 y4 y5, LeO (spec_l4Pivots.j1 k y0 y1 y2 y3 y4 y5) (spec_l4Pivots.j1 (k + 1) y0 y1 y2 y3 y4 y5)) ∧ (∀ y0 y1 y2 y3 y4 y5, LeO (spec_l4Pivots.l1 k y0 y1 y2 y3 y4 y5) (spec_l4Pivots.l1 (k + 1) y0 y1 y2 y3 y4 y5))
 | 0 => ⟨fun _ _ _ r h => by simp [spec_l4Pivots.l0] at h, fun _ _ _ _ _ _ r h => by simp [spec_l4Pivots.j1] at h, fun _ _ _ _ _ _ r h => by simp [spec_l4Pivots.l1] at h⟩
 | k + 1 => by
  obtain ⟨ih0, ih1, ih2⟩ := spec_l4Pivots.mono_l k
  refine ⟨?_, ?_, ?_⟩
  ·intro y0 y1 y2
   unfold spec_l4Pivots.l0
   exact mo
  ·intro y0 y1 y2 y3 y4 y5
   unfold spec_l4Pivots.j1
   exact mo
  ·intro y0 y1 y2 y3 y4 y5
   unfold spec_l4Pivots.l1
   exact mo
theorem spec_l4Pivots.mono : ∀ a0 a1 k, LeO (spec_l4Pivots.f k a0 a1) (spec_l4Pivots.f (k + 1) a0 a1) := by
 intro a0 a1 k
 obtain ⟨ih0, ih1, ih2⟩ := spec_l4Pivots.mono_l k
 unfold spec_l4Pivots.f
 exact mo
instance spec_l4Pivots.mi (a0 a1 k) : LeC (spec_l4Pivots.f k a0 a1) (spec_l4Pivots.f (k + 1) a0 a1) := ⟨spec_l4Pivots.mono a0 a1 k⟩
def spec_l4Pivots.T5 : Bool × List (List Nat × List Nat) := (true, [([], []), ([0], [0]), ([1], [1]), ([2], [2]), ([3, 2], [3]), ([4], [4]), ([5, 4], [4, 5]), ([4], [4]), ([7, 4], [4, 7]), ([6, 8, 4, 4], [4, 6, 8]), ([9, 4], [4, 9]), ([4, 10], [4, 10]), ([11, 9], [11]), ([12], [12]), ([13, 12], [12, 13]), ([14, 12, 12], [12, 14]), ([15], [15]), ([16, 15], [15, 16]), ([15], [15]), ([15], [15]), ([19, 15], [15, 19]), ([18, 20, 15], [15, 18, 20]), ([21, 15], [15, 21]), ([22, 15], [15, 22]), ([17, 23, 15], [15, 17, 23]), ([24, 15, 15], [15, 24]), ([25], [25]), ([26, 25], [25, 26]), ([25], [25]), ([25], [25]), ([29, 25], [25, 29]), ([28, 30, 25], [25, 28, 30]), ([31, 25], [25, 31]), ([32, 25], [25, 32]), ([27, 33, 25], [25, 27, 33]), ([25, 34, 15], [15, 25, 34]), ([15, 35, 12], [12, 15, 35]), ([12, 36], [12, 36])])
def spec_l4Pivots.B5 : List Nat := [0, 1, 3, 7, 15, 31, 63, 31, 159, 511, 1023, 2047, 4095, 8191, 16383, 32767, 65535, 131071, 65535, 65535, 589823, 1900543, 3997695, 8191999, 16777215, 33554431, 67108863, 134217727, 67108863, 67108863, 603979775, 1946157055, 4093640703, 8388607999, 17179869183, 34359738367, 68719476735, 137438953471]
theorem spec_l4Pivots.tab5 : rtab .any (opsOf Try.f30 5) = spec_l4Pivots.T5 := by kernel_rfl
theorem spec_l4Pivots.bits5 : waitsOk spec_l4Pivots.T5.2 spec_l4Pivots.B5 = true := by kernel_rfl
def spec_l4Pivots.T10 : Bool × List (List Nat × List Nat) := (true, [([], []), ([], []), ([0, 1], [0, 1]), ([2], [2]), ([], []), ([4], [4]), ([3, 5], [3, 5]), ([], []), ([], []), ([8], [8]), ([7, 9], [7, 9]), ([6, 10], [6, 10])])
def spec_l4Pivots.B10 : List Nat := [0, 0, 3, 7, 0, 16, 63, 0, 0, 256, 896, 2047]
theorem spec_l4Pivots.tab10 : rtab .any (opsOf Try.f30 10) = spec_l4Pivots.T10 := by kernel_rfl
theorem spec_l4Pivots.bits10 : waitsOk spec_l4Pivots.T10.2 spec_l4Pivots.B10 = true := by kernel_rfl
set_option maxHeartbeats 8000000 in
set_option maxRecDepth 100000 in
theorem spec_l4Pivots.calls (k : Nat) (A0 : Option Addr) (c0 : Nat) (l0 : List Int) (A1 : Option Addr) (c1 : Nat) (l1 : List (S35)) (r : Bool) (w : World) (hr0 : Kd.C (Kd.int .i64) w A0 l0.length l0) (hc0 : l0.length ≤ c0) (hr1 : Kd.C k35 w A1 l1.length l1) (hc1 : l1.length ≤ c1) (h : spec_l4Pivots.f k l0 l1 = some r) :
  Calls Try.prog 30 #[.slice A0 l0.length c0, .slice A1 l1.length c1] w fun e w' => e = .returned (.bool r) ∧ Below w.heap.size w w' := by
 have hu35 := Try.underlying35
 have HR0 := Aside0.mk hr0
 have HC0 := Aside0.mk hc0
 clear hr0 hc0
 have HR1 := Aside0.mk hr1
 have HC1 := Aside0.mk hc1
 clear hr1 hc1
 have HB := Aside0.mk (Below.refl w.heap.size w)
 have H : (spec_l4Pivots.l0 k l0 l1 0) = some r := h
 clear h
 have H' := Aside0.mk H
 clear H
 go_enter Try.func30, Try.ntmps30
 go_wp2
 go_loopg [5] k (fun kq v5 w' => ∃ (x5_1 : Int), v5 = .int .i64 x5_1 ∧ Aside0 (spec_l4Pivots.l0 kq l0 l1 x5_1 = some r) ∧ Aside0 (kq ≤ k) ∧ Aside0 (Below w.heap.size w w'))
 case atStart => exact ⟨(0), (by first | rfl | (simp; done) | (simp [*]; done)), H', ⟨Nat.le_refl _⟩, ⟨bl⟩⟩
 case round =>
  clear H'
  try clear c1
  try clear p2
  obtain ⟨x5_1, rfl, HA, HK1, HB⟩ := hrel
  cases gk with
  | zero => exact absurd HA.out (by simp [spec_l4Pivots.l0])
  | succ k1 =>
   have H := HA.out
   clear HA
   simp only [spec_l4Pivots.l0] at H
   by_cases c3 : x5_1 < (l1.length : Int)
   ·rw [if_pos c3] at H
    have c3b0 : decide (x5_1 < (l1.length : Int)) = true := decide_eq_true c3
    clear c3
    by_cases c4 : 0 ≤ x5_1
    ·rw [if_pos c4] at H
     have c4b0 : decide (0 ≤ x5_1) = true := decide_eq_true c4
     clear c4
     have HC5 := Aside0.mk H
     clear H
     have p128 : 0 ≤ (x5_1 : Int) := dt
     have q128 : x5_1 < (l1.length : Int) := dt
     obtain ⟨ad128, e128, hx128_0, hx128_1⟩ := at_T35 HR1.out x5_1 p128 q128
     cases e128
     replace hx128_0 := (HB.out.cell (World.block_lt_of_cell? w _ hx128_0)).trans hx128_0
     replace hx128_1 := (HB.out.cell (World.block_lt_of_cell? w _ hx128_1)).trans hx128_1
     replace p128 := eq_true p128
     replace q128 := eq_true q128
     go_upto_region 5 with (first | ((with_reducible refine gate_dst (N := 6) rfl ?_); (try (refine gate_guard (by rfl) ?_; dsimp only)); refine bx 6 #[.int .i64 0, .int .i64 0] 35 ?_; intro gb129 hg w6 hbox hb; have BK129 := mk hbox; have GW129 := wg hg; have GE129 := wg hg; replace HB := wh hb; clear hb hbox hg; obtain ⟨hcz7_0, hcz7_1, hfz7_0, hfz7_1⟩ := bz2 BK129))
     (try simp only [Act.put, List.setIfInBounds_toArray, List.set_cons_zero, List.set_cons_succ])
     go_cut [55] (fun v55 wc => ∃ (kq : Nat) (x55_4 : Bool), v55 = .bool x55_4 ∧ Aside0 (spec_l4Pivots.j1 kq l0 l1 x5_1 x55_4 ((rd_T35 l1 x5_1).f0) ((rd_T35 l1 x5_1).f1) = some r) ∧ Aside0 (kq ≤ k1) ∧ Aside0 (wc.heap[gb129]? = some (.cells #[.int .i64 ((rd_T35 l1 x5_1).f0), .int .i64 ((rd_T35 l1 x5_1).f1)] 35 (0, 0))) ∧ Aside0 (Below w.heap.size w wc))
     case first =>
      have H := HC5.out
      clear HC5
      revert H; refine bo ?_; rintro t130 A8 H
      by_cases c9 : t130 = true
      ·subst c9
       rw [if_pos rfl] at H
       revert H; refine bo ?_; rintro t131 A10 H
       by_cases c11 : t131 = true
       ·subst c11
        rw [if_pos rfl] at H
        by_cases c12 : x5_1 > 0
        ·rw [if_pos c12] at H
         have c12b0 : decide (0 < x5_1) = true := decide_eq_true c12
         clear c12
         (first | rw [c12b0] | (simp only [i64_w, i32_w]; rw [c12b0]) | skip)
         obtain ⟨ji13, hji13⟩ : ∃ j_ : Int, (wrap64 (x5_1 - 1)) = j_ := ⟨_, rfl⟩
         replace H : (if 0 ≤ (ji13) then (if (ji13) < (l1.length : Int) then (if ((rd_T35 l1 x5_1).f0) ≤ ((rd_T35 l1 (ji13)).f0) then (spec_l4Pivots.j1 k1 l0 l1 x5_1 true ((rd_T35 l1 x5_1).f0) ((rd_T35 l1 x5_1).f1)) else (spec_l4Pivots.j1 k1 l0 l1 x5_1 (decide (((rd_T35 l1 x5_1).f1) < ((rd_T35 l1 (ji13)).f1))) ((rd_T35 l1 x5_1).f0) ((rd_T35 l1 x5_1).f1))) else (none)) else (none)) = some r := by first | (rw [hji13] at H; exact H) | (simp only [hji13] at H ⊢; exact H)
         (try rw [hji13] at A8)
         (try rw [hji13] at A10)
         have hji13w : (IntKind.i64.wrap (x5_1 - 1)) = ji13 := (i64_w _).trans hji13
         by_cases c14 : 0 ≤ (ji13)
         ·rw [if_pos c14] at H
          have c14b0 : decide (0 ≤ (ji13)) = true := decide_eq_true c14
          clear c14
          by_cases c15 : (ji13) < (l1.length : Int)
          ·rw [if_pos c15] at H
           have c15b0 : decide ((ji13) < (l1.length : Int)) = true := decide_eq_true c15
           clear c15
           by_cases c16 : ((rd_T35 l1 x5_1).f0) ≤ ((rd_T35 l1 (ji13)).f0)
           ·rw [if_pos c16] at H
            have c16b0 : decide (((rd_T35 l1 x5_1).f0) ≤ ((rd_T35 l1 (ji13)).f0)) = true := decide_eq_true c16
            clear c16
            have H' := Aside0.mk H
            clear H
            try go_wp2
            have n0_ : Aside0 (((w6.setCell ⟨gb129, 0, none⟩ (.int .i64 ((rd_T35 l1 x5_1).f0))).setCell ⟨gb129, 1, none⟩ (.int .i64 ((rd_T35 l1 x5_1).f1))).heap[gb129]? = some (.cells #[.int .i64 ((rd_T35 l1 x5_1).f0), .int .i64 ((rd_T35 l1 x5_1).f1)] 35 (0, 0))) := ⟨bq⟩
            have n1_ : Aside0 (Below w.heap.size w ((w6.setCell ⟨gb129, 0, none⟩ (.int .i64 ((rd_T35 l1 x5_1).f0))).setCell ⟨gb129, 1, none⟩ (.int .i64 ((rd_T35 l1 x5_1).f1)))) := ⟨bl⟩
            (try clear BK129)
            (try clear HB)
            generalize ((w6.setCell ⟨gb129, 0, none⟩ (.int .i64 ((rd_T35 l1 x5_1).f0))).setCell ⟨gb129, 1, none⟩ (.int .i64 ((rd_T35 l1 x5_1).f1))) = w17 at n0_ n1_ ⊢
            have BK129 := n0_
            have HB := n1_
            clear n0_ n1_
            replace BK129 := wd BK129
            replace HB := mk (below_drew1 HB.out)
            have p132 : 0 ≤ ((ji13) : Int) := dt
            have q132 : (ji13) < (l1.length : Int) := dt
            obtain ⟨ad132, e132, hx132_0, hx132_1⟩ := at_T35 HR1.out (ji13) p132 q132
            have hw132_1 := hx132_1
            have hw132_0 := hx132_0
            obtain rfl : ad128 = ad132 := (by injection e132)
            replace hx132_0 := (HB.out.cell (World.block_lt_of_cell? w _ hx132_0)).trans hx132_0
            replace hx132_1 := (HB.out.cell (World.block_lt_of_cell? w _ hx132_1)).trans hx132_1
            replace p132 := eq_true p132
            replace q132 := eq_true q132
            refine start_ (n := 38) (S := fun w' => w'.cell? ⟨gb129, 0, none⟩ = some (.int .i64 ((rd_T35 l1 x5_1).f0)) ∧ w'.cell? ⟨gb129, 1, none⟩ = some (.int .i64 ((rd_T35 l1 x5_1).f1)) ∧ w'.cell? (ad128.add (((ji13)).toNat * 2)) = some (.int .i64 ((rd_T35 l1 (ji13)).f0)) ∧ w'.cell? ⟨(ad128.add (((ji13)).toNat * 2)).block, (ad128.add (((ji13)).toNat * 2)).off + 1, none⟩ = some (.int .i64 ((rd_T35 l1 (ji13)).f1))) (ds := []) #[F_, F_, F_, F_, F_, F_, F_, F_, F_, F_, F_, F_, F_, F_, F_, F_, F_, F_, F_, F_, F_, F_, F_, F_, F_, F_, F_, F_, F_, F_, F_, F_, F_, F_, F_, F_, F_, F_] (by kernel_rfl) rfl rfl ⟨bc BK129 0, bc BK129 1, ((HB.out.cell (World.block_lt_of_cell? w _ hw132_0)).trans hw132_0), ((HB.out.cell (World.block_lt_of_cell? w _ hw132_1)).trans hw132_1)⟩ (fun hHeld => ?_); refine with_tabW spec_l4Pivots.tab5 spec_l4Pivots.bits5 (fun HT_ HW_ => ?_)
            generalize w17.drew = w18 at BK129 HB hx132_0 hx132_1 hHeld ⊢
            refine pu 0 18 (tf 1 37) ?_
            refine tk 1 19 (tf 2 36) hHeld ?_
            refine on 2 20 (tf 3 35) (fun K hK => ?_)
            refine gs Try.func28 #[.int .i64 ((rd_T35 l1 x5_1).f0), .int .i64 (-1000), .int .i64 1000] ?_
            with_reducible refine (spec_l1In.calls ((rd_T35 l1 x5_1).f0) (-1000) 1000 true _ A8.out).mono ?_
            rintro e w' ⟨rfl, ⟨nd, rfl⟩⟩
            refine ⟨_, rfl, ?_⟩
            refine hK.out _ _ ⟨bc BK129 0, bc BK129 1, ((HB.out.cell (World.block_lt_of_cell? w _ hw132_0)).trans hw132_0), ((HB.out.cell (World.block_lt_of_cell? w _ hw132_1)).trans hw132_1)⟩ (fun hHeld => ?_)
            clear hK K
            refine nm 20 ?_
            refine pu 3 21 (tf 4 34) ?_
            refine pu 4 22 (tf 5 33) ?_
            refine pu 5 23 (tf 6 32) ?_
            refine pu 7 25 #[T_,T_,T_,T_,T_,T_,F_,T_,F_,F_,F_,F_,F_,F_,F_,F_,F_,F_,F_,F_,F_,F_,F_,F_,F_,F_,F_,F_,F_,F_,F_,F_,F_,F_,F_,F_,F_,F_] ?_
            refine pu 8 26 #[T_,T_,T_,T_,T_,T_,F_,T_,T_,F_,F_,F_,F_,F_,F_,F_,F_,F_,F_,F_,F_,F_,F_,F_,F_,F_,F_,F_,F_,F_,F_,F_,F_,F_,F_,F_,F_,F_] ?_
            refine tk 6 24 (tf 9 29) hHeld ?_
            refine on 9 27 (tf 10 28) (fun K hK => ?_)
            refine gs Try.func28 #[.int .i64 ((rd_T35 l1 x5_1).f1), .int .i64 0, .int .i64 (l0.length : Int)] ?_
            with_reducible refine (spec_l1In.calls ((rd_T35 l1 x5_1).f1) 0 (l0.length : Int) true _ A10.out).mono ?_
            rintro e w' ⟨rfl, ⟨nd, rfl⟩⟩
            refine ⟨_, rfl, ?_⟩
            refine hK.out _ _ ⟨bc BK129 0, bc BK129 1, ((HB.out.cell (World.block_lt_of_cell? w _ hw132_0)).trans hw132_0), ((HB.out.cell (World.block_lt_of_cell? w _ hw132_1)).trans hw132_1)⟩ (fun hHeld => ?_)
            clear hK K
            refine nm 27 ?_
            refine pu 10 28 (tf 11 27) ?_
            refine pu 11 29 (tf 12 26) ?_
            refine pu 12 30 (tf 13 25) ?_
            refine pu 13 31 (tf 14 24) ?_
            refine pu 14 32 (tf 15 23) ?_
            refine pu 15 33 (tf 16 22) ?_
            refine pu 16 34 (tf 17 21) ?_
            refine pu 18 36 #[T_,T_,T_,T_,T_,T_,T_,T_,T_,T_,T_,T_,T_,T_,T_,T_,T_,F_,T_,F_,F_,F_,F_,F_,F_,F_,F_,F_,F_,F_,F_,F_,F_,F_,F_,F_,F_,F_] ?_
            refine pu 19 37 #[T_,T_,T_,T_,T_,T_,T_,T_,T_,T_,T_,T_,T_,T_,T_,T_,T_,F_,T_,T_,F_,F_,F_,F_,F_,F_,F_,F_,F_,F_,F_,F_,F_,F_,F_,F_,F_,F_] ?_
            refine pu 20 38 #[T_,T_,T_,T_,T_,T_,T_,T_,T_,T_,T_,T_,T_,T_,T_,T_,T_,F_,T_,T_,T_,F_,F_,F_,F_,F_,F_,F_,F_,F_,F_,F_,F_,F_,F_,F_,F_,F_] ?_
            refine pu 21 39 #[T_,T_,T_,T_,T_,T_,T_,T_,T_,T_,T_,T_,T_,T_,T_,T_,T_,F_,T_,T_,T_,T_,F_,F_,F_,F_,F_,F_,F_,F_,F_,F_,F_,F_,F_,F_,F_,F_] ?_
            refine pu 22 40 #[T_,T_,T_,T_,T_,T_,T_,T_,T_,T_,T_,T_,T_,T_,T_,T_,T_,F_,T_,T_,T_,T_,T_,F_,F_,F_,F_,F_,F_,F_,F_,F_,F_,F_,F_,F_,F_,F_] ?_
            refine tk 17 35 (tf 23 15) hHeld ?_
            refine tk 23 41 (tf 24 14) hHeld ?_
            refine pu 24 42 (tf 25 13) ?_
            refine pu 25 43 (tf 26 12) ?_
            refine pn 26 44 (tf 27 11) ?_
            refine pn 27 45 (tf 28 10) ?_
            refine pn 28 46 (tf 29 9) ?_
            refine pn 29 47 (tf 30 8) ?_
            refine pn 30 48 (tf 31 7) ?_
            refine pn 31 49 (tf 32 6) ?_
            refine pn 32 50 (tf 33 5) ?_
            refine pn 33 51 (tf 34 4) ?_
            refine pn 34 52 (tf 35 3) ?_
            refine pu 35 53 (tf 36 2) ?_
            refine pu 36 54 (tf 37 1) ?_
            refine pu 37 55 (tf 38 0) ?_
            refine done_ (done_of HT_.out (by kernel_rfl)) ?_
            try go_wp2
            go_meet
            case rel => exact ⟨_, (true), (by first | rfl | (simp; done) | (simp [*]; done)), H', ⟨by have := HK1.out; first | omega | exact Nat.le_refl _⟩, ⟨ub BK129.out⟩, ⟨bl⟩⟩
           ·rw [if_neg c16] at H
            have c16b0 : decide (((rd_T35 l1 x5_1).f0) ≤ ((rd_T35 l1 (ji13)).f0)) = false := decide_eq_false c16
            clear c16
            have H' := Aside0.mk H
            clear H
            try go_wp2
            have n0_ : Aside0 (((w6.setCell ⟨gb129, 0, none⟩ (.int .i64 ((rd_T35 l1 x5_1).f0))).setCell ⟨gb129, 1, none⟩ (.int .i64 ((rd_T35 l1 x5_1).f1))).heap[gb129]? = some (.cells #[.int .i64 ((rd_T35 l1 x5_1).f0), .int .i64 ((rd_T35 l1 x5_1).f1)] 35 (0, 0))) := ⟨bq⟩
            have n1_ : Aside0 (Below w.heap.size w ((w6.setCell ⟨gb129, 0, none⟩ (.int .i64 ((rd_T35 l1 x5_1).f0))).setCell ⟨gb129, 1, none⟩ (.int .i64 ((rd_T35 l1 x5_1).f1)))) := ⟨bl⟩
            (try clear BK129)
            (try clear HB)
            generalize ((w6.setCell ⟨gb129, 0, none⟩ (.int .i64 ((rd_T35 l1 x5_1).f0))).setCell ⟨gb129, 1, none⟩ (.int .i64 ((rd_T35 l1 x5_1).f1))) = w19 at n0_ n1_ ⊢
            have BK129 := n0_
            have HB := n1_
            clear n0_ n1_
            replace BK129 := wd BK129
            replace HB := mk (below_drew1 HB.out)
            have p132 : 0 ≤ ((ji13) : Int) := dt
            have q132 : (ji13) < (l1.length : Int) := dt
            obtain ⟨ad132, e132, hx132_0, hx132_1⟩ := at_T35 HR1.out (ji13) p132 q132
            have hw132_1 := hx132_1
            have hw132_0 := hx132_0
            obtain rfl : ad128 = ad132 := (by injection e132)
            replace hx132_0 := (HB.out.cell (World.block_lt_of_cell? w _ hx132_0)).trans hx132_0
            replace hx132_1 := (HB.out.cell (World.block_lt_of_cell? w _ hx132_1)).trans hx132_1
            replace p132 := eq_true p132
            replace q132 := eq_true q132
            have p133 : 0 ≤ ((ji13) : Int) := dt
            have q133 : (ji13) < (l1.length : Int) := dt
            obtain ⟨ad133, e133, hx133_0, hx133_1⟩ := at_T35 HR1.out (ji13) p133 q133
            have hw133_1 := hx133_1
            have hw133_0 := hx133_0
            obtain rfl : ad128 = ad133 := (by injection e133)
            replace hx133_0 := (HB.out.cell (World.block_lt_of_cell? w _ hx133_0)).trans hx133_0
            replace hx133_1 := (HB.out.cell (World.block_lt_of_cell? w _ hx133_1)).trans hx133_1
            replace p133 := eq_true p133
            replace q133 := eq_true q133
            refine start_ (n := 38) (S := fun w' => w'.cell? ⟨gb129, 0, none⟩ = some (.int .i64 ((rd_T35 l1 x5_1).f0)) ∧ w'.cell? ⟨gb129, 1, none⟩ = some (.int .i64 ((rd_T35 l1 x5_1).f1)) ∧ w'.cell? (ad128.add (((ji13)).toNat * 2)) = some (.int .i64 ((rd_T35 l1 (ji13)).f0)) ∧ w'.cell? ⟨(ad128.add (((ji13)).toNat * 2)).block, (ad128.add (((ji13)).toNat * 2)).off + 1, none⟩ = some (.int .i64 ((rd_T35 l1 (ji13)).f1)) ∧ w'.cell? (ad128.add (((ji13)).toNat * 2)) = some (.int .i64 ((rd_T35 l1 (ji13)).f0)) ∧ w'.cell? ⟨(ad128.add (((ji13)).toNat * 2)).block, (ad128.add (((ji13)).toNat * 2)).off + 1, none⟩ = some (.int .i64 ((rd_T35 l1 (ji13)).f1))) (ds := []) #[F_, F_, F_, F_, F_, F_, F_, F_, F_, F_, F_, F_, F_, F_, F_, F_, F_, F_, F_, F_, F_, F_, F_, F_, F_, F_, F_, F_, F_, F_, F_, F_, F_, F_, F_, F_, F_, F_] (by kernel_rfl) rfl rfl ⟨bc BK129 0, bc BK129 1, ((HB.out.cell (World.block_lt_of_cell? w _ hw132_0)).trans hw132_0), ((HB.out.cell (World.block_lt_of_cell? w _ hw132_1)).trans hw132_1), ((HB.out.cell (World.block_lt_of_cell? w _ hw133_0)).trans hw133_0), ((HB.out.cell (World.block_lt_of_cell? w _ hw133_1)).trans hw133_1)⟩ (fun hHeld => ?_); refine with_tabW spec_l4Pivots.tab5 spec_l4Pivots.bits5 (fun HT_ HW_ => ?_)
            generalize w19.drew = w20 at BK129 HB hx132_0 hx132_1 hx133_0 hx133_1 hHeld ⊢
            refine pu 0 18 (tf 1 37) ?_
            refine tk 1 19 (tf 2 36) hHeld ?_
            refine on 2 20 (tf 3 35) (fun K hK => ?_)
            refine gs Try.func28 #[.int .i64 ((rd_T35 l1 x5_1).f0), .int .i64 (-1000), .int .i64 1000] ?_
            with_reducible refine (spec_l1In.calls ((rd_T35 l1 x5_1).f0) (-1000) 1000 true _ A8.out).mono ?_
            rintro e w' ⟨rfl, ⟨nd, rfl⟩⟩
            refine ⟨_, rfl, ?_⟩
            refine hK.out _ _ ⟨bc BK129 0, bc BK129 1, ((HB.out.cell (World.block_lt_of_cell? w _ hw132_0)).trans hw132_0), ((HB.out.cell (World.block_lt_of_cell? w _ hw132_1)).trans hw132_1), ((HB.out.cell (World.block_lt_of_cell? w _ hw133_0)).trans hw133_0), ((HB.out.cell (World.block_lt_of_cell? w _ hw133_1)).trans hw133_1)⟩ (fun hHeld => ?_)
            clear hK K
            refine nm 20 ?_
            refine pu 3 21 (tf 4 34) ?_
            refine pu 4 22 (tf 5 33) ?_
            refine pu 5 23 (tf 6 32) ?_
            refine pu 7 25 #[T_,T_,T_,T_,T_,T_,F_,T_,F_,F_,F_,F_,F_,F_,F_,F_,F_,F_,F_,F_,F_,F_,F_,F_,F_,F_,F_,F_,F_,F_,F_,F_,F_,F_,F_,F_,F_,F_] ?_
            refine pu 8 26 #[T_,T_,T_,T_,T_,T_,F_,T_,T_,F_,F_,F_,F_,F_,F_,F_,F_,F_,F_,F_,F_,F_,F_,F_,F_,F_,F_,F_,F_,F_,F_,F_,F_,F_,F_,F_,F_,F_] ?_
            refine tk 6 24 (tf 9 29) hHeld ?_
            refine on 9 27 (tf 10 28) (fun K hK => ?_)
            refine gs Try.func28 #[.int .i64 ((rd_T35 l1 x5_1).f1), .int .i64 0, .int .i64 (l0.length : Int)] ?_
            with_reducible refine (spec_l1In.calls ((rd_T35 l1 x5_1).f1) 0 (l0.length : Int) true _ A10.out).mono ?_
            rintro e w' ⟨rfl, ⟨nd, rfl⟩⟩
            refine ⟨_, rfl, ?_⟩
            refine hK.out _ _ ⟨bc BK129 0, bc BK129 1, ((HB.out.cell (World.block_lt_of_cell? w _ hw132_0)).trans hw132_0), ((HB.out.cell (World.block_lt_of_cell? w _ hw132_1)).trans hw132_1), ((HB.out.cell (World.block_lt_of_cell? w _ hw133_0)).trans hw133_0), ((HB.out.cell (World.block_lt_of_cell? w _ hw133_1)).trans hw133_1)⟩ (fun hHeld => ?_)
            clear hK K
            refine nm 27 ?_
            refine pu 10 28 (tf 11 27) ?_
            refine pu 11 29 (tf 12 26) ?_
            refine pu 12 30 (tf 13 25) ?_
            refine pu 13 31 (tf 14 24) ?_
            refine pu 14 32 (tf 15 23) ?_
            refine pu 15 33 (tf 16 22) ?_
            refine pu 16 34 (tf 17 21) ?_
            refine pu 18 36 #[T_,T_,T_,T_,T_,T_,T_,T_,T_,T_,T_,T_,T_,T_,T_,T_,T_,F_,T_,F_,F_,F_,F_,F_,F_,F_,F_,F_,F_,F_,F_,F_,F_,F_,F_,F_,F_,F_] ?_
            refine pu 19 37 #[T_,T_,T_,T_,T_,T_,T_,T_,T_,T_,T_,T_,T_,T_,T_,T_,T_,F_,T_,T_,F_,F_,F_,F_,F_,F_,F_,F_,F_,F_,F_,F_,F_,F_,F_,F_,F_,F_] ?_
            refine pu 20 38 #[T_,T_,T_,T_,T_,T_,T_,T_,T_,T_,T_,T_,T_,T_,T_,T_,T_,F_,T_,T_,T_,F_,F_,F_,F_,F_,F_,F_,F_,F_,F_,F_,F_,F_,F_,F_,F_,F_] ?_
            refine pu 21 39 #[T_,T_,T_,T_,T_,T_,T_,T_,T_,T_,T_,T_,T_,T_,T_,T_,T_,F_,T_,T_,T_,T_,F_,F_,F_,F_,F_,F_,F_,F_,F_,F_,F_,F_,F_,F_,F_,F_] ?_
            refine pu 22 40 #[T_,T_,T_,T_,T_,T_,T_,T_,T_,T_,T_,T_,T_,T_,T_,T_,T_,F_,T_,T_,T_,T_,T_,F_,F_,F_,F_,F_,F_,F_,F_,F_,F_,F_,F_,F_,F_,F_] ?_
            refine tk 17 35 (tf 23 15) hHeld ?_
            refine tk 23 41 (tf 24 14) hHeld ?_
            refine pu 24 42 (tf 25 13) ?_
            refine pu 25 43 (tf 26 12) ?_
            refine pu 26 44 (tf 27 11) ?_
            refine pu 28 46 #[T_,T_,T_,T_,T_,T_,T_,T_,T_,T_,T_,T_,T_,T_,T_,T_,T_,T_,T_,T_,T_,T_,T_,T_,T_,T_,T_,F_,T_,F_,F_,F_,F_,F_,F_,F_,F_,F_] ?_
            refine pu 29 47 #[T_,T_,T_,T_,T_,T_,T_,T_,T_,T_,T_,T_,T_,T_,T_,T_,T_,T_,T_,T_,T_,T_,T_,T_,T_,T_,T_,F_,T_,T_,F_,F_,F_,F_,F_,F_,F_,F_] ?_
            refine pu 30 48 #[T_,T_,T_,T_,T_,T_,T_,T_,T_,T_,T_,T_,T_,T_,T_,T_,T_,T_,T_,T_,T_,T_,T_,T_,T_,T_,T_,F_,T_,T_,T_,F_,F_,F_,F_,F_,F_,F_] ?_
            refine pu 31 49 #[T_,T_,T_,T_,T_,T_,T_,T_,T_,T_,T_,T_,T_,T_,T_,T_,T_,T_,T_,T_,T_,T_,T_,T_,T_,T_,T_,F_,T_,T_,T_,T_,F_,F_,F_,F_,F_,F_] ?_
            refine pu 32 50 #[T_,T_,T_,T_,T_,T_,T_,T_,T_,T_,T_,T_,T_,T_,T_,T_,T_,T_,T_,T_,T_,T_,T_,T_,T_,T_,T_,F_,T_,T_,T_,T_,T_,F_,F_,F_,F_,F_] ?_
            refine tk 27 45 (tf 33 5) hHeld ?_
            refine tk 33 51 (tf 34 4) hHeld ?_
            refine pu 34 52 (tf 35 3) ?_
            refine pu 35 53 (tf 36 2) ?_
            refine pu 36 54 (tf 37 1) ?_
            refine pu 37 55 (tf 38 0) ?_
            refine done_ (done_of HT_.out (by kernel_rfl)) ?_
            try go_wp2
            go_meet
            case rel => exact ⟨_, (decide (((rd_T35 l1 x5_1).f1) < ((rd_T35 l1 (ji13)).f1))), (by first | rfl | (simp; done) | (simp only [← hji13] <;> (first | rfl | simp)) | (simp [*]; done)), H', ⟨by have := HK1.out; first | omega | exact Nat.le_refl _⟩, ⟨ub BK129.out⟩, ⟨bl⟩⟩
          ·rw [if_neg c15] at H
           exact absurd H (by simp)
         ·rw [if_neg c14] at H
          exact absurd H (by simp)
        ·rw [if_neg c12] at H
         have c12b0 : decide (0 < x5_1) = false := decide_eq_false c12
         clear c12
         (first | rw [c12b0] | (simp only [i64_w, i32_w]; rw [c12b0]) | skip)
         have H' := Aside0.mk H
         clear H
         try go_wp2
         have n0_ : Aside0 (((w6.setCell ⟨gb129, 0, none⟩ (.int .i64 ((rd_T35 l1 x5_1).f0))).setCell ⟨gb129, 1, none⟩ (.int .i64 ((rd_T35 l1 x5_1).f1))).heap[gb129]? = some (.cells #[.int .i64 ((rd_T35 l1 x5_1).f0), .int .i64 ((rd_T35 l1 x5_1).f1)] 35 (0, 0))) := ⟨bq⟩
         have n1_ : Aside0 (Below w.heap.size w ((w6.setCell ⟨gb129, 0, none⟩ (.int .i64 ((rd_T35 l1 x5_1).f0))).setCell ⟨gb129, 1, none⟩ (.int .i64 ((rd_T35 l1 x5_1).f1)))) := ⟨bl⟩
         (try clear BK129)
         (try clear HB)
         generalize ((w6.setCell ⟨gb129, 0, none⟩ (.int .i64 ((rd_T35 l1 x5_1).f0))).setCell ⟨gb129, 1, none⟩ (.int .i64 ((rd_T35 l1 x5_1).f1))) = w21 at n0_ n1_ ⊢
         have BK129 := n0_
         have HB := n1_
         clear n0_ n1_
         replace BK129 := wd BK129
         replace HB := mk (below_drew1 HB.out)
         refine start_ (n := 38) (S := fun w' => w'.cell? ⟨gb129, 0, none⟩ = some (.int .i64 ((rd_T35 l1 x5_1).f0)) ∧ w'.cell? ⟨gb129, 1, none⟩ = some (.int .i64 ((rd_T35 l1 x5_1).f1))) (ds := []) #[F_, F_, F_, F_, F_, F_, F_, F_, F_, F_, F_, F_, F_, F_, F_, F_, F_, F_, F_, F_, F_, F_, F_, F_, F_, F_, F_, F_, F_, F_, F_, F_, F_, F_, F_, F_, F_, F_] (by kernel_rfl) rfl rfl ⟨bc BK129 0, bc BK129 1⟩ (fun hHeld => ?_); refine with_tabW spec_l4Pivots.tab5 spec_l4Pivots.bits5 (fun HT_ HW_ => ?_)
         generalize w21.drew = w22 at BK129 HB hHeld ⊢
         refine pu 0 18 (tf 1 37) ?_
         refine tk 1 19 (tf 2 36) hHeld ?_
         refine on 2 20 (tf 3 35) (fun K hK => ?_)
         refine gs Try.func28 #[.int .i64 ((rd_T35 l1 x5_1).f0), .int .i64 (-1000), .int .i64 1000] ?_
         with_reducible refine (spec_l1In.calls ((rd_T35 l1 x5_1).f0) (-1000) 1000 true _ A8.out).mono ?_
         rintro e w' ⟨rfl, ⟨nd, rfl⟩⟩
         refine ⟨_, rfl, ?_⟩
         refine hK.out _ _ ⟨bc BK129 0, bc BK129 1⟩ (fun hHeld => ?_)
         clear hK K
         refine nm 20 ?_
         refine pu 3 21 (tf 4 34) ?_
         refine pu 4 22 (tf 5 33) ?_
         refine pu 5 23 (tf 6 32) ?_
         refine pu 7 25 #[T_,T_,T_,T_,T_,T_,F_,T_,F_,F_,F_,F_,F_,F_,F_,F_,F_,F_,F_,F_,F_,F_,F_,F_,F_,F_,F_,F_,F_,F_,F_,F_,F_,F_,F_,F_,F_,F_] ?_
         refine pu 8 26 #[T_,T_,T_,T_,T_,T_,F_,T_,T_,F_,F_,F_,F_,F_,F_,F_,F_,F_,F_,F_,F_,F_,F_,F_,F_,F_,F_,F_,F_,F_,F_,F_,F_,F_,F_,F_,F_,F_] ?_
         refine tk 6 24 (tf 9 29) hHeld ?_
         refine on 9 27 (tf 10 28) (fun K hK => ?_)
         refine gs Try.func28 #[.int .i64 ((rd_T35 l1 x5_1).f1), .int .i64 0, .int .i64 (l0.length : Int)] ?_
         with_reducible refine (spec_l1In.calls ((rd_T35 l1 x5_1).f1) 0 (l0.length : Int) true _ A10.out).mono ?_
         rintro e w' ⟨rfl, ⟨nd, rfl⟩⟩
         refine ⟨_, rfl, ?_⟩
         refine hK.out _ _ ⟨bc BK129 0, bc BK129 1⟩ (fun hHeld => ?_)
         clear hK K
         refine nm 27 ?_
         refine pu 10 28 (tf 11 27) ?_
         refine pu 11 29 (tf 12 26) ?_
         refine pu 12 30 (tf 13 25) ?_
         refine pu 13 31 (tf 14 24) ?_
         refine pu 14 32 (tf 15 23) ?_
         refine pu 15 33 (tf 16 22) ?_
         refine pn 16 34 (tf 17 21) ?_
         refine pn 17 35 (tf 18 20) ?_
         refine pn 18 36 (tf 19 19) ?_
         refine pn 19 37 (tf 20 18) ?_
         refine pn 20 38 (tf 21 17) ?_
         refine pn 21 39 (tf 22 16) ?_
         refine pn 22 40 (tf 23 15) ?_
         refine pn 23 41 (tf 24 14) ?_
         refine pn 24 42 (tf 25 13) ?_
         refine pn 25 43 (tf 26 12) ?_
         refine pn 26 44 (tf 27 11) ?_
         refine pn 27 45 (tf 28 10) ?_
         refine pn 28 46 (tf 29 9) ?_
         refine pn 29 47 (tf 30 8) ?_
         refine pn 30 48 (tf 31 7) ?_
         refine pn 31 49 (tf 32 6) ?_
         refine pn 32 50 (tf 33 5) ?_
         refine pn 33 51 (tf 34 4) ?_
         refine pn 34 52 (tf 35 3) ?_
         refine pn 35 53 (tf 36 2) ?_
         refine pu 36 54 (tf 37 1) ?_
         refine pu 37 55 (tf 38 0) ?_
         refine done_ (done_of HT_.out (by kernel_rfl)) ?_
         try go_wp2
         go_meet
         case rel => exact ⟨_, (false), (by first | rfl | (simp; done) | (simp [*]; done)), H', ⟨by have := HK1.out; first | omega | exact Nat.le_refl _⟩, ⟨ub BK129.out⟩, ⟨bl⟩⟩
       ·replace c11 := Bool.eq_false_iff.mpr c11
        subst c11
        rw [if_neg nf] at H
        have H' := Aside0.mk H
        clear H
        try go_wp2
        have n0_ : Aside0 (((w6.setCell ⟨gb129, 0, none⟩ (.int .i64 ((rd_T35 l1 x5_1).f0))).setCell ⟨gb129, 1, none⟩ (.int .i64 ((rd_T35 l1 x5_1).f1))).heap[gb129]? = some (.cells #[.int .i64 ((rd_T35 l1 x5_1).f0), .int .i64 ((rd_T35 l1 x5_1).f1)] 35 (0, 0))) := ⟨bq⟩
        have n1_ : Aside0 (Below w.heap.size w ((w6.setCell ⟨gb129, 0, none⟩ (.int .i64 ((rd_T35 l1 x5_1).f0))).setCell ⟨gb129, 1, none⟩ (.int .i64 ((rd_T35 l1 x5_1).f1)))) := ⟨bl⟩
        (try clear BK129)
        (try clear HB)
        generalize ((w6.setCell ⟨gb129, 0, none⟩ (.int .i64 ((rd_T35 l1 x5_1).f0))).setCell ⟨gb129, 1, none⟩ (.int .i64 ((rd_T35 l1 x5_1).f1))) = w23 at n0_ n1_ ⊢
        have BK129 := n0_
        have HB := n1_
        clear n0_ n1_
        replace BK129 := wd BK129
        replace HB := mk (below_drew1 HB.out)
        refine start_ (n := 38) (S := fun w' => w'.cell? ⟨gb129, 0, none⟩ = some (.int .i64 ((rd_T35 l1 x5_1).f0)) ∧ w'.cell? ⟨gb129, 1, none⟩ = some (.int .i64 ((rd_T35 l1 x5_1).f1))) (ds := []) #[F_, F_, F_, F_, F_, F_, F_, F_, F_, F_, F_, F_, F_, F_, F_, F_, F_, F_, F_, F_, F_, F_, F_, F_, F_, F_, F_, F_, F_, F_, F_, F_, F_, F_, F_, F_, F_, F_] (by kernel_rfl) rfl rfl ⟨bc BK129 0, bc BK129 1⟩ (fun hHeld => ?_); refine with_tabW spec_l4Pivots.tab5 spec_l4Pivots.bits5 (fun HT_ HW_ => ?_)
        generalize w23.drew = w24 at BK129 HB hHeld ⊢
        refine pu 0 18 (tf 1 37) ?_
        refine tk 1 19 (tf 2 36) hHeld ?_
        refine on 2 20 (tf 3 35) (fun K hK => ?_)
        refine gs Try.func28 #[.int .i64 ((rd_T35 l1 x5_1).f0), .int .i64 (-1000), .int .i64 1000] ?_
        with_reducible refine (spec_l1In.calls ((rd_T35 l1 x5_1).f0) (-1000) 1000 true _ A8.out).mono ?_
        rintro e w' ⟨rfl, ⟨nd, rfl⟩⟩
        refine ⟨_, rfl, ?_⟩
        refine hK.out _ _ ⟨bc BK129 0, bc BK129 1⟩ (fun hHeld => ?_)
        clear hK K
        refine nm 20 ?_
        refine pu 3 21 (tf 4 34) ?_
        refine pu 4 22 (tf 5 33) ?_
        refine pu 5 23 (tf 6 32) ?_
        refine pu 7 25 #[T_,T_,T_,T_,T_,T_,F_,T_,F_,F_,F_,F_,F_,F_,F_,F_,F_,F_,F_,F_,F_,F_,F_,F_,F_,F_,F_,F_,F_,F_,F_,F_,F_,F_,F_,F_,F_,F_] ?_
        refine pu 8 26 #[T_,T_,T_,T_,T_,T_,F_,T_,T_,F_,F_,F_,F_,F_,F_,F_,F_,F_,F_,F_,F_,F_,F_,F_,F_,F_,F_,F_,F_,F_,F_,F_,F_,F_,F_,F_,F_,F_] ?_
        refine tk 6 24 (tf 9 29) hHeld ?_
        refine on 9 27 (tf 10 28) (fun K hK => ?_)
        refine gs Try.func28 #[.int .i64 ((rd_T35 l1 x5_1).f1), .int .i64 0, .int .i64 (l0.length : Int)] ?_
        with_reducible refine (spec_l1In.calls ((rd_T35 l1 x5_1).f1) 0 (l0.length : Int) false _ A10.out).mono ?_
        rintro e w' ⟨rfl, ⟨nd, rfl⟩⟩
        refine ⟨_, rfl, ?_⟩
        refine hK.out _ _ ⟨bc BK129 0, bc BK129 1⟩ (fun hHeld => ?_)
        clear hK K
        refine nm 27 ?_
        refine pu 10 28 (tf 11 27) ?_
        refine pu 11 29 (tf 12 26) ?_
        refine pu 12 30 (tf 13 25) ?_
        refine pn 13 31 (tf 14 24) ?_
        refine pn 14 32 (tf 15 23) ?_
        refine pn 15 33 (tf 16 22) ?_
        refine pn 16 34 (tf 17 21) ?_
        refine pn 17 35 (tf 18 20) ?_
        refine pn 18 36 (tf 19 19) ?_
        refine pn 19 37 (tf 20 18) ?_
        refine pn 20 38 (tf 21 17) ?_
        refine pn 21 39 (tf 22 16) ?_
        refine pn 22 40 (tf 23 15) ?_
        refine pn 23 41 (tf 24 14) ?_
        refine pn 24 42 (tf 25 13) ?_
        refine pn 25 43 (tf 26 12) ?_
        refine pn 26 44 (tf 27 11) ?_
        refine pn 27 45 (tf 28 10) ?_
        refine pn 28 46 (tf 29 9) ?_
        refine pn 29 47 (tf 30 8) ?_
        refine pn 30 48 (tf 31 7) ?_
        refine pn 31 49 (tf 32 6) ?_
        refine pn 32 50 (tf 33 5) ?_
        refine pn 33 51 (tf 34 4) ?_
        refine pn 34 52 (tf 35 3) ?_
        refine pn 35 53 (tf 36 2) ?_
        refine pn 36 54 (tf 37 1) ?_
        refine pu 37 55 (tf 38 0) ?_
        refine done_ (done_of HT_.out (by kernel_rfl)) ?_
        try go_wp2
        go_meet
        case rel => exact ⟨_, (true), (by first | rfl | (simp; done) | (simp [*]; done)), H', ⟨by have := HK1.out; first | omega | exact Nat.le_refl _⟩, ⟨ub BK129.out⟩, ⟨bl⟩⟩
      ·replace c9 := Bool.eq_false_iff.mpr c9
       subst c9
       rw [if_neg nf] at H
       have H' := Aside0.mk H
       clear H
       try go_wp2
       have n0_ : Aside0 (((w6.setCell ⟨gb129, 0, none⟩ (.int .i64 ((rd_T35 l1 x5_1).f0))).setCell ⟨gb129, 1, none⟩ (.int .i64 ((rd_T35 l1 x5_1).f1))).heap[gb129]? = some (.cells #[.int .i64 ((rd_T35 l1 x5_1).f0), .int .i64 ((rd_T35 l1 x5_1).f1)] 35 (0, 0))) := ⟨bq⟩
       have n1_ : Aside0 (Below w.heap.size w ((w6.setCell ⟨gb129, 0, none⟩ (.int .i64 ((rd_T35 l1 x5_1).f0))).setCell ⟨gb129, 1, none⟩ (.int .i64 ((rd_T35 l1 x5_1).f1)))) := ⟨bl⟩
       (try clear BK129)
       (try clear HB)
       generalize ((w6.setCell ⟨gb129, 0, none⟩ (.int .i64 ((rd_T35 l1 x5_1).f0))).setCell ⟨gb129, 1, none⟩ (.int .i64 ((rd_T35 l1 x5_1).f1))) = w25 at n0_ n1_ ⊢
       have BK129 := n0_
       have HB := n1_
       clear n0_ n1_
       replace BK129 := wd BK129
       replace HB := mk (below_drew1 HB.out)
       refine start_ (n := 38) (S := fun w' => w'.cell? ⟨gb129, 0, none⟩ = some (.int .i64 ((rd_T35 l1 x5_1).f0)) ∧ w'.cell? ⟨gb129, 1, none⟩ = some (.int .i64 ((rd_T35 l1 x5_1).f1))) (ds := []) #[F_, F_, F_, F_, F_, F_, F_, F_, F_, F_, F_, F_, F_, F_, F_, F_, F_, F_, F_, F_, F_, F_, F_, F_, F_, F_, F_, F_, F_, F_, F_, F_, F_, F_, F_, F_, F_, F_] (by kernel_rfl) rfl rfl ⟨bc BK129 0, bc BK129 1⟩ (fun hHeld => ?_); refine with_tabW spec_l4Pivots.tab5 spec_l4Pivots.bits5 (fun HT_ HW_ => ?_)
       generalize w25.drew = w26 at BK129 HB hHeld ⊢
       refine pu 0 18 (tf 1 37) ?_
       refine tk 1 19 (tf 2 36) hHeld ?_
       refine on 2 20 (tf 3 35) (fun K hK => ?_)
       refine gs Try.func28 #[.int .i64 ((rd_T35 l1 x5_1).f0), .int .i64 (-1000), .int .i64 1000] ?_
       with_reducible refine (spec_l1In.calls ((rd_T35 l1 x5_1).f0) (-1000) 1000 false _ A8.out).mono ?_
       rintro e w' ⟨rfl, ⟨nd, rfl⟩⟩
       refine ⟨_, rfl, ?_⟩
       refine hK.out _ _ ⟨bc BK129 0, bc BK129 1⟩ (fun hHeld => ?_)
       clear hK K
       refine nm 20 ?_
       refine pu 3 21 (tf 4 34) ?_
       refine pu 4 22 (tf 5 33) ?_
       refine pn 5 23 (tf 6 32) ?_
       refine pn 6 24 (tf 7 31) ?_
       refine pn 7 25 (tf 8 30) ?_
       refine pn 8 26 (tf 9 29) ?_
       refine pn 9 27 (tf 10 28) ?_
       refine pn 10 28 (tf 11 27) ?_
       refine pu 11 29 (tf 12 26) ?_
       refine pu 12 30 (tf 13 25) ?_
       refine pn 13 31 (tf 14 24) ?_
       refine pn 14 32 (tf 15 23) ?_
       refine pn 15 33 (tf 16 22) ?_
       refine pn 16 34 (tf 17 21) ?_
       refine pn 17 35 (tf 18 20) ?_
       refine pn 18 36 (tf 19 19) ?_
       refine pn 19 37 (tf 20 18) ?_
       refine pn 20 38 (tf 21 17) ?_
       refine pn 21 39 (tf 22 16) ?_
       refine pn 22 40 (tf 23 15) ?_
       refine pn 23 41 (tf 24 14) ?_
       refine pn 24 42 (tf 25 13) ?_
       refine pn 25 43 (tf 26 12) ?_
       refine pn 26 44 (tf 27 11) ?_
       refine pn 27 45 (tf 28 10) ?_
       refine pn 28 46 (tf 29 9) ?_
       refine pn 29 47 (tf 30 8) ?_
       refine pn 30 48 (tf 31 7) ?_
       refine pn 31 49 (tf 32 6) ?_
       refine pn 32 50 (tf 33 5) ?_
       refine pn 33 51 (tf 34 4) ?_
       refine pn 34 52 (tf 35 3) ?_
       refine pn 35 53 (tf 36 2) ?_
       refine pn 36 54 (tf 37 1) ?_
       refine pu 37 55 (tf 38 0) ?_
       refine done_ (done_of HT_.out (by kernel_rfl)) ?_
       try go_wp2
       go_meet
       case rel => exact ⟨_, (true), (by first | rfl | (simp; done) | (simp [*]; done)), H', ⟨by have := HK1.out; first | omega | exact Nat.le_refl _⟩, ⟨ub BK129.out⟩, ⟨bl⟩⟩
     case rest =>
      clear HC5
      try clear c1
      try clear c2
      try clear p2
      try clear c9
      try clear c11
      obtain ⟨kq, x55_4, rfl, HA, HJ4, BK129, HB⟩ := hcut
      cases kq with
      | zero => exact absurd HA.out (by simp [spec_l4Pivots.j1])
      | succ kj4 =>
       have H := HA.out
       clear HA
       simp only [spec_l4Pivots.j1] at H
       by_cases c27 : x55_4 = true
       ·subst c27
        rw [if_pos rfl] at H
        obtain rfl := Option.some.inj H
        go_wp2
        go_ret
        exact ⟨by first | rfl | (simp [errW_none, errW_some] <;> rfl) | (simp [*, errW_none, errW_some] <;> rfl), bl⟩
       ·replace c27 := Bool.eq_false_iff.mpr c27
        subst c27
        rw [if_neg nf] at H
        have H' := Aside0.mk H
        clear H
        go_wp2
        go_loopg [7] kj4 (fun kq v7 w' => ∃ (x7_3 : Int), v7 = .int .i64 x7_3 ∧ Aside0 (spec_l4Pivots.l1 kq l0 l1 x5_1 x7_3 ((rd_T35 l1 x5_1).f0) ((rd_T35 l1 x5_1).f1) = some r) ∧ Aside0 (kq ≤ kj4) ∧ Aside0 (w'.heap[gb129]? = some (.cells #[.int .i64 ((rd_T35 l1 x5_1).f0), .int .i64 ((rd_T35 l1 x5_1).f1)] 35 (0, 0))) ∧ Aside0 (Below w.heap.size w w'))
        case atStart => exact ⟨(0), (by first | rfl | (simp; done) | (simp [*]; done)), H', ⟨Nat.le_refl _⟩, ⟨ub BK129.out⟩, ⟨bl⟩⟩
        case round =>
         clear H'
         try clear c1
         try clear c2
         try clear p2
         try clear c9
         try clear c11
         try clear c27
         try clear p2
         obtain ⟨x7_3, rfl, HA, HK3, BK129, HB⟩ := hrel
         cases gk with
         | zero => exact absurd HA.out (by simp [spec_l4Pivots.l1])
         | succ k3 =>
          have H := HA.out
          clear HA
          simp only [spec_l4Pivots.l1] at H
          by_cases c28 : x7_3 < (l0.length : Int)
          ·rw [if_pos c28] at H
           have c28b0 : decide (x7_3 < (l0.length : Int)) = true := decide_eq_true c28
           clear c28
           by_cases c29 : 0 ≤ x7_3
           ·rw [if_pos c29] at H
            have c29b0 : decide (0 ≤ x7_3) = true := decide_eq_true c29
            clear c29
            by_cases c30 : ((decide ((rd l0 x7_3) < ((rd_T35 l1 x5_1).f0))) != (decide (x7_3 < ((rd_T35 l1 x5_1).f1)))) = true
            ·rw [if_pos c30] at H
             have c30b0 : ((decide ((rd l0 x7_3) < ((rd_T35 l1 x5_1).f0))) != (decide (x7_3 < ((rd_T35 l1 x5_1).f1)))) = true := c30
             (try (have c30b1 : decide ((decide ((rd l0 x7_3) < ((rd_T35 l1 x5_1).f0))) = (decide (x7_3 < ((rd_T35 l1 x5_1).f1)))) = false := by simpa using c30))
             (try (have c30b2 : ((decide ((rd l0 x7_3) < ((rd_T35 l1 x5_1).f0))) == (decide (x7_3 < ((rd_T35 l1 x5_1).f1)))) = false := by simpa using c30))
             (try (have c30b3 : ¬ ((decide ((rd l0 x7_3) < ((rd_T35 l1 x5_1).f0))) = (decide (x7_3 < ((rd_T35 l1 x5_1).f1)))) := by simpa using c30))
             clear c30
             obtain rfl := Option.some.inj H
             try go_wp2
             replace BK129 := wd BK129
             replace HB := mk (below_drew1 HB.out)
             have p134 : 0 ≤ (x7_3 : Int) := dt
             have q134 : x7_3 < (l0.length : Int) := dt
             obtain ⟨ad134, e134, hx134_0⟩ := Kd.at_int HR0.out x7_3 p134 q134
             have hw134_0 := hx134_0
             cases e134
             replace hx134_0 := (HB.out.cell (World.block_lt_of_cell? w _ hx134_0)).trans hx134_0
             replace p134 := eq_true p134
             replace q134 := eq_true q134
             refine start_ (n := 12) (S := fun w' => w'.cell? ⟨gb129, 0, none⟩ = some (.int .i64 ((rd_T35 l1 x5_1).f0)) ∧ w'.cell? ⟨gb129, 1, none⟩ = some (.int .i64 ((rd_T35 l1 x5_1).f1)) ∧ w'.cell? (ad134.add (x7_3).toNat) = some (.int .i64 (rd l0 x7_3))) (ds := []) #[F_, F_, F_, F_, F_, F_, F_, F_, F_, F_, F_, F_] (by kernel_rfl) rfl rfl ⟨bc BK129 0, bc BK129 1, ((HB.out.cell (World.block_lt_of_cell? w _ hw134_0)).trans hw134_0)⟩ (fun hHeld => ?_); refine with_tabW spec_l4Pivots.tab10 spec_l4Pivots.bits10 (fun HT_ HW_ => ?_)
             generalize wr.drew = w31 at BK129 HB hx134_0 hHeld ⊢
             refine pu 0 62 (tf 1 11) ?_
             refine pu 1 63 (tf 2 10) ?_
             refine pu 2 64 (tf 3 9) ?_
             refine pu 4 66 #[T_,T_,T_,F_,T_,F_,F_,F_,F_,F_,F_,F_] ?_
             refine pu 7 69 #[T_,T_,T_,F_,T_,F_,F_,T_,F_,F_,F_,F_] ?_
             refine pu 8 70 #[T_,T_,T_,F_,T_,F_,F_,T_,T_,F_,F_,F_] ?_
             refine tk 3 65 #[T_,T_,T_,T_,T_,F_,F_,T_,T_,F_,F_,F_] hHeld ?_
             refine tk 5 67 #[T_,T_,T_,T_,T_,T_,F_,T_,T_,F_,F_,F_] hHeld ?_
             refine pu 6 68 (tf 9 3) ?_
             refine tk 9 71 (tf 10 2) hHeld ?_
             refine pu 10 72 (tf 11 1) ?_
             refine pu 11 73 (tf 12 0) ?_
             refine done_ (done_of HT_.out (by kernel_rfl)) ?_
             try go_wp2
             go_ret
             exact ⟨by first | rfl | (simp [errW_none, errW_some] <;> rfl) | (simp [*, errW_none, errW_some] <;> rfl), bl⟩
            ·rw [if_neg c30] at H
             have c30b0 : ((decide ((rd l0 x7_3) < ((rd_T35 l1 x5_1).f0))) != (decide (x7_3 < ((rd_T35 l1 x5_1).f1)))) = false := by simpa using c30
             (try (have c30b1 : decide ((decide ((rd l0 x7_3) < ((rd_T35 l1 x5_1).f0))) = (decide (x7_3 < ((rd_T35 l1 x5_1).f1)))) = true := by simpa using c30))
             (try (have c30b2 : ((decide ((rd l0 x7_3) < ((rd_T35 l1 x5_1).f0))) == (decide (x7_3 < ((rd_T35 l1 x5_1).f1)))) = true := by simpa using c30))
             clear c30
             have H' := Aside0.mk H
             clear H
             try go_wp2
             replace BK129 := wd BK129
             replace HB := mk (below_drew1 HB.out)
             have p134 : 0 ≤ (x7_3 : Int) := dt
             have q134 : x7_3 < (l0.length : Int) := dt
             obtain ⟨ad134, e134, hx134_0⟩ := Kd.at_int HR0.out x7_3 p134 q134
             have hw134_0 := hx134_0
             cases e134
             replace hx134_0 := (HB.out.cell (World.block_lt_of_cell? w _ hx134_0)).trans hx134_0
             replace p134 := eq_true p134
             replace q134 := eq_true q134
             refine start_ (n := 12) (S := fun w' => w'.cell? ⟨gb129, 0, none⟩ = some (.int .i64 ((rd_T35 l1 x5_1).f0)) ∧ w'.cell? ⟨gb129, 1, none⟩ = some (.int .i64 ((rd_T35 l1 x5_1).f1)) ∧ w'.cell? (ad134.add (x7_3).toNat) = some (.int .i64 (rd l0 x7_3))) (ds := []) #[F_, F_, F_, F_, F_, F_, F_, F_, F_, F_, F_, F_] (by kernel_rfl) rfl rfl ⟨bc BK129 0, bc BK129 1, ((HB.out.cell (World.block_lt_of_cell? w _ hw134_0)).trans hw134_0)⟩ (fun hHeld => ?_); refine with_tabW spec_l4Pivots.tab10 spec_l4Pivots.bits10 (fun HT_ HW_ => ?_)
             generalize wr.drew = w32 at BK129 HB hx134_0 hHeld ⊢
             refine pu 0 62 (tf 1 11) ?_
             refine pu 1 63 (tf 2 10) ?_
             refine pu 2 64 (tf 3 9) ?_
             refine pu 4 66 #[T_,T_,T_,F_,T_,F_,F_,F_,F_,F_,F_,F_] ?_
             refine pu 7 69 #[T_,T_,T_,F_,T_,F_,F_,T_,F_,F_,F_,F_] ?_
             refine pu 8 70 #[T_,T_,T_,F_,T_,F_,F_,T_,T_,F_,F_,F_] ?_
             refine tk 3 65 #[T_,T_,T_,T_,T_,F_,F_,T_,T_,F_,F_,F_] hHeld ?_
             refine tk 5 67 #[T_,T_,T_,T_,T_,T_,F_,T_,T_,F_,F_,F_] hHeld ?_
             refine pu 6 68 (tf 9 3) ?_
             refine tk 9 71 (tf 10 2) hHeld ?_
             refine pu 10 72 (tf 11 1) ?_
             refine pu 11 73 (tf 12 0) ?_
             refine done_ (done_of HT_.out (by kernel_rfl)) ?_
             try go_wp2
             go_roundg k3
             case measure => have := HK1.out; have := HJ4.out; have := HK3.out; omega
             case rel => exact ⟨(wrap64 (x7_3 + 1)), (by first | rfl | (simp; done) | (simp [*]; done)), H', ⟨by have := HK1.out; have := HJ4.out; have := HK3.out; omega⟩, ⟨ub BK129.out⟩, ⟨bl⟩⟩
           ·rw [if_neg c29] at H
            exact absurd H (by simp)
          ·rw [if_neg c28] at H
           have c28b0 : decide (x7_3 < (l0.length : Int)) = false := decide_eq_false c28
           clear c28
           have H' := Aside0.mk H
           clear H
           go_wp2
           go_roundg k3
           case measure => have := HK1.out; have := HJ4.out; have := HK3.out; omega
           case rel => exact ⟨(wrap64 (x5_1 + 1)), (by first | rfl | (simp; done) | (simp [*]; done)), H', ⟨by have := HK1.out; have := HJ4.out; have := HK3.out; omega⟩, ⟨bl⟩⟩
    ·rw [if_neg c4] at H
     exact absurd H (by simp)
   ·rw [if_neg c3] at H
    have c3b0 : decide (x5_1 < (l1.length : Int)) = false := decide_eq_false c3
    clear c3
    obtain rfl := Option.some.inj H
    go_wp2
    go_ret
    exact ⟨by first | rfl | (simp [errW_none, errW_some] <;> rfl) | (simp [*, errW_none, errW_some] <;> rfl), bl⟩

end Go.Proofs.Ytmliclopdbkbeaa.PFnExactAddPivot
