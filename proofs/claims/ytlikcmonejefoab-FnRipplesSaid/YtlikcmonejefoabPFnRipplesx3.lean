-- printed by a program of this session, a turned copy of the print of the kit
import Derived.Test.YtlikcmonejefoabSr
import Derived.Test.YtlikcmonejefoabPFnRipplesx0
import Derived.Test.YtlikcmonejefoabPFnRipplesx2
namespace Go.Proofs.Ytlikcmonejefoab.PFnRipples
open Go.RowKit Go.Proofs.YtlikcmonejefoabW.PrintWords Go.Proofs.YtlikcmonejefoabW.PrintLast Go.Proofs.YtlikcmonejefoabW.PrintMore Go.Proofs.Ytlikcmonejefoab.Sq
attribute [local go_sem] max2_int min2_int max_two min_two max_three min_three max_four min_four Giv.cell_twice   -- for this text's walks alone
set_option linter.unusedVariables false
set_option linter.unusedSimpArgs false

/-! ### spec_l4Pivots: function 56 -/
mutual
def spec_l4Pivots.l0 : Nat → List Int → List (S50) → Int → Option (Bool)
 | 0, _, _, _ => none
 | k + 1, x0, x1, x5 => if x5 < (x1.length : Int) then (if 0 ≤ x5 then ((spec_l1In.f ((rd_T50 x1 x5).f0) (-1000) 1000).bind fun k2 => (if k2 = true then ((spec_l1In.f ((rd_T50 x1 x5).f1) 0 (x0.length : Int)).bind fun j2 => (if j2 = true then (if x5 > 0 then (if 0 ≤ (wrap64 (x5 - 1)) then (if (wrap64 (x5 - 1)) < (x1.length : Int) then (if ((rd_T50 x1 x5).f0) ≤ ((rd_T50 x1 (wrap64 (x5 - 1))).f0) then (spec_l4Pivots.j1 k x0 x1 x5 true ((rd_T50 x1 x5).f0) ((rd_T50 x1 x5).f1)) else (spec_l4Pivots.j1 k x0 x1 x5 (decide (((rd_T50 x1 x5).f1) < ((rd_T50 x1 (wrap64 (x5 - 1))).f1))) ((rd_T50 x1 x5).f0) ((rd_T50 x1 x5).f1))) else (none)) else (none)) else (spec_l4Pivots.j1 k x0 x1 x5 false ((rd_T50 x1 x5).f0) ((rd_T50 x1 x5).f1))) else (spec_l4Pivots.j1 k x0 x1 x5 true ((rd_T50 x1 x5).f0) ((rd_T50 x1 x5).f1)))) else (spec_l4Pivots.j1 k x0 x1 x5 true ((rd_T50 x1 x5).f0) ((rd_T50 x1 x5).f1)))) else (none)) else (some true)
def spec_l4Pivots.j1 : Nat → List Int → List (S50) → Int → Bool → Int → Int → Option (Bool)
 | 0, _, _, _, _, _, _ => none
 | k + 1, x0, x1, x5, x55, d1, b1 => if x55 = true then (some false) else (spec_l4Pivots.l1 k x0 x1 x5 0 d1 b1)
def spec_l4Pivots.l1 : Nat → List Int → List (S50) → Int → Int → Int → Int → Option (Bool)
 | 0, _, _, _, _, _, _ => none
 | k + 1, x0, x1, x5, x7, d1, b1 => if x7 < (x0.length : Int) then (if 0 ≤ x7 then (if ((decide ((rd x0 x7) < d1)) != (decide (x7 < b1))) = true then (some false) else (spec_l4Pivots.l1 k x0 x1 x5 (wrap64 (x7 + 1)) d1 b1)) else (none)) else (spec_l4Pivots.l0 k x0 x1 (wrap64 (x5 + 1)))
end
def spec_l4Pivots.f (k : Nat) (l0 : List Int) (l1 : List (S50)) : Option (Bool) := spec_l4Pivots.l0 k l0 l1 0
theorem spec_l4Pivots.mono_l : ∀ k, (∀ y0 y1 y2, LeO (spec_l4Pivots.l0 k y0 y1 y2) (spec_l4Pivots.l0 (k + 1) y0 y1 y2)) ∧ (∀ y0 y1 y2 y3 y4 y5, LeO (spec_l4Pivots.j1 k y0 y1 y2 y3 y4 y5) (spec_l4Pivots.j1 (k + 1) y0 y1 y2 y3 y4 y5)) ∧ (∀ y0 y1 y2 y3 y4 y5, LeO (spec_l4Pivots.l1 k y0 y1 y2 y3 y4 y5) (spec_l4Pivots.l1 (k + 1) y0 y1 y2 y3 y4 y5))
 | 0 => ⟨fun _ _ _ r h => by simp [spec_l4Pivots.l0] at h, fun _ _ _ _ _ _ r h => by simp [spec_l4Pivots.j1] at h, fun _ _ _ _ _ _ r h => by simp [spec_l4Pivots.l1] at h⟩
 | k + 1 => by
  obtain ⟨ih0, ih1, ih2⟩ := spec_l4Pivots.mono_l k
  refine ⟨?_, ?_, ?_⟩
  ·intro y0 y1 y2
   unfold spec_l4Pivots.l0
   exact mo
  ·intro y0 y1 y2 y3 y4 y5
   unfold spec_l4Pivots.j1
   exact mo
  ·intro y0 y1 y2 y3 y4 y5
   unfold spec_l4Pivots.l1
   exact mo
theorem spec_l4Pivots.mono : ∀ a0 a1 k, LeO (spec_l4Pivots.f k a0 a1) (spec_l4Pivots.f (k + 1) a0 a1) := by
 intro a0 a1 k
 obtain ⟨ih0, ih1, ih2⟩ := spec_l4Pivots.mono_l k
 unfold spec_l4Pivots.f
 exact mo
instance spec_l4Pivots.mi (a0 a1 k) : LeC (spec_l4Pivots.f k a0 a1) (spec_l4Pivots.f (k + 1) a0 a1) := ⟨spec_l4Pivots.mono a0 a1 k⟩
def spec_l4Pivots.T5 : Bool × List (List Nat × List Nat) := (true, [([], []), ([0], [0]), ([1], [1]), ([2], [2]), ([3, 2], [3]), ([4], [4]), ([5, 4], [4, 5]), ([4], [4]), ([7, 4], [4, 7]), ([6, 8, 4, 4], [4, 6, 8]), ([9, 4], [4, 9]), ([4, 10], [4, 10]), ([11, 9], [11]), ([12], [12]), ([13, 12], [12, 13]), ([14, 12, 12], [12, 14]), ([15], [15]), ([16, 15], [15, 16]), ([15], [15]), ([15], [15]), ([19, 15], [15, 19]), ([18, 20, 15], [15, 18, 20]), ([21, 15], [15, 21]), ([22, 15], [15, 22]), ([17, 23, 15], [15, 17, 23]), ([24, 15, 15], [15, 24]), ([25], [25]), ([26, 25], [25, 26]), ([25], [25]), ([25], [25]), ([29, 25], [25, 29]), ([28, 30, 25], [25, 28, 30]), ([31, 25], [25, 31]), ([32, 25], [25, 32]), ([27, 33, 25], [25, 27, 33]), ([25, 34, 15], [15, 25, 34]), ([15, 35, 12], [12, 15, 35]), ([12, 36], [12, 36])])
def spec_l4Pivots.B5 : List Nat := [0, 1, 3, 7, 15, 31, 63, 31, 159, 511, 1023, 2047, 4095, 8191, 16383, 32767, 65535, 131071, 65535, 65535, 589823, 1900543, 3997695, 8191999, 16777215, 33554431, 67108863, 134217727, 67108863, 67108863, 603979775, 1946157055, 4093640703, 8388607999, 17179869183, 34359738367, 68719476735, 137438953471]
theorem spec_l4Pivots.tab5 : rtab .any (opsOf Try.f56 5) = spec_l4Pivots.T5 := by kernel_rfl
theorem spec_l4Pivots.bits5 : waitsOk spec_l4Pivots.T5.2 spec_l4Pivots.B5 = true := by kernel_rfl
def spec_l4Pivots.T10 : Bool × List (List Nat × List Nat) := (true, [([], []), ([], []), ([0, 1], [0, 1]), ([2], [2]), ([], []), ([4], [4]), ([3, 5], [3, 5]), ([], []), ([], []), ([8], [8]), ([7, 9], [7, 9]), ([6, 10], [6, 10])])
def spec_l4Pivots.B10 : List Nat := [0, 0, 3, 7, 0, 16, 63, 0, 0, 256, 896, 2047]
theorem spec_l4Pivots.tab10 : rtab .any (opsOf Try.f56 10) = spec_l4Pivots.T10 := by kernel_rfl
theorem spec_l4Pivots.bits10 : waitsOk spec_l4Pivots.T10.2 spec_l4Pivots.B10 = true := by kernel_rfl
set_option maxHeartbeats 8000000 in
set_option maxRecDepth 100000 in
theorem spec_l4Pivots.calls (k : Nat) (A0 : Option Addr) (c0 : Nat) (l0 : List Int) (A1 : Option Addr) (c1 : Nat) (l1 : List (S50)) (r : Bool) (w : World) (hr0 : Kd.C (Kd.int .i64) w A0 l0.length l0) (hc0 : l0.length ≤ c0) (hr1 : Kd.C k50 w A1 l1.length l1) (hc1 : l1.length ≤ c1) (h : spec_l4Pivots.f k l0 l1 = some r) :
  Calls Try.prog 56 #[.slice A0 l0.length c0, .slice A1 l1.length c1] w fun e w' => e = .returned (.bool r) ∧ Below w.heap.size w w' := by
 have hu50 := Try.underlying50
 have HR0 := mk hr0
 have HC0 := mk hc0
 clear hr0 hc0
 have HR1 := mk hr1
 have HC1 := mk hc1
 clear hr1 hc1
 have HB := mk (Below.refl w.heap.size w)
 have H : (spec_l4Pivots.l0 k l0 l1 0) = some r := h
 clear h
 have H' := mk H
 clear H
 go_enter Try.func56, Try.ntmps56
 go_wp2
 go_loopg [5] k (fun kq v5 w' => ∃ (d0 : Int), v5 = .int .i64 d0 ∧ Aside0 (spec_l4Pivots.l0 kq l0 l1 d0 = some r) ∧ Aside0 (kq ≤ k) ∧ Aside0 (Below w.heap.size w w'))
 case atStart => exact ⟨(0), (by first | rfl | (simp; done) | (simp [*]; done)), H', ⟨Nat.le_refl _⟩, ⟨bl⟩⟩
 case round =>
  clear H'
  try clear c1
  try clear p2
  obtain ⟨d0, rfl, HA, HK1, HB⟩ := hrel
  cases gk with
  | zero => exact absurd HA.out (by simp [spec_l4Pivots.l0])
  | succ k1 =>
   have H := HA.out
   clear HA
   simp only [spec_l4Pivots.l0] at H
   revert H; refine ci (fun c3 H => ?_) fun c3 H => ?_
   ·have d4 : decide (d0 < (l1.length : Int)) = true := decide_eq_true c3
    clear c3
    revert H; refine ca fun c4 H => ?_
    have q4 : decide (0 ≤ d0) = true := decide_eq_true c4
    clear c4
    have HC5 := mk H
    clear H
    have s2 : 0 ≤ (d0 : Int) := dt
    have o2 : d0 < (l1.length : Int) := dt
    obtain ⟨s0, b4, m1, g1⟩ := at_T50 HR1.out d0 s2 o2
    cases b4
    replace m1 := (HB.out.cell (World.block_lt_of_cell? w _ m1)).trans m1
    replace g1 := (HB.out.cell (World.block_lt_of_cell? w _ g1)).trans g1
    replace s2 := eq_true s2
    replace o2 := eq_true o2
    go_upto_region 5 with (first | ((with_reducible refine gate_dst (N := 6) rfl ?_); (try (refine gate_guard (by rfl) ?_; dsimp only)); refine bx 6 #[.int .i64 0, .int .i64 0] 50 ?_; intro g0 hg w6 hbox hb; have b0 := mk hbox; have o4 := wg hg; replace HB := wh hb; clear hb hbox hg; obtain ⟨z3, v3, s3, q3⟩ := bz2 b0))
    (try simp only [Act.put, List.setIfInBounds_toArray, List.set_cons_zero, List.set_cons_succ])
    go_cut [55] (fun v55 wc => ∃ (kq : Nat) (s1 : Bool), v55 = .bool s1 ∧ Aside0 (spec_l4Pivots.j1 kq l0 l1 d0 s1 ((rd_T50 l1 d0).f0) ((rd_T50 l1 d0).f1) = some r) ∧ Aside0 (kq ≤ k1) ∧ Aside0 (wc.heap[g0]? = some (.cells #[.int .i64 ((rd_T50 l1 d0).f0), .int .i64 ((rd_T50 l1 d0).f1)] 50 (0, 0))) ∧ Aside0 (Below w.heap.size w wc))
    case first =>
     have H := HC5.out
     clear HC5
     revert H; refine bo ?_; rintro k2 A8 H
     by_cases c9 : k2 = true
     ·subst c9
      rw [if_pos rfl] at H
      revert H; refine bo ?_; rintro j2 A10 H
      by_cases c11 : j2 = true
      ·subst c11
       rw [if_pos rfl] at H
       revert H; refine ci (fun c12 H => ?_) fun c12 H => ?_
       ·have q1 : decide (0 < d0) = true := decide_eq_true c12
        clear c12
        (first | rw [q1] | (simp only [i64_w, i32_w]; rw [q1]) | skip)
        obtain ⟨o0, o1⟩ : ∃ j_ : Int, (wrap64 (d0 - 1)) = j_ := ⟨_, rfl⟩
        replace H : (if 0 ≤ (o0) then (if (o0) < (l1.length : Int) then (if ((rd_T50 l1 d0).f0) ≤ ((rd_T50 l1 (o0)).f0) then (spec_l4Pivots.j1 k1 l0 l1 d0 true ((rd_T50 l1 d0).f0) ((rd_T50 l1 d0).f1)) else (spec_l4Pivots.j1 k1 l0 l1 d0 (decide (((rd_T50 l1 d0).f1) < ((rd_T50 l1 (o0)).f1))) ((rd_T50 l1 d0).f0) ((rd_T50 l1 d0).f1))) else (none)) else (none)) = some r := by first | (rw [o1] at H; exact H) | (simp only [o1] at H ⊢; exact H)
        (try rw [o1] at A8)
        (try rw [o1] at A10)
        have o3 : (IntKind.i64.wrap (d0 - 1)) = o0 := (i64_w _).trans o1
        revert H; refine ca fun c14 H => ?_
        have m4 : decide (0 ≤ (o0)) = true := decide_eq_true c14
        clear c14
        revert H; refine ca fun c15 H => ?_
        have k4 : decide ((o0) < (l1.length : Int)) = true := decide_eq_true c15
        clear c15
        revert H; refine ci (fun c16 H => ?_) fun c16 H => ?_
        ·have j3 : decide (((rd_T50 l1 d0).f0) ≤ ((rd_T50 l1 (o0)).f0)) = true := decide_eq_true c16
         clear c16
         have H' := mk H
         clear H
         try go_wp2
         have n0_ : Aside0 (((w6.setCell ⟨g0, 0, none⟩ (.int .i64 ((rd_T50 l1 d0).f0))).setCell ⟨g0, 1, none⟩ (.int .i64 ((rd_T50 l1 d0).f1))).heap[g0]? = some (.cells #[.int .i64 ((rd_T50 l1 d0).f0), .int .i64 ((rd_T50 l1 d0).f1)] 50 (0, 0))) := ⟨bq⟩
         have n1_ : Aside0 (Below w.heap.size w ((w6.setCell ⟨g0, 0, none⟩ (.int .i64 ((rd_T50 l1 d0).f0))).setCell ⟨g0, 1, none⟩ (.int .i64 ((rd_T50 l1 d0).f1)))) := ⟨bl⟩
         (try clear b0)
         (try clear HB)
         generalize ((w6.setCell ⟨g0, 0, none⟩ (.int .i64 ((rd_T50 l1 d0).f0))).setCell ⟨g0, 1, none⟩ (.int .i64 ((rd_T50 l1 d0).f1))) = w17 at n0_ n1_ ⊢
         have b0 := n0_
         have HB := n1_
         clear n0_ n1_
         replace b0 := wd b0
         replace HB := mk (below_drew1 HB.out)
         have b2 : 0 ≤ ((o0) : Int) := dt
         have z1 : (o0) < (l1.length : Int) := dt
         obtain ⟨g2, z2, m0, k0⟩ := at_T50 HR1.out (o0) b2 z1
         have hw108_1 := k0
         have hw108_0 := m0
         obtain rfl : s0 = g2 := (by injection z2)
         replace m0 := (HB.out.cell (World.block_lt_of_cell? w _ m0)).trans m0
         replace k0 := (HB.out.cell (World.block_lt_of_cell? w _ k0)).trans k0
         replace b2 := eq_true b2
         replace z1 := eq_true z1
         refine start_ (n := 38) (S := fun w' => w'.cell? ⟨g0, 0, none⟩ = some (.int .i64 ((rd_T50 l1 d0).f0)) ∧ w'.cell? ⟨g0, 1, none⟩ = some (.int .i64 ((rd_T50 l1 d0).f1)) ∧ w'.cell? (s0.add (((o0)).toNat * 2)) = some (.int .i64 ((rd_T50 l1 (o0)).f0)) ∧ w'.cell? ⟨(s0.add (((o0)).toNat * 2)).block, (s0.add (((o0)).toNat * 2)).off + 1, none⟩ = some (.int .i64 ((rd_T50 l1 (o0)).f1))) (ds := []) #[F_, F_, F_, F_, F_, F_, F_, F_, F_, F_, F_, F_, F_, F_, F_, F_, F_, F_, F_, F_, F_, F_, F_, F_, F_, F_, F_, F_, F_, F_, F_, F_, F_, F_, F_, F_, F_, F_] (by kernel_rfl) rfl rfl ⟨bc b0 0, bc b0 1, ((HB.out.cell (World.block_lt_of_cell? w _ hw108_0)).trans hw108_0), ((HB.out.cell (World.block_lt_of_cell? w _ hw108_1)).trans hw108_1)⟩ (fun hHeld => ?_); refine with_tabW spec_l4Pivots.tab5 spec_l4Pivots.bits5 (fun HT_ HW_ => ?_)
         generalize w17.drew = w18 at b0 HB m0 k0 hHeld ⊢
         refine pu 0 18 (tf 1 37) ?_
         refine tk 1 19 (tf 2 36) hHeld ?_
         refine on 2 20 (tf 3 35) (fun K hK => ?_)
         refine gs Try.func54 #[.int .i64 ((rd_T50 l1 d0).f0), .int .i64 (-1000), .int .i64 1000] ?_
         with_reducible refine (spec_l1In.calls ((rd_T50 l1 d0).f0) (-1000) 1000 true _ A8.out).mono ?_
         rintro e w' ⟨rfl, ⟨nd, rfl⟩⟩
         refine ⟨_, rfl, ?_⟩
         refine hK.out _ _ ⟨bc b0 0, bc b0 1, ((HB.out.cell (World.block_lt_of_cell? w _ hw108_0)).trans hw108_0), ((HB.out.cell (World.block_lt_of_cell? w _ hw108_1)).trans hw108_1)⟩ (fun hHeld => ?_)
         clear hK K
         refine nm 20 ?_
         refine pu 3 21 (tf 4 34) ?_
         refine pu 4 22 (tf 5 33) ?_
         refine pu 5 23 (tf 6 32) ?_
         refine pu 7 25 #[T_,T_,T_,T_,T_,T_,F_,T_,F_,F_,F_,F_,F_,F_,F_,F_,F_,F_,F_,F_,F_,F_,F_,F_,F_,F_,F_,F_,F_,F_,F_,F_,F_,F_,F_,F_,F_,F_] ?_
         refine pu 8 26 #[T_,T_,T_,T_,T_,T_,F_,T_,T_,F_,F_,F_,F_,F_,F_,F_,F_,F_,F_,F_,F_,F_,F_,F_,F_,F_,F_,F_,F_,F_,F_,F_,F_,F_,F_,F_,F_,F_] ?_
         refine tk 6 24 (tf 9 29) hHeld ?_
         refine on 9 27 (tf 10 28) (fun K hK => ?_)
         refine gs Try.func54 #[.int .i64 ((rd_T50 l1 d0).f1), .int .i64 0, .int .i64 (l0.length : Int)] ?_
         with_reducible refine (spec_l1In.calls ((rd_T50 l1 d0).f1) 0 (l0.length : Int) true _ A10.out).mono ?_
         rintro e w' ⟨rfl, ⟨nd, rfl⟩⟩
         refine ⟨_, rfl, ?_⟩
         refine hK.out _ _ ⟨bc b0 0, bc b0 1, ((HB.out.cell (World.block_lt_of_cell? w _ hw108_0)).trans hw108_0), ((HB.out.cell (World.block_lt_of_cell? w _ hw108_1)).trans hw108_1)⟩ (fun hHeld => ?_)
         clear hK K
         refine nm 27 ?_
         refine pu 10 28 (tf 11 27) ?_
         refine pu 11 29 (tf 12 26) ?_
         refine pu 12 30 (tf 13 25) ?_
         refine pu 13 31 (tf 14 24) ?_
         refine pu 14 32 (tf 15 23) ?_
         refine pu 15 33 (tf 16 22) ?_
         refine pu 16 34 (tf 17 21) ?_
         refine pu 18 36 #[T_,T_,T_,T_,T_,T_,T_,T_,T_,T_,T_,T_,T_,T_,T_,T_,T_,F_,T_,F_,F_,F_,F_,F_,F_,F_,F_,F_,F_,F_,F_,F_,F_,F_,F_,F_,F_,F_] ?_
         refine pu 19 37 #[T_,T_,T_,T_,T_,T_,T_,T_,T_,T_,T_,T_,T_,T_,T_,T_,T_,F_,T_,T_,F_,F_,F_,F_,F_,F_,F_,F_,F_,F_,F_,F_,F_,F_,F_,F_,F_,F_] ?_
         refine pu 20 38 #[T_,T_,T_,T_,T_,T_,T_,T_,T_,T_,T_,T_,T_,T_,T_,T_,T_,F_,T_,T_,T_,F_,F_,F_,F_,F_,F_,F_,F_,F_,F_,F_,F_,F_,F_,F_,F_,F_] ?_
         refine pu 21 39 #[T_,T_,T_,T_,T_,T_,T_,T_,T_,T_,T_,T_,T_,T_,T_,T_,T_,F_,T_,T_,T_,T_,F_,F_,F_,F_,F_,F_,F_,F_,F_,F_,F_,F_,F_,F_,F_,F_] ?_
         refine pu 22 40 #[T_,T_,T_,T_,T_,T_,T_,T_,T_,T_,T_,T_,T_,T_,T_,T_,T_,F_,T_,T_,T_,T_,T_,F_,F_,F_,F_,F_,F_,F_,F_,F_,F_,F_,F_,F_,F_,F_] ?_
         refine tk 17 35 (tf 23 15) hHeld ?_
         refine tk 23 41 (tf 24 14) hHeld ?_
         refine pu 24 42 (tf 25 13) ?_
         refine pu 25 43 (tf 26 12) ?_
         refine pn 26 44 (tf 27 11) ?_
         refine pn 27 45 (tf 28 10) ?_
         refine pn 28 46 (tf 29 9) ?_
         refine pn 29 47 (tf 30 8) ?_
         refine pn 30 48 (tf 31 7) ?_
         refine pn 31 49 (tf 32 6) ?_
         refine pn 32 50 (tf 33 5) ?_
         refine pn 33 51 (tf 34 4) ?_
         refine pn 34 52 (tf 35 3) ?_
         refine pu 35 53 (tf 36 2) ?_
         refine pu 36 54 (tf 37 1) ?_
         refine pu 37 55 (tf 38 0) ?_
         refine done_ (done_of HT_.out (by kernel_rfl)) ?_
         try go_wp2
         go_meet
         case rel => exact ⟨_, (true), (by first | rfl | (simp; done) | (simp [*]; done)), H', ⟨by have := HK1.out; first | omega | exact Nat.le_refl _⟩, ⟨ub b0.out⟩, ⟨bl⟩⟩
        ·have j3 : decide (((rd_T50 l1 d0).f0) ≤ ((rd_T50 l1 (o0)).f0)) = false := decide_eq_false c16
         clear c16
         have H' := mk H
         clear H
         try go_wp2
         have n0_ : Aside0 (((w6.setCell ⟨g0, 0, none⟩ (.int .i64 ((rd_T50 l1 d0).f0))).setCell ⟨g0, 1, none⟩ (.int .i64 ((rd_T50 l1 d0).f1))).heap[g0]? = some (.cells #[.int .i64 ((rd_T50 l1 d0).f0), .int .i64 ((rd_T50 l1 d0).f1)] 50 (0, 0))) := ⟨bq⟩
         have n1_ : Aside0 (Below w.heap.size w ((w6.setCell ⟨g0, 0, none⟩ (.int .i64 ((rd_T50 l1 d0).f0))).setCell ⟨g0, 1, none⟩ (.int .i64 ((rd_T50 l1 d0).f1)))) := ⟨bl⟩
         (try clear b0)
         (try clear HB)
         generalize ((w6.setCell ⟨g0, 0, none⟩ (.int .i64 ((rd_T50 l1 d0).f0))).setCell ⟨g0, 1, none⟩ (.int .i64 ((rd_T50 l1 d0).f1))) = w19 at n0_ n1_ ⊢
         have b0 := n0_
         have HB := n1_
         clear n0_ n1_
         replace b0 := wd b0
         replace HB := mk (below_drew1 HB.out)
         have b2 : 0 ≤ ((o0) : Int) := dt
         have z1 : (o0) < (l1.length : Int) := dt
         obtain ⟨g2, z2, m0, k0⟩ := at_T50 HR1.out (o0) b2 z1
         have hw108_1 := k0
         have hw108_0 := m0
         obtain rfl : s0 = g2 := (by injection z2)
         replace m0 := (HB.out.cell (World.block_lt_of_cell? w _ m0)).trans m0
         replace k0 := (HB.out.cell (World.block_lt_of_cell? w _ k0)).trans k0
         replace b2 := eq_true b2
         replace z1 := eq_true z1
         have q2 : 0 ≤ ((o0) : Int) := dt
         have m2 : (o0) < (l1.length : Int) := dt
         obtain ⟨m3, a4, z0, v0⟩ := at_T50 HR1.out (o0) q2 m2
         have hw109_1 := v0
         have hw109_0 := z0
         obtain rfl : s0 = m3 := (by injection a4)
         replace z0 := (HB.out.cell (World.block_lt_of_cell? w _ z0)).trans z0
         replace v0 := (HB.out.cell (World.block_lt_of_cell? w _ v0)).trans v0
         replace q2 := eq_true q2
         replace m2 := eq_true m2
         refine start_ (n := 38) (S := fun w' => w'.cell? ⟨g0, 0, none⟩ = some (.int .i64 ((rd_T50 l1 d0).f0)) ∧ w'.cell? ⟨g0, 1, none⟩ = some (.int .i64 ((rd_T50 l1 d0).f1)) ∧ w'.cell? (s0.add (((o0)).toNat * 2)) = some (.int .i64 ((rd_T50 l1 (o0)).f0)) ∧ w'.cell? ⟨(s0.add (((o0)).toNat * 2)).block, (s0.add (((o0)).toNat * 2)).off + 1, none⟩ = some (.int .i64 ((rd_T50 l1 (o0)).f1)) ∧ w'.cell? (s0.add (((o0)).toNat * 2)) = some (.int .i64 ((rd_T50 l1 (o0)).f0)) ∧ w'.cell? ⟨(s0.add (((o0)).toNat * 2)).block, (s0.add (((o0)).toNat * 2)).off + 1, none⟩ = some (.int .i64 ((rd_T50 l1 (o0)).f1))) (ds := []) #[F_, F_, F_, F_, F_, F_, F_, F_, F_, F_, F_, F_, F_, F_, F_, F_, F_, F_, F_, F_, F_, F_, F_, F_, F_, F_, F_, F_, F_, F_, F_, F_, F_, F_, F_, F_, F_, F_] (by kernel_rfl) rfl rfl ⟨bc b0 0, bc b0 1, ((HB.out.cell (World.block_lt_of_cell? w _ hw108_0)).trans hw108_0), ((HB.out.cell (World.block_lt_of_cell? w _ hw108_1)).trans hw108_1), ((HB.out.cell (World.block_lt_of_cell? w _ hw109_0)).trans hw109_0), ((HB.out.cell (World.block_lt_of_cell? w _ hw109_1)).trans hw109_1)⟩ (fun hHeld => ?_); refine with_tabW spec_l4Pivots.tab5 spec_l4Pivots.bits5 (fun HT_ HW_ => ?_)
         generalize w19.drew = w20 at b0 HB m0 k0 z0 v0 hHeld ⊢
         refine pu 0 18 (tf 1 37) ?_
         refine tk 1 19 (tf 2 36) hHeld ?_
         refine on 2 20 (tf 3 35) (fun K hK => ?_)
         refine gs Try.func54 #[.int .i64 ((rd_T50 l1 d0).f0), .int .i64 (-1000), .int .i64 1000] ?_
         with_reducible refine (spec_l1In.calls ((rd_T50 l1 d0).f0) (-1000) 1000 true _ A8.out).mono ?_
         rintro e w' ⟨rfl, ⟨nd, rfl⟩⟩
         refine ⟨_, rfl, ?_⟩
         refine hK.out _ _ ⟨bc b0 0, bc b0 1, ((HB.out.cell (World.block_lt_of_cell? w _ hw108_0)).trans hw108_0), ((HB.out.cell (World.block_lt_of_cell? w _ hw108_1)).trans hw108_1), ((HB.out.cell (World.block_lt_of_cell? w _ hw109_0)).trans hw109_0), ((HB.out.cell (World.block_lt_of_cell? w _ hw109_1)).trans hw109_1)⟩ (fun hHeld => ?_)
         clear hK K
         refine nm 20 ?_
         refine pu 3 21 (tf 4 34) ?_
         refine pu 4 22 (tf 5 33) ?_
         refine pu 5 23 (tf 6 32) ?_
         refine pu 7 25 #[T_,T_,T_,T_,T_,T_,F_,T_,F_,F_,F_,F_,F_,F_,F_,F_,F_,F_,F_,F_,F_,F_,F_,F_,F_,F_,F_,F_,F_,F_,F_,F_,F_,F_,F_,F_,F_,F_] ?_
         refine pu 8 26 #[T_,T_,T_,T_,T_,T_,F_,T_,T_,F_,F_,F_,F_,F_,F_,F_,F_,F_,F_,F_,F_,F_,F_,F_,F_,F_,F_,F_,F_,F_,F_,F_,F_,F_,F_,F_,F_,F_] ?_
         refine tk 6 24 (tf 9 29) hHeld ?_
         refine on 9 27 (tf 10 28) (fun K hK => ?_)
         refine gs Try.func54 #[.int .i64 ((rd_T50 l1 d0).f1), .int .i64 0, .int .i64 (l0.length : Int)] ?_
         with_reducible refine (spec_l1In.calls ((rd_T50 l1 d0).f1) 0 (l0.length : Int) true _ A10.out).mono ?_
         rintro e w' ⟨rfl, ⟨nd, rfl⟩⟩
         refine ⟨_, rfl, ?_⟩
         refine hK.out _ _ ⟨bc b0 0, bc b0 1, ((HB.out.cell (World.block_lt_of_cell? w _ hw108_0)).trans hw108_0), ((HB.out.cell (World.block_lt_of_cell? w _ hw108_1)).trans hw108_1), ((HB.out.cell (World.block_lt_of_cell? w _ hw109_0)).trans hw109_0), ((HB.out.cell (World.block_lt_of_cell? w _ hw109_1)).trans hw109_1)⟩ (fun hHeld => ?_)
         clear hK K
         refine nm 27 ?_
         refine pu 10 28 (tf 11 27) ?_
         refine pu 11 29 (tf 12 26) ?_
         refine pu 12 30 (tf 13 25) ?_
         refine pu 13 31 (tf 14 24) ?_
         refine pu 14 32 (tf 15 23) ?_
         refine pu 15 33 (tf 16 22) ?_
         refine pu 16 34 (tf 17 21) ?_
         refine pu 18 36 #[T_,T_,T_,T_,T_,T_,T_,T_,T_,T_,T_,T_,T_,T_,T_,T_,T_,F_,T_,F_,F_,F_,F_,F_,F_,F_,F_,F_,F_,F_,F_,F_,F_,F_,F_,F_,F_,F_] ?_
         refine pu 19 37 #[T_,T_,T_,T_,T_,T_,T_,T_,T_,T_,T_,T_,T_,T_,T_,T_,T_,F_,T_,T_,F_,F_,F_,F_,F_,F_,F_,F_,F_,F_,F_,F_,F_,F_,F_,F_,F_,F_] ?_
         refine pu 20 38 #[T_,T_,T_,T_,T_,T_,T_,T_,T_,T_,T_,T_,T_,T_,T_,T_,T_,F_,T_,T_,T_,F_,F_,F_,F_,F_,F_,F_,F_,F_,F_,F_,F_,F_,F_,F_,F_,F_] ?_
         refine pu 21 39 #[T_,T_,T_,T_,T_,T_,T_,T_,T_,T_,T_,T_,T_,T_,T_,T_,T_,F_,T_,T_,T_,T_,F_,F_,F_,F_,F_,F_,F_,F_,F_,F_,F_,F_,F_,F_,F_,F_] ?_
         refine pu 22 40 #[T_,T_,T_,T_,T_,T_,T_,T_,T_,T_,T_,T_,T_,T_,T_,T_,T_,F_,T_,T_,T_,T_,T_,F_,F_,F_,F_,F_,F_,F_,F_,F_,F_,F_,F_,F_,F_,F_] ?_
         refine tk 17 35 (tf 23 15) hHeld ?_
         refine tk 23 41 (tf 24 14) hHeld ?_
         refine pu 24 42 (tf 25 13) ?_
         refine pu 25 43 (tf 26 12) ?_
         refine pu 26 44 (tf 27 11) ?_
         refine pu 28 46 #[T_,T_,T_,T_,T_,T_,T_,T_,T_,T_,T_,T_,T_,T_,T_,T_,T_,T_,T_,T_,T_,T_,T_,T_,T_,T_,T_,F_,T_,F_,F_,F_,F_,F_,F_,F_,F_,F_] ?_
         refine pu 29 47 #[T_,T_,T_,T_,T_,T_,T_,T_,T_,T_,T_,T_,T_,T_,T_,T_,T_,T_,T_,T_,T_,T_,T_,T_,T_,T_,T_,F_,T_,T_,F_,F_,F_,F_,F_,F_,F_,F_] ?_
         refine pu 30 48 #[T_,T_,T_,T_,T_,T_,T_,T_,T_,T_,T_,T_,T_,T_,T_,T_,T_,T_,T_,T_,T_,T_,T_,T_,T_,T_,T_,F_,T_,T_,T_,F_,F_,F_,F_,F_,F_,F_] ?_
         refine pu 31 49 #[T_,T_,T_,T_,T_,T_,T_,T_,T_,T_,T_,T_,T_,T_,T_,T_,T_,T_,T_,T_,T_,T_,T_,T_,T_,T_,T_,F_,T_,T_,T_,T_,F_,F_,F_,F_,F_,F_] ?_
         refine pu 32 50 #[T_,T_,T_,T_,T_,T_,T_,T_,T_,T_,T_,T_,T_,T_,T_,T_,T_,T_,T_,T_,T_,T_,T_,T_,T_,T_,T_,F_,T_,T_,T_,T_,T_,F_,F_,F_,F_,F_] ?_
         refine tk 27 45 (tf 33 5) hHeld ?_
         refine tk 33 51 (tf 34 4) hHeld ?_
         refine pu 34 52 (tf 35 3) ?_
         refine pu 35 53 (tf 36 2) ?_
         refine pu 36 54 (tf 37 1) ?_
         refine pu 37 55 (tf 38 0) ?_
         refine done_ (done_of HT_.out (by kernel_rfl)) ?_
         try go_wp2
         go_meet
         case rel => exact ⟨_, (decide (((rd_T50 l1 d0).f1) < ((rd_T50 l1 (o0)).f1))), (by first | rfl | (simp; done) | (simp only [← o1] <;> (first | rfl | simp)) | (simp [*]; done)), H', ⟨by have := HK1.out; first | omega | exact Nat.le_refl _⟩, ⟨ub b0.out⟩, ⟨bl⟩⟩
       ·have q1 : decide (0 < d0) = false := decide_eq_false c12
        clear c12
        (first | rw [q1] | (simp only [i64_w, i32_w]; rw [q1]) | skip)
        have H' := mk H
        clear H
        try go_wp2
        have n0_ : Aside0 (((w6.setCell ⟨g0, 0, none⟩ (.int .i64 ((rd_T50 l1 d0).f0))).setCell ⟨g0, 1, none⟩ (.int .i64 ((rd_T50 l1 d0).f1))).heap[g0]? = some (.cells #[.int .i64 ((rd_T50 l1 d0).f0), .int .i64 ((rd_T50 l1 d0).f1)] 50 (0, 0))) := ⟨bq⟩
        have n1_ : Aside0 (Below w.heap.size w ((w6.setCell ⟨g0, 0, none⟩ (.int .i64 ((rd_T50 l1 d0).f0))).setCell ⟨g0, 1, none⟩ (.int .i64 ((rd_T50 l1 d0).f1)))) := ⟨bl⟩
        (try clear b0)
        (try clear HB)
        generalize ((w6.setCell ⟨g0, 0, none⟩ (.int .i64 ((rd_T50 l1 d0).f0))).setCell ⟨g0, 1, none⟩ (.int .i64 ((rd_T50 l1 d0).f1))) = w21 at n0_ n1_ ⊢
        have b0 := n0_
        have HB := n1_
        clear n0_ n1_
        replace b0 := wd b0
        replace HB := mk (below_drew1 HB.out)
        refine start_ (n := 38) (S := fun w' => w'.cell? ⟨g0, 0, none⟩ = some (.int .i64 ((rd_T50 l1 d0).f0)) ∧ w'.cell? ⟨g0, 1, none⟩ = some (.int .i64 ((rd_T50 l1 d0).f1))) (ds := []) #[F_, F_, F_, F_, F_, F_, F_, F_, F_, F_, F_, F_, F_, F_, F_, F_, F_, F_, F_, F_, F_, F_, F_, F_, F_, F_, F_, F_, F_, F_, F_, F_, F_, F_, F_, F_, F_, F_] (by kernel_rfl) rfl rfl ⟨bc b0 0, bc b0 1⟩ (fun hHeld => ?_); refine with_tabW spec_l4Pivots.tab5 spec_l4Pivots.bits5 (fun HT_ HW_ => ?_)
        generalize w21.drew = w22 at b0 HB hHeld ⊢
        refine pu 0 18 (tf 1 37) ?_
        refine tk 1 19 (tf 2 36) hHeld ?_
        refine on 2 20 (tf 3 35) (fun K hK => ?_)
        refine gs Try.func54 #[.int .i64 ((rd_T50 l1 d0).f0), .int .i64 (-1000), .int .i64 1000] ?_
        with_reducible refine (spec_l1In.calls ((rd_T50 l1 d0).f0) (-1000) 1000 true _ A8.out).mono ?_
        rintro e w' ⟨rfl, ⟨nd, rfl⟩⟩
        refine ⟨_, rfl, ?_⟩
        refine hK.out _ _ ⟨bc b0 0, bc b0 1⟩ (fun hHeld => ?_)
        clear hK K
        refine nm 20 ?_
        refine pu 3 21 (tf 4 34) ?_
        refine pu 4 22 (tf 5 33) ?_
        refine pu 5 23 (tf 6 32) ?_
        refine pu 7 25 #[T_,T_,T_,T_,T_,T_,F_,T_,F_,F_,F_,F_,F_,F_,F_,F_,F_,F_,F_,F_,F_,F_,F_,F_,F_,F_,F_,F_,F_,F_,F_,F_,F_,F_,F_,F_,F_,F_] ?_
        refine pu 8 26 #[T_,T_,T_,T_,T_,T_,F_,T_,T_,F_,F_,F_,F_,F_,F_,F_,F_,F_,F_,F_,F_,F_,F_,F_,F_,F_,F_,F_,F_,F_,F_,F_,F_,F_,F_,F_,F_,F_] ?_
        refine tk 6 24 (tf 9 29) hHeld ?_
        refine on 9 27 (tf 10 28) (fun K hK => ?_)
        refine gs Try.func54 #[.int .i64 ((rd_T50 l1 d0).f1), .int .i64 0, .int .i64 (l0.length : Int)] ?_
        with_reducible refine (spec_l1In.calls ((rd_T50 l1 d0).f1) 0 (l0.length : Int) true _ A10.out).mono ?_
        rintro e w' ⟨rfl, ⟨nd, rfl⟩⟩
        refine ⟨_, rfl, ?_⟩
        refine hK.out _ _ ⟨bc b0 0, bc b0 1⟩ (fun hHeld => ?_)
        clear hK K
        refine nm 27 ?_
        refine pu 10 28 (tf 11 27) ?_
        refine pu 11 29 (tf 12 26) ?_
        refine pu 12 30 (tf 13 25) ?_
        refine pu 13 31 (tf 14 24) ?_
        refine pu 14 32 (tf 15 23) ?_
        refine pu 15 33 (tf 16 22) ?_
        refine pn 16 34 (tf 17 21) ?_
        refine pn 17 35 (tf 18 20) ?_
        refine pn 18 36 (tf 19 19) ?_
        refine pn 19 37 (tf 20 18) ?_
        refine pn 20 38 (tf 21 17) ?_
        refine pn 21 39 (tf 22 16) ?_
        refine pn 22 40 (tf 23 15) ?_
        refine pn 23 41 (tf 24 14) ?_
        refine pn 24 42 (tf 25 13) ?_
        refine pn 25 43 (tf 26 12) ?_
        refine pn 26 44 (tf 27 11) ?_
        refine pn 27 45 (tf 28 10) ?_
        refine pn 28 46 (tf 29 9) ?_
        refine pn 29 47 (tf 30 8) ?_
        refine pn 30 48 (tf 31 7) ?_
        refine pn 31 49 (tf 32 6) ?_
        refine pn 32 50 (tf 33 5) ?_
        refine pn 33 51 (tf 34 4) ?_
        refine pn 34 52 (tf 35 3) ?_
        refine pn 35 53 (tf 36 2) ?_
        refine pu 36 54 (tf 37 1) ?_
        refine pu 37 55 (tf 38 0) ?_
        refine done_ (done_of HT_.out (by kernel_rfl)) ?_
        try go_wp2
        go_meet
        case rel => exact ⟨_, (false), (by first | rfl | (simp; done) | (simp [*]; done)), H', ⟨by have := HK1.out; first | omega | exact Nat.le_refl _⟩, ⟨ub b0.out⟩, ⟨bl⟩⟩
      ·replace c11 := Bool.eq_false_iff.mpr c11
       subst c11
       rw [if_neg nf] at H
       have H' := mk H
       clear H
       try go_wp2
       have n0_ : Aside0 (((w6.setCell ⟨g0, 0, none⟩ (.int .i64 ((rd_T50 l1 d0).f0))).setCell ⟨g0, 1, none⟩ (.int .i64 ((rd_T50 l1 d0).f1))).heap[g0]? = some (.cells #[.int .i64 ((rd_T50 l1 d0).f0), .int .i64 ((rd_T50 l1 d0).f1)] 50 (0, 0))) := ⟨bq⟩
       have n1_ : Aside0 (Below w.heap.size w ((w6.setCell ⟨g0, 0, none⟩ (.int .i64 ((rd_T50 l1 d0).f0))).setCell ⟨g0, 1, none⟩ (.int .i64 ((rd_T50 l1 d0).f1)))) := ⟨bl⟩
       (try clear b0)
       (try clear HB)
       generalize ((w6.setCell ⟨g0, 0, none⟩ (.int .i64 ((rd_T50 l1 d0).f0))).setCell ⟨g0, 1, none⟩ (.int .i64 ((rd_T50 l1 d0).f1))) = w23 at n0_ n1_ ⊢
       have b0 := n0_
       have HB := n1_
       clear n0_ n1_
       replace b0 := wd b0
       replace HB := mk (below_drew1 HB.out)
       refine start_ (n := 38) (S := fun w' => w'.cell? ⟨g0, 0, none⟩ = some (.int .i64 ((rd_T50 l1 d0).f0)) ∧ w'.cell? ⟨g0, 1, none⟩ = some (.int .i64 ((rd_T50 l1 d0).f1))) (ds := []) #[F_, F_, F_, F_, F_, F_, F_, F_, F_, F_, F_, F_, F_, F_, F_, F_, F_, F_, F_, F_, F_, F_, F_, F_, F_, F_, F_, F_, F_, F_, F_, F_, F_, F_, F_, F_, F_, F_] (by kernel_rfl) rfl rfl ⟨bc b0 0, bc b0 1⟩ (fun hHeld => ?_); refine with_tabW spec_l4Pivots.tab5 spec_l4Pivots.bits5 (fun HT_ HW_ => ?_)
       generalize w23.drew = w24 at b0 HB hHeld ⊢
       refine pu 0 18 (tf 1 37) ?_
       refine tk 1 19 (tf 2 36) hHeld ?_
       refine on 2 20 (tf 3 35) (fun K hK => ?_)
       refine gs Try.func54 #[.int .i64 ((rd_T50 l1 d0).f0), .int .i64 (-1000), .int .i64 1000] ?_
       with_reducible refine (spec_l1In.calls ((rd_T50 l1 d0).f0) (-1000) 1000 true _ A8.out).mono ?_
       rintro e w' ⟨rfl, ⟨nd, rfl⟩⟩
       refine ⟨_, rfl, ?_⟩
       refine hK.out _ _ ⟨bc b0 0, bc b0 1⟩ (fun hHeld => ?_)
       clear hK K
       refine nm 20 ?_
       refine pu 3 21 (tf 4 34) ?_
       refine pu 4 22 (tf 5 33) ?_
       refine pu 5 23 (tf 6 32) ?_
       refine pu 7 25 #[T_,T_,T_,T_,T_,T_,F_,T_,F_,F_,F_,F_,F_,F_,F_,F_,F_,F_,F_,F_,F_,F_,F_,F_,F_,F_,F_,F_,F_,F_,F_,F_,F_,F_,F_,F_,F_,F_] ?_
       refine pu 8 26 #[T_,T_,T_,T_,T_,T_,F_,T_,T_,F_,F_,F_,F_,F_,F_,F_,F_,F_,F_,F_,F_,F_,F_,F_,F_,F_,F_,F_,F_,F_,F_,F_,F_,F_,F_,F_,F_,F_] ?_
       refine tk 6 24 (tf 9 29) hHeld ?_
       refine on 9 27 (tf 10 28) (fun K hK => ?_)
       refine gs Try.func54 #[.int .i64 ((rd_T50 l1 d0).f1), .int .i64 0, .int .i64 (l0.length : Int)] ?_
       with_reducible refine (spec_l1In.calls ((rd_T50 l1 d0).f1) 0 (l0.length : Int) false _ A10.out).mono ?_
       rintro e w' ⟨rfl, ⟨nd, rfl⟩⟩
       refine ⟨_, rfl, ?_⟩
       refine hK.out _ _ ⟨bc b0 0, bc b0 1⟩ (fun hHeld => ?_)
       clear hK K
       refine nm 27 ?_
       refine pu 10 28 (tf 11 27) ?_
       refine pu 11 29 (tf 12 26) ?_
       refine pu 12 30 (tf 13 25) ?_
       refine pn 13 31 (tf 14 24) ?_
       refine pn 14 32 (tf 15 23) ?_
       refine pn 15 33 (tf 16 22) ?_
       refine pn 16 34 (tf 17 21) ?_
       refine pn 17 35 (tf 18 20) ?_
       refine pn 18 36 (tf 19 19) ?_
       refine pn 19 37 (tf 20 18) ?_
       refine pn 20 38 (tf 21 17) ?_
       refine pn 21 39 (tf 22 16) ?_
       refine pn 22 40 (tf 23 15) ?_
       refine pn 23 41 (tf 24 14) ?_
       refine pn 24 42 (tf 25 13) ?_
       refine pn 25 43 (tf 26 12) ?_
       refine pn 26 44 (tf 27 11) ?_
       refine pn 27 45 (tf 28 10) ?_
       refine pn 28 46 (tf 29 9) ?_
       refine pn 29 47 (tf 30 8) ?_
       refine pn 30 48 (tf 31 7) ?_
       refine pn 31 49 (tf 32 6) ?_
       refine pn 32 50 (tf 33 5) ?_
       refine pn 33 51 (tf 34 4) ?_
       refine pn 34 52 (tf 35 3) ?_
       refine pn 35 53 (tf 36 2) ?_
       refine pn 36 54 (tf 37 1) ?_
       refine pu 37 55 (tf 38 0) ?_
       refine done_ (done_of HT_.out (by kernel_rfl)) ?_
       try go_wp2
       go_meet
       case rel => exact ⟨_, (true), (by first | rfl | (simp; done) | (simp [*]; done)), H', ⟨by have := HK1.out; first | omega | exact Nat.le_refl _⟩, ⟨ub b0.out⟩, ⟨bl⟩⟩
     ·replace c9 := Bool.eq_false_iff.mpr c9
      subst c9
      rw [if_neg nf] at H
      have H' := mk H
      clear H
      try go_wp2
      have n0_ : Aside0 (((w6.setCell ⟨g0, 0, none⟩ (.int .i64 ((rd_T50 l1 d0).f0))).setCell ⟨g0, 1, none⟩ (.int .i64 ((rd_T50 l1 d0).f1))).heap[g0]? = some (.cells #[.int .i64 ((rd_T50 l1 d0).f0), .int .i64 ((rd_T50 l1 d0).f1)] 50 (0, 0))) := ⟨bq⟩
      have n1_ : Aside0 (Below w.heap.size w ((w6.setCell ⟨g0, 0, none⟩ (.int .i64 ((rd_T50 l1 d0).f0))).setCell ⟨g0, 1, none⟩ (.int .i64 ((rd_T50 l1 d0).f1)))) := ⟨bl⟩
      (try clear b0)
      (try clear HB)
      generalize ((w6.setCell ⟨g0, 0, none⟩ (.int .i64 ((rd_T50 l1 d0).f0))).setCell ⟨g0, 1, none⟩ (.int .i64 ((rd_T50 l1 d0).f1))) = w25 at n0_ n1_ ⊢
      have b0 := n0_
      have HB := n1_
      clear n0_ n1_
      replace b0 := wd b0
      replace HB := mk (below_drew1 HB.out)
      refine start_ (n := 38) (S := fun w' => w'.cell? ⟨g0, 0, none⟩ = some (.int .i64 ((rd_T50 l1 d0).f0)) ∧ w'.cell? ⟨g0, 1, none⟩ = some (.int .i64 ((rd_T50 l1 d0).f1))) (ds := []) #[F_, F_, F_, F_, F_, F_, F_, F_, F_, F_, F_, F_, F_, F_, F_, F_, F_, F_, F_, F_, F_, F_, F_, F_, F_, F_, F_, F_, F_, F_, F_, F_, F_, F_, F_, F_, F_, F_] (by kernel_rfl) rfl rfl ⟨bc b0 0, bc b0 1⟩ (fun hHeld => ?_); refine with_tabW spec_l4Pivots.tab5 spec_l4Pivots.bits5 (fun HT_ HW_ => ?_)
      generalize w25.drew = w26 at b0 HB hHeld ⊢
      refine pu 0 18 (tf 1 37) ?_
      refine tk 1 19 (tf 2 36) hHeld ?_
      refine on 2 20 (tf 3 35) (fun K hK => ?_)
      refine gs Try.func54 #[.int .i64 ((rd_T50 l1 d0).f0), .int .i64 (-1000), .int .i64 1000] ?_
      with_reducible refine (spec_l1In.calls ((rd_T50 l1 d0).f0) (-1000) 1000 false _ A8.out).mono ?_
      rintro e w' ⟨rfl, ⟨nd, rfl⟩⟩
      refine ⟨_, rfl, ?_⟩
      refine hK.out _ _ ⟨bc b0 0, bc b0 1⟩ (fun hHeld => ?_)
      clear hK K
      refine nm 20 ?_
      refine pu 3 21 (tf 4 34) ?_
      refine pu 4 22 (tf 5 33) ?_
      refine pn 5 23 (tf 6 32) ?_
      refine pn 6 24 (tf 7 31) ?_
      refine pn 7 25 (tf 8 30) ?_
      refine pn 8 26 (tf 9 29) ?_
      refine pn 9 27 (tf 10 28) ?_
      refine pn 10 28 (tf 11 27) ?_
      refine pu 11 29 (tf 12 26) ?_
      refine pu 12 30 (tf 13 25) ?_
      refine pn 13 31 (tf 14 24) ?_
      refine pn 14 32 (tf 15 23) ?_
      refine pn 15 33 (tf 16 22) ?_
      refine pn 16 34 (tf 17 21) ?_
      refine pn 17 35 (tf 18 20) ?_
      refine pn 18 36 (tf 19 19) ?_
      refine pn 19 37 (tf 20 18) ?_
      refine pn 20 38 (tf 21 17) ?_
      refine pn 21 39 (tf 22 16) ?_
      refine pn 22 40 (tf 23 15) ?_
      refine pn 23 41 (tf 24 14) ?_
      refine pn 24 42 (tf 25 13) ?_
      refine pn 25 43 (tf 26 12) ?_
      refine pn 26 44 (tf 27 11) ?_
      refine pn 27 45 (tf 28 10) ?_
      refine pn 28 46 (tf 29 9) ?_
      refine pn 29 47 (tf 30 8) ?_
      refine pn 30 48 (tf 31 7) ?_
      refine pn 31 49 (tf 32 6) ?_
      refine pn 32 50 (tf 33 5) ?_
      refine pn 33 51 (tf 34 4) ?_
      refine pn 34 52 (tf 35 3) ?_
      refine pn 35 53 (tf 36 2) ?_
      refine pn 36 54 (tf 37 1) ?_
      refine pu 37 55 (tf 38 0) ?_
      refine done_ (done_of HT_.out (by kernel_rfl)) ?_
      try go_wp2
      go_meet
      case rel => exact ⟨_, (true), (by first | rfl | (simp; done) | (simp [*]; done)), H', ⟨by have := HK1.out; first | omega | exact Nat.le_refl _⟩, ⟨ub b0.out⟩, ⟨bl⟩⟩
    case rest =>
     clear HC5
     try clear c1
     try clear p2
     try clear c5
     try clear c9
     try clear c11
     obtain ⟨kq, s1, rfl, HA, HJ4, b0, HB⟩ := hcut
     cases kq with
     | zero => exact absurd HA.out (by simp [spec_l4Pivots.j1])
     | succ kj4 =>
      have H := HA.out
      clear HA
      simp only [spec_l4Pivots.j1] at H
      by_cases c27 : s1 = true
      ·subst c27
       rw [if_pos rfl] at H
       obtain rfl := Option.some.inj H
       go_wp2
       go_ret
       exact ⟨rx, bl⟩
      ·replace c27 := Bool.eq_false_iff.mpr c27
       subst c27
       rw [if_neg nf] at H
       have H' := mk H
       clear H
       go_wp2
       go_loopg [7] kj4 (fun kq v7 w' => ∃ (q0 : Int), v7 = .int .i64 q0 ∧ Aside0 (spec_l4Pivots.l1 kq l0 l1 d0 q0 ((rd_T50 l1 d0).f0) ((rd_T50 l1 d0).f1) = some r) ∧ Aside0 (kq ≤ kj4) ∧ Aside0 (w'.heap[g0]? = some (.cells #[.int .i64 ((rd_T50 l1 d0).f0), .int .i64 ((rd_T50 l1 d0).f1)] 50 (0, 0))) ∧ Aside0 (Below w.heap.size w w'))
       case atStart => exact ⟨(0), (by first | rfl | (simp; done) | (simp [*]; done)), H', ⟨Nat.le_refl _⟩, ⟨ub b0.out⟩, ⟨bl⟩⟩
       case round =>
        clear H'
        try clear c1
        try clear c2
        try clear p2
        try clear c5
        try clear c9
        try clear c11
        try clear c27
        try clear p2
        obtain ⟨q0, rfl, HA, HK3, b0, HB⟩ := hrel
        cases gk with
        | zero => exact absurd HA.out (by simp [spec_l4Pivots.l1])
        | succ k3 =>
         have H := HA.out
         clear HA
         simp only [spec_l4Pivots.l1] at H
         revert H; refine ci (fun c28 H => ?_) fun c28 H => ?_
         ·have g3 : decide (q0 < (l0.length : Int)) = true := decide_eq_true c28
          clear c28
          revert H; refine ca fun c29 H => ?_
          have j4 : decide (0 ≤ q0) = true := decide_eq_true c29
          clear c29
          revert H; refine ci (fun c30 H => ?_) fun c30 H => ?_
          ·have d3 : ((decide ((rd l0 q0) < ((rd_T50 l1 d0).f0))) != (decide (q0 < ((rd_T50 l1 d0).f1)))) = true := c30
           (try (have b3 : decide ((decide ((rd l0 q0) < ((rd_T50 l1 d0).f0))) = (decide (q0 < ((rd_T50 l1 d0).f1)))) = false := by simpa using c30))
           (try (have a3 : ((decide ((rd l0 q0) < ((rd_T50 l1 d0).f0))) == (decide (q0 < ((rd_T50 l1 d0).f1)))) = false := by simpa using c30))
           (try (have g4 : ¬ ((decide ((rd l0 q0) < ((rd_T50 l1 d0).f0))) = (decide (q0 < ((rd_T50 l1 d0).f1)))) := by simpa using c30))
           clear c30
           obtain rfl := Option.some.inj H
           try go_wp2
           replace b0 := wd b0
           replace HB := mk (below_drew1 HB.out)
           have a2 : 0 ≤ (q0 : Int) := dt
           have v1 : q0 < (l0.length : Int) := dt
           obtain ⟨d2, v2, j0⟩ := Kd.at_int HR0.out q0 a2 v1
           have hw110_0 := j0
           cases v2
           replace j0 := (HB.out.cell (World.block_lt_of_cell? w _ j0)).trans j0
           replace a2 := eq_true a2
           replace v1 := eq_true v1
           refine start_ (n := 12) (S := fun w' => w'.cell? ⟨g0, 0, none⟩ = some (.int .i64 ((rd_T50 l1 d0).f0)) ∧ w'.cell? ⟨g0, 1, none⟩ = some (.int .i64 ((rd_T50 l1 d0).f1)) ∧ w'.cell? (d2.add (q0).toNat) = some (.int .i64 (rd l0 q0))) (ds := []) #[F_, F_, F_, F_, F_, F_, F_, F_, F_, F_, F_, F_] (by kernel_rfl) rfl rfl ⟨bc b0 0, bc b0 1, ((HB.out.cell (World.block_lt_of_cell? w _ hw110_0)).trans hw110_0)⟩ (fun hHeld => ?_); refine with_tabW spec_l4Pivots.tab10 spec_l4Pivots.bits10 (fun HT_ HW_ => ?_)
           generalize wr.drew = w31 at b0 HB j0 hHeld ⊢
           refine pu 0 62 (tf 1 11) ?_
           refine pu 1 63 (tf 2 10) ?_
           refine pu 2 64 (tf 3 9) ?_
           refine pu 4 66 #[T_,T_,T_,F_,T_,F_,F_,F_,F_,F_,F_,F_] ?_
           refine pu 7 69 #[T_,T_,T_,F_,T_,F_,F_,T_,F_,F_,F_,F_] ?_
           refine pu 8 70 #[T_,T_,T_,F_,T_,F_,F_,T_,T_,F_,F_,F_] ?_
           refine tk 3 65 #[T_,T_,T_,T_,T_,F_,F_,T_,T_,F_,F_,F_] hHeld ?_
           refine tk 5 67 #[T_,T_,T_,T_,T_,T_,F_,T_,T_,F_,F_,F_] hHeld ?_
           refine pu 6 68 (tf 9 3) ?_
           refine tk 9 71 (tf 10 2) hHeld ?_
           refine pu 10 72 (tf 11 1) ?_
           refine pu 11 73 (tf 12 0) ?_
           refine done_ (done_of HT_.out (by kernel_rfl)) ?_
           try go_wp2
           go_ret
           exact ⟨rx, bl⟩
          ·have d3 : ((decide ((rd l0 q0) < ((rd_T50 l1 d0).f0))) != (decide (q0 < ((rd_T50 l1 d0).f1)))) = false := by simpa using c30
           (try (have b3 : decide ((decide ((rd l0 q0) < ((rd_T50 l1 d0).f0))) = (decide (q0 < ((rd_T50 l1 d0).f1)))) = true := by simpa using c30))
           (try (have a3 : ((decide ((rd l0 q0) < ((rd_T50 l1 d0).f0))) == (decide (q0 < ((rd_T50 l1 d0).f1)))) = true := by simpa using c30))
           clear c30
           have H' := mk H
           clear H
           try go_wp2
           replace b0 := wd b0
           replace HB := mk (below_drew1 HB.out)
           have a2 : 0 ≤ (q0 : Int) := dt
           have v1 : q0 < (l0.length : Int) := dt
           obtain ⟨d2, v2, j0⟩ := Kd.at_int HR0.out q0 a2 v1
           have hw110_0 := j0
           cases v2
           replace j0 := (HB.out.cell (World.block_lt_of_cell? w _ j0)).trans j0
           replace a2 := eq_true a2
           replace v1 := eq_true v1
           refine start_ (n := 12) (S := fun w' => w'.cell? ⟨g0, 0, none⟩ = some (.int .i64 ((rd_T50 l1 d0).f0)) ∧ w'.cell? ⟨g0, 1, none⟩ = some (.int .i64 ((rd_T50 l1 d0).f1)) ∧ w'.cell? (d2.add (q0).toNat) = some (.int .i64 (rd l0 q0))) (ds := []) #[F_, F_, F_, F_, F_, F_, F_, F_, F_, F_, F_, F_] (by kernel_rfl) rfl rfl ⟨bc b0 0, bc b0 1, ((HB.out.cell (World.block_lt_of_cell? w _ hw110_0)).trans hw110_0)⟩ (fun hHeld => ?_); refine with_tabW spec_l4Pivots.tab10 spec_l4Pivots.bits10 (fun HT_ HW_ => ?_)
           generalize wr.drew = w32 at b0 HB j0 hHeld ⊢
           refine pu 0 62 (tf 1 11) ?_
           refine pu 1 63 (tf 2 10) ?_
           refine pu 2 64 (tf 3 9) ?_
           refine pu 4 66 #[T_,T_,T_,F_,T_,F_,F_,F_,F_,F_,F_,F_] ?_
           refine pu 7 69 #[T_,T_,T_,F_,T_,F_,F_,T_,F_,F_,F_,F_] ?_
           refine pu 8 70 #[T_,T_,T_,F_,T_,F_,F_,T_,T_,F_,F_,F_] ?_
           refine tk 3 65 #[T_,T_,T_,T_,T_,F_,F_,T_,T_,F_,F_,F_] hHeld ?_
           refine tk 5 67 #[T_,T_,T_,T_,T_,T_,F_,T_,T_,F_,F_,F_] hHeld ?_
           refine pu 6 68 (tf 9 3) ?_
           refine tk 9 71 (tf 10 2) hHeld ?_
           refine pu 10 72 (tf 11 1) ?_
           refine pu 11 73 (tf 12 0) ?_
           refine done_ (done_of HT_.out (by kernel_rfl)) ?_
           try go_wp2
           go_roundg k3
           case measure => have := HK1.out; have := HJ4.out; have := HK3.out; omega
           case rel => exact ⟨(wrap64 (q0 + 1)), (by first | rfl | (simp; done) | (simp [*]; done)), H', ⟨by have := HK1.out; have := HJ4.out; have := HK3.out; omega⟩, ⟨ub b0.out⟩, ⟨bl⟩⟩
         ·have g3 : decide (q0 < (l0.length : Int)) = false := decide_eq_false c28
          clear c28
          have H' := mk H
          clear H
          go_wp2
          go_roundg k3
          case measure => have := HK1.out; have := HJ4.out; have := HK3.out; omega
          case rel => exact ⟨(wrap64 (d0 + 1)), (by first | rfl | (simp; done) | (simp [*]; done)), H', ⟨by have := HK1.out; have := HJ4.out; have := HK3.out; omega⟩, ⟨bl⟩⟩
   ·have d4 : decide (d0 < (l1.length : Int)) = false := decide_eq_false c3
    clear c3
    obtain rfl := Option.some.inj H
    go_wp2
    go_ret
    exact ⟨rx, bl⟩

end Go.Proofs.Ytlikcmonejefoab.PFnRipples
