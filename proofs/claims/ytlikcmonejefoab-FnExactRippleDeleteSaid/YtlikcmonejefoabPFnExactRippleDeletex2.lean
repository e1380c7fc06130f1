-- printed by a program of this session, a turned copy of the print of the kit
import Derived.Test.YtlikcmonejefoabSq
import Derived.Test.YtlikcmonejefoabPFnExactRippleDeletex0
import Derived.Test.YtlikcmonejefoabPFnExactRippleDeletex1
namespace Go.Proofs.Ytlikcmonejefoab.PFnExactRippleDelete
open Go.RowKit Go.Proofs.YtlikcmonejefoabW.PrintWords Go.Proofs.YtlikcmonejefoabW.PrintLast Go.Proofs.YtlikcmonejefoabW.PrintMore Go.Proofs.Ytlikcmonejefoab.Sq
attribute [local go_sem] max2_int min2_int max_two min_two max_three min_three max_four min_four Giv.cell_twice   -- for this text's walks alone
set_option linter.unusedVariables false
set_option linter.unusedSimpArgs false

/-! ### spec_l4Pivots: function 56 -/
mutual
def spec_l4Pivots.l0 : Nat → List Int → List (S50) → Int → Option (Bool)
 | 0, _, _, _ => none
 | k + 1, x0, x1, x5 => if x5 < (x1.length : Int) then (if 0 ≤ x5 then ((spec_l1In.f ((rd_T50 x1 x5).f0) (-1000) 1000).bind fun q2 => (if q2 = true then ((spec_l1In.f ((rd_T50 x1 x5).f1) 0 (x0.length : Int)).bind fun b2 => (if b2 = true then (if x5 > 0 then (if 0 ≤ (wrap64 (x5 - 1)) then (if (wrap64 (x5 - 1)) < (x1.length : Int) then (if ((rd_T50 x1 x5).f0) ≤ ((rd_T50 x1 (wrap64 (x5 - 1))).f0) then (spec_l4Pivots.j1 k x0 x1 x5 true ((rd_T50 x1 x5).f0) ((rd_T50 x1 x5).f1)) else (spec_l4Pivots.j1 k x0 x1 x5 (decide (((rd_T50 x1 x5).f1) < ((rd_T50 x1 (wrap64 (x5 - 1))).f1))) ((rd_T50 x1 x5).f0) ((rd_T50 x1 x5).f1))) else (none)) else (none)) else (spec_l4Pivots.j1 k x0 x1 x5 false ((rd_T50 x1 x5).f0) ((rd_T50 x1 x5).f1))) else (spec_l4Pivots.j1 k x0 x1 x5 true ((rd_T50 x1 x5).f0) ((rd_T50 x1 x5).f1)))) else (spec_l4Pivots.j1 k x0 x1 x5 true ((rd_T50 x1 x5).f0) ((rd_T50 x1 x5).f1)))) else (none)) else (some true)
def spec_l4Pivots.j1 : Nat → List Int → List (S50) → Int → Bool → Int → Int → Option (Bool)
 | 0, _, _, _, _, _, _ => none
 | k + 1, x0, x1, x5, x55, m1, g1 => if x55 = true then (some false) else (spec_l4Pivots.l1 k x0 x1 x5 0 m1 g1)
def spec_l4Pivots.l1 : Nat → List Int → List (S50) → Int → Int → Int → Int → Option (Bool)
 | 0, _, _, _, _, _, _ => none
 | k + 1, x0, x1, x5, x7, m1, g1 => if x7 < (x0.length : Int) then (if 0 ≤ x7 then (if ((decide ((rd x0 x7) < m1)) != (decide (x7 < g1))) = true then (some false) else (spec_l4Pivots.l1 k x0 x1 x5 (wrap64 (x7 + 1)) m1 g1)) else (none)) else (spec_l4Pivots.l0 k x0 x1 (wrap64 (x5 + 1)))
end
def spec_l4Pivots.f (k : Nat) (l0 : List Int) (l1 : List (S50)) : Option (Bool) := spec_l4Pivots.l0 k l0 l1 0
theorem spec_l4Pivots.mono_l : ∀ k, (∀ y0 y1 y2, LeO (spec_l4Pivots.l0 k y0 y1 y2) (spec_l4Pivots.l0 (k + 1) y0 y1 y2)) ∧ (∀ y0 y1 y2 y3 y4 y5, LeO (spec_l4Pivots.j1 k y0 y1 y2 y3 y4 y5) (spec_l4Pivots.j1 (k + 1) y0 y1 y2 y3 y4 y5)) ∧ (∀ y0 y1 y2 y3 y4 y5, LeO (spec_l4Pivots.l1 k y0 y1 y2 y3 y4 y5) (spec_l4Pivots.l1 (k + 1) y0 y1 y2 y3 y4 y5))
 | 0 => ⟨fun _ _ _ r h => by simp [spec_l4Pivots.l0] at h, fun _ _ _ _ _ _ r h => by simp [spec_l4Pivots.j1] at h, fun _ _ _ _ _ _ r h => by simp [spec_l4Pivots.l1] at h⟩
 | k + 1 => by
  obtain ⟨ih0, ih1, ih2⟩ := spec_l4Pivots.mono_l k
  refine ⟨?_, ?_, ?_⟩
  ·intro y0 y1 y2
   unfold spec_l4Pivots.l0
   repeat' first
   | (with_reducible exact ih0 _ _ _)
   | (with_reducible exact ih1 _ _ _ _ _ _)
   | (with_reducible exact ih2 _ _ _ _ _ _)
   | (with_reducible exact LeO.refl _)
   | (with_reducible exact LeO.none _)
   | (with_reducible refine LeO.ite ?_ ?_)
   | (with_reducible refine LeO.bind ?_ (fun _ => ?_))
   | exact ih0 _ _ _
   | exact ih1 _ _ _ _ _ _
   | exact ih2 _ _ _ _ _ _
   | exact LeO.none _
   | refine LeO.ite ?_ ?_
   | refine LeO.bind ?_ (fun _ => ?_)
  ·intro y0 y1 y2 y3 y4 y5
   unfold spec_l4Pivots.j1
   repeat' first
   | (with_reducible exact ih0 _ _ _)
   | (with_reducible exact ih1 _ _ _ _ _ _)
   | (with_reducible exact ih2 _ _ _ _ _ _)
   | (with_reducible exact LeO.refl _)
   | (with_reducible exact LeO.none _)
   | (with_reducible refine LeO.ite ?_ ?_)
   | (with_reducible refine LeO.bind ?_ (fun _ => ?_))
   | exact ih0 _ _ _
   | exact ih1 _ _ _ _ _ _
   | exact ih2 _ _ _ _ _ _
   | exact LeO.none _
   | refine LeO.ite ?_ ?_
   | refine LeO.bind ?_ (fun _ => ?_)
  ·intro y0 y1 y2 y3 y4 y5
   unfold spec_l4Pivots.l1
   repeat' first
   | (with_reducible exact ih0 _ _ _)
   | (with_reducible exact ih1 _ _ _ _ _ _)
   | (with_reducible exact ih2 _ _ _ _ _ _)
   | (with_reducible exact LeO.refl _)
   | (with_reducible exact LeO.none _)
   | (with_reducible refine LeO.ite ?_ ?_)
   | (with_reducible refine LeO.bind ?_ (fun _ => ?_))
   | exact ih0 _ _ _
   | exact ih1 _ _ _ _ _ _
   | exact ih2 _ _ _ _ _ _
   | exact LeO.none _
   | refine LeO.ite ?_ ?_
   | refine LeO.bind ?_ (fun _ => ?_)
theorem spec_l4Pivots.mono : ∀ a0 a1 k, LeO (spec_l4Pivots.f k a0 a1) (spec_l4Pivots.f (k + 1) a0 a1) := by
 intro a0 a1 k
 obtain ⟨ih0,ih1,ih2⟩:= spec_l4Pivots.mono_l k
 unfold spec_l4Pivots.f
 repeat' first
  |(with_reducible exact ih0 _ _ _)
  |(with_reducible exact ih1 _ _ _ _ _ _)
  |(with_reducible exact ih2 _ _ _ _ _ _)
  |(with_reducible exact LeO.refl _)
  |(with_reducible exact LeO.none _)
  |(with_reducible refine LeO.ite ?_ ?_)
  |(with_reducible refine LeO.bind ?_ (fun _ => ?_))
  |exact ih0 _ _ _
  |exact ih1 _ _ _ _ _ _
  |exact ih2 _ _ _ _ _ _
  |exact LeO.none _
  |refine LeO.ite ?_ ?_
  |refine LeO.bind ?_ (fun _ => ?_)
def spec_l4Pivots.T5 : Bool × List (List Nat × List Nat) := (true, [([], []), ([0], [0]), ([1], [1]), ([2], [2]), ([3, 2], [3]), ([4], [4]), ([5, 4], [4, 5]), ([4], [4]), ([7, 4], [4, 7]), ([6, 8, 4, 4], [4, 6, 8]), ([9, 4], [4, 9]), ([4, 10], [4, 10]), ([11, 9], [11]), ([12], [12]), ([13, 12], [12, 13]), ([14, 12, 12], [12, 14]), ([15], [15]), ([16, 15], [15, 16]), ([15], [15]), ([15], [15]), ([19, 15], [15, 19]), ([18, 20, 15], [15, 18, 20]), ([21, 15], [15, 21]), ([22, 15], [15, 22]), ([17, 23, 15], [15, 17, 23]), ([24, 15, 15], [15, 24]), ([25], [25]), ([26, 25], [25, 26]), ([25], [25]), ([25], [25]), ([29, 25], [25, 29]), ([28, 30, 25], [25, 28, 30]), ([31, 25], [25, 31]), ([32, 25], [25, 32]), ([27, 33, 25], [25, 27, 33]), ([25, 34, 15], [15, 25, 34]), ([15, 35, 12], [12, 15, 35]), ([12, 36], [12, 36])])
def spec_l4Pivots.B5 : List Nat := [0, 1, 3, 7, 15, 31, 63, 31, 159, 511, 1023, 2047, 4095, 8191, 16383, 32767, 65535, 131071, 65535, 65535, 589823, 1900543, 3997695, 8191999, 16777215, 33554431, 67108863, 134217727, 67108863, 67108863, 603979775, 1946157055, 4093640703, 8388607999, 17179869183, 34359738367, 68719476735, 137438953471]
theorem spec_l4Pivots.tab5 : rtab .any (opsOf Try.f56 5) = spec_l4Pivots.T5 := by kernel_rfl
theorem spec_l4Pivots.bits5 : waitsOk spec_l4Pivots.T5.2 spec_l4Pivots.B5 = true := by kernel_rfl
def spec_l4Pivots.T10 : Bool × List (List Nat × List Nat) := (true, [([], []), ([], []), ([0, 1], [0, 1]), ([2], [2]), ([], []), ([4], [4]), ([3, 5], [3, 5]), ([], []), ([], []), ([8], [8]), ([7, 9], [7, 9]), ([6, 10], [6, 10])])
def spec_l4Pivots.B10 : List Nat := [0, 0, 3, 7, 0, 16, 63, 0, 0, 256, 896, 2047]
theorem spec_l4Pivots.tab10 : rtab .any (opsOf Try.f56 10) = spec_l4Pivots.T10 := by kernel_rfl
theorem spec_l4Pivots.bits10 : waitsOk spec_l4Pivots.T10.2 spec_l4Pivots.B10 = true := by kernel_rfl
set_option maxHeartbeats 8000000 in
set_option maxRecDepth 100000 in
theorem spec_l4Pivots.calls (k : Nat) (A0 : Option Addr) (c0 : Nat) (l0 : List Int) (A1 : Option Addr) (c1 : Nat) (l1 : List (S50)) (r : Bool) (w : World) (hr0 : Kd.C (Kd.int .i64) w A0 l0.length l0) (hc0 : l0.length ≤ c0) (hr1 : Kd.C k50 w A1 l1.length l1) (hc1 : l1.length ≤ c1) (h : spec_l4Pivots.f k l0 l1 = some r) :
  Calls Try.prog 56 #[.slice A0 l0.length c0, .slice A1 l1.length c1] w fun e w' => e = .returned (.bool r) ∧ Below w.heap.size w w' := by
 have hu50:= Try.underlying50
 have HR0:= mk hr0
 have HC0:= mk hc0
 clear hr0 hc0
 have HR1:= mk hr1
 have HC1:= mk hc1
 clear hr1 hc1
 have HB:= mk (Below.refl w.heap.size w)
 have H : (spec_l4Pivots.l0 k l0 l1 0) = some r:= h
 clear h
 have H':= mk H
 clear H
 go_enter Try.func56,Try.ntmps56
 go_wp2
 go_loopg [5] k (fun kq v5 w' => ∃ (b0 : Int),v5 = .int .i64 b0 ∧ Aside0 (spec_l4Pivots.l0 kq l0 l1 b0 = some r) ∧ Aside0 (kq ≤ k) ∧ Aside0 (Below w.heap.size w w'))
 case atStart => exact ⟨(0),(by first|rfl|(simp;done)|(simp [*];done)),H',⟨Nat.le_refl _⟩,⟨by repeat (first|(with_reducible first|exact HB.out|apply below_alloc|apply pw_below_drewN|apply below_drew1)|exact HB.out)⟩⟩
 case round =>
  clear H'
  try clear c1
  try clear p2
  obtain ⟨b0,rfl,HA,HK1,HB⟩:= hrel
  cases gk with
 |zero => exact absurd HA.out (by simp [spec_l4Pivots.l0])
 |succ k1 =>
   have H:= HA.out
   clear HA
   simp only [spec_l4Pivots.l0] at H
   by_cases c3 : b0 < (l1.length : Int)
   ·rw [if_pos c3] at H
    have q4 : decide (b0 < (l1.length : Int)) = true:= decide_eq_true c3
    clear c3
    by_cases c4 : 0 ≤ b0
    ·rw [if_pos c4] at H
     have g5 : decide (0 ≤ b0) = true:= decide_eq_true c4
     clear c4
     have HC5:= mk H
     clear H
     have b3 : 0 ≤ (b0 : Int):= of_decide_eq_true (by first|(with_reducible assumption)|assumption)
     have z2 : b0 < (l1.length : Int):= of_decide_eq_true (by first|(with_reducible assumption)|assumption)
     obtain ⟨z0,o4,q1,o1⟩:= at_T50 HR1.out b0 b3 z2
     cases o4
     replace q1:= (HB.out.cell (World.block_lt_of_cell? w _ q1)).trans q1
     replace o1:= (HB.out.cell (World.block_lt_of_cell? w _ o1)).trans o1
     replace b3:= eq_true b3
     replace z2:= eq_true z2
     go_upto_region 5 with (first|((with_reducible refine gate_dst (N:= 6) rfl ?_);(try (refine gate_guard (by rfl) ?_;dsimp only));refine box_event ?hg (N:= 6) ?hd (cs:= #[.int .i64 0,.int .i64 0]) (t:= 50) ?hr ?_;(case hd => rfl);(case hg => rfl);(case hr => first|(go_simp;done)|(go_simp;rfl));intro g0 hg w6 hbox hb;have n0_:= mk (below_step (by repeat (first|(with_reducible first|exact HB.out|apply below_alloc|apply pw_below_drewN|apply below_drew1)|exact HB.out)) hb);have n1_:= mk (hbox);have n2_:= mk ((by rw [hg];exact (below_size (by repeat (first|(with_reducible first|exact HB.out|apply below_alloc|apply pw_below_drewN|apply below_drew1)|exact HB.out))) : w.heap.size ≤ g0));have n3_:= mk ((by rw [hg];exact (below_size (by repeat (first|(with_reducible first|exact HB.out|apply below_alloc|apply pw_below_drewN|apply below_drew1)|exact HB.out))) : w.heap.size ≤ g0));clear HB;have HB:= n0_;have d0:= n1_;have d5:= n2_;have v0:= n3_;clear n0_ n1_ n2_ n3_;clear hb hbox hg;have j4 : w6.cell? ⟨g0,0,none⟩ = some (.int .i64 0):= (blk_cell d0.out 0).trans rfl;have g4 : w6.cell? ⟨g0,1,none⟩ = some (.int .i64 0):= (blk_cell d0.out 1).trans rfl;have d4:= blk_frozen d0.out 0;have b4:= blk_frozen d0.out 1))
     (try simp only [Act.put,List.setIfInBounds_toArray,List.set_cons_zero,List.set_cons_succ])
     go_cut [55] (fun v55 wc => ∃ (kq : Nat) (a2 : Bool),v55 = .bool a2 ∧ Aside0 (spec_l4Pivots.j1 kq l0 l1 b0 a2 ((rd_T50 l1 b0).f0) ((rd_T50 l1 b0).f1) = some r) ∧ Aside0 (kq ≤ k1) ∧ Aside0 (wc.heap[g0]? = some (.cells #[.int .i64 ((rd_T50 l1 b0).f0),.int .i64 ((rd_T50 l1 b0).f1)] 50 (0,0))) ∧ Aside0 (Below w.heap.size w wc))
     case first =>
      have H:= HC5.out
      clear HC5
      replace H:= Option.bind_eq_some_iff.mp H
      obtain ⟨q2,A80,H⟩:= H
      replace H : (if q2 = true then ((spec_l1In.f ((rd_T50 l1 b0).f1) 0 (l0.length : Int)).bind fun b2 => (if b2 = true then (if b0 > 0 then (if 0 ≤ (wrap64 (b0 - 1)) then (if (wrap64 (b0 - 1)) < (l1.length : Int) then (if ((rd_T50 l1 b0).f0) ≤ ((rd_T50 l1 (wrap64 (b0 - 1))).f0) then (spec_l4Pivots.j1 k1 l0 l1 b0 true ((rd_T50 l1 b0).f0) ((rd_T50 l1 b0).f1)) else (spec_l4Pivots.j1 k1 l0 l1 b0 (decide (((rd_T50 l1 b0).f1) < ((rd_T50 l1 (wrap64 (b0 - 1))).f1))) ((rd_T50 l1 b0).f0) ((rd_T50 l1 b0).f1))) else (none)) else (none)) else (spec_l4Pivots.j1 k1 l0 l1 b0 false ((rd_T50 l1 b0).f0) ((rd_T50 l1 b0).f1))) else (spec_l4Pivots.j1 k1 l0 l1 b0 true ((rd_T50 l1 b0).f0) ((rd_T50 l1 b0).f1)))) else (spec_l4Pivots.j1 k1 l0 l1 b0 true ((rd_T50 l1 b0).f0) ((rd_T50 l1 b0).f1))) = some r:= H
      have A8:= mk A80
      clear A80
      by_cases c9 : q2 = true
      ·subst c9
       have H1 : ((spec_l1In.f ((rd_T50 l1 b0).f1) 0 (l0.length : Int)).bind fun b2 => (if b2 = true then (if b0 > 0 then (if 0 ≤ (wrap64 (b0 - 1)) then (if (wrap64 (b0 - 1)) < (l1.length : Int) then (if ((rd_T50 l1 b0).f0) ≤ ((rd_T50 l1 (wrap64 (b0 - 1))).f0) then (spec_l4Pivots.j1 k1 l0 l1 b0 true ((rd_T50 l1 b0).f0) ((rd_T50 l1 b0).f1)) else (spec_l4Pivots.j1 k1 l0 l1 b0 (decide (((rd_T50 l1 b0).f1) < ((rd_T50 l1 (wrap64 (b0 - 1))).f1))) ((rd_T50 l1 b0).f0) ((rd_T50 l1 b0).f1))) else (none)) else (none)) else (spec_l4Pivots.j1 k1 l0 l1 b0 false ((rd_T50 l1 b0).f0) ((rd_T50 l1 b0).f1))) else (spec_l4Pivots.j1 k1 l0 l1 b0 true ((rd_T50 l1 b0).f0) ((rd_T50 l1 b0).f1)))) = some r:= by rw [if_pos rfl] at H;exact H
       clear H
       have H:= H1
       clear H1
       replace H:= Option.bind_eq_some_iff.mp H
       obtain ⟨b2,k4,H⟩:= H
       replace H : (if b2 = true then (if b0 > 0 then (if 0 ≤ (wrap64 (b0 - 1)) then (if (wrap64 (b0 - 1)) < (l1.length : Int) then (if ((rd_T50 l1 b0).f0) ≤ ((rd_T50 l1 (wrap64 (b0 - 1))).f0) then (spec_l4Pivots.j1 k1 l0 l1 b0 true ((rd_T50 l1 b0).f0) ((rd_T50 l1 b0).f1)) else (spec_l4Pivots.j1 k1 l0 l1 b0 (decide (((rd_T50 l1 b0).f1) < ((rd_T50 l1 (wrap64 (b0 - 1))).f1))) ((rd_T50 l1 b0).f0) ((rd_T50 l1 b0).f1))) else (none)) else (none)) else (spec_l4Pivots.j1 k1 l0 l1 b0 false ((rd_T50 l1 b0).f0) ((rd_T50 l1 b0).f1))) else (spec_l4Pivots.j1 k1 l0 l1 b0 true ((rd_T50 l1 b0).f0) ((rd_T50 l1 b0).f1))) = some r:= H
       have A10:= mk k4
       clear k4
       by_cases c11 : b2 = true
       ·subst c11
        have H1 : (if b0 > 0 then (if 0 ≤ (wrap64 (b0 - 1)) then (if (wrap64 (b0 - 1)) < (l1.length : Int) then (if ((rd_T50 l1 b0).f0) ≤ ((rd_T50 l1 (wrap64 (b0 - 1))).f0) then (spec_l4Pivots.j1 k1 l0 l1 b0 true ((rd_T50 l1 b0).f0) ((rd_T50 l1 b0).f1)) else (spec_l4Pivots.j1 k1 l0 l1 b0 (decide (((rd_T50 l1 b0).f1) < ((rd_T50 l1 (wrap64 (b0 - 1))).f1))) ((rd_T50 l1 b0).f0) ((rd_T50 l1 b0).f1))) else (none)) else (none)) else (spec_l4Pivots.j1 k1 l0 l1 b0 false ((rd_T50 l1 b0).f0) ((rd_T50 l1 b0).f1))) = some r:= by rw [if_pos rfl] at H;exact H
        clear H
        have H:= H1
        clear H1
        by_cases c12 : b0 > 0
        ·rw [if_pos c12] at H
         have z1 : decide (0 < b0) = true:= decide_eq_true c12
         clear c12
         (first|rw [z1]|(simp only [i64_w,i32_w];rw [z1])|skip)
         obtain ⟨o0,v1⟩ : ∃ j_ : Int,(wrap64 (b0 - 1)) = j_:= ⟨_,rfl⟩
         replace H : (if 0 ≤ (o0) then (if (o0) < (l1.length : Int) then (if ((rd_T50 l1 b0).f0) ≤ ((rd_T50 l1 (o0)).f0) then (spec_l4Pivots.j1 k1 l0 l1 b0 true ((rd_T50 l1 b0).f0) ((rd_T50 l1 b0).f1)) else (spec_l4Pivots.j1 k1 l0 l1 b0 (decide (((rd_T50 l1 b0).f1) < ((rd_T50 l1 (o0)).f1))) ((rd_T50 l1 b0).f0) ((rd_T50 l1 b0).f1))) else (none)) else (none)) = some r:= by first|(rw [v1] at H;exact H)|(simp only [v1] at H ⊢;exact H)
         (try rw [v1] at A8)
         (try rw [v1] at A10)
         have a4 : (IntKind.i64.wrap (b0 - 1)) = o0:= (i64_w _).trans v1
         by_cases c14 : 0 ≤ (o0)
         ·rw [if_pos c14] at H
          have b5 : decide (0 ≤ (o0)) = true:= decide_eq_true c14
          clear c14
          by_cases c15 : (o0) < (l1.length : Int)
          ·rw [if_pos c15] at H
           have a5 : decide ((o0) < (l1.length : Int)) = true:= decide_eq_true c15
           clear c15
           by_cases c16 : ((rd_T50 l1 b0).f0) ≤ ((rd_T50 l1 (o0)).f0)
           ·rw [if_pos c16] at H
            have v3 : decide (((rd_T50 l1 b0).f0) ≤ ((rd_T50 l1 (o0)).f0)) = true:= decide_eq_true c16
            clear c16
            have H':= mk H
            clear H
            try go_wp2
            have n0_ : Aside0 (((w6.setCell ⟨g0,0,none⟩ (.int .i64 ((rd_T50 l1 b0).f0))).setCell ⟨g0,1,none⟩ (.int .i64 ((rd_T50 l1 b0).f1))).heap[g0]? = some (.cells #[.int .i64 ((rd_T50 l1 b0).f0),.int .i64 ((rd_T50 l1 b0).f1)] 50 (0,0))):= ⟨by (with_reducible repeat (first|refine blk_drewN ?_ _|refine blk_drew ?_|refine blk_alloc ?_ _));refine blk_put (cs:= #[.int .i64 ((rd_T50 l1 b0).f0),.int .i64 0]) ?_ 1 _ rfl;(with_reducible repeat (first|refine blk_drewN ?_ _|refine blk_drew ?_|refine blk_alloc ?_ _));refine blk_put (cs:= #[.int .i64 0,.int .i64 0]) ?_ 0 _ rfl;(with_reducible repeat (first|refine blk_drewN ?_ _|refine blk_drew ?_|refine blk_alloc ?_ _));exact d0.out⟩
            have n1_ : Aside0 (Below w.heap.size w ((w6.setCell ⟨g0,0,none⟩ (.int .i64 ((rd_T50 l1 b0).f0))).setCell ⟨g0,1,none⟩ (.int .i64 ((rd_T50 l1 b0).f1)))):= ⟨by repeat (first|(with_reducible first|exact HB.out|apply below_alloc|apply pw_below_drewN|apply below_drew1|refine below_set ?_ v0.out)|exact HB.out)⟩
            (try clear d0)
            (try clear HB)
            generalize ((w6.setCell ⟨g0,0,none⟩ (.int .i64 ((rd_T50 l1 b0).f0))).setCell ⟨g0,1,none⟩ (.int .i64 ((rd_T50 l1 b0).f1))) = w17 at n0_ n1_ ⊢
            have d0:= n0_
            have HB:= n1_
            clear n0_ n1_
            have n0_:= mk (blk_drew d0.out)
            have n1_:= mk (below_drew1 HB.out)
            clear d0
            clear HB
            have d0:= n0_
            have HB:= n1_
            clear n0_ n1_
            have k2 : 0 ≤ ((o0) : Int):= of_decide_eq_true (by first|(with_reducible assumption)|assumption)
            have g2 : (o0) < (l1.length : Int):= of_decide_eq_true (by first|(with_reducible assumption)|assumption)
            obtain ⟨o2,g3,m0,k0⟩:= at_T50 HR1.out (o0) k2 g2
            have hw112_1:= k0
            have hw112_0:= m0
            obtain rfl : z0 = o2:= (by injection g3)
            replace m0:= (HB.out.cell (World.block_lt_of_cell? w _ m0)).trans m0
            replace k0:= (HB.out.cell (World.block_lt_of_cell? w _ k0)).trans k0
            replace k2:= eq_true k2
            replace g2:= eq_true g2
            refine start_ (n:= 38) (S:= fun w' => w'.cell? ⟨g0,0,none⟩ = some (.int .i64 ((rd_T50 l1 b0).f0)) ∧ w'.cell? ⟨g0,1,none⟩ = some (.int .i64 ((rd_T50 l1 b0).f1)) ∧ w'.cell? (z0.add (((o0)).toNat * 2)) = some (.int .i64 ((rd_T50 l1 (o0)).f0)) ∧ w'.cell? ⟨(z0.add (((o0)).toNat * 2)).block,(z0.add (((o0)).toNat * 2)).off + 1,none⟩ = some (.int .i64 ((rd_T50 l1 (o0)).f1))) (ds:= []) #[F_,F_,F_,F_,F_,F_,F_,F_,F_,F_,F_,F_,F_,F_,F_,F_,F_,F_,F_,F_,F_,F_,F_,F_,F_,F_,F_,F_,F_,F_,F_,F_,F_,F_,F_,F_,F_,F_] (by kernel_rfl) rfl rfl ⟨(blk_cell d0.out 0).trans rfl,(blk_cell d0.out 1).trans rfl,((HB.out.cell (World.block_lt_of_cell? w _ hw112_0)).trans hw112_0),((HB.out.cell (World.block_lt_of_cell? w _ hw112_1)).trans hw112_1)⟩ (fun hHeld => ?_);refine with_tabW spec_l4Pivots.tab5 spec_l4Pivots.bits5 (fun HT_ HW_ => ?_)
            generalize w17.drew = w18 at d0 HB m0 k0 hHeld ⊢
            refine pure_ (i:= 0) (N:= some 18) (v:= ?_) (a':= ?_) #[T_,F_,F_,F_,F_,F_,F_,F_,F_,F_,F_,F_,F_,F_,F_,F_,F_,F_,F_,F_,F_,F_,F_,F_,F_,F_,F_,F_,F_,F_,F_,F_,F_,F_,F_,F_,F_,F_] rfl rfl (any_of HT_.out (by kernel_rfl)) (fun _ _ _ h => h) (Or.inl ⟨by rfl,?_⟩) ?_ ?_
            rotate_left
            ·intro w'
             go_simp
             with_reducible rfl
            rotate_left
            ·simp only [sp,i64_w,i32_w]
             rfl
            refine take_ (i:= 1) (N:= some 19) (v:= ?_) (a':= ?_) #[T_,T_,F_,F_,F_,F_,F_,F_,F_,F_,F_,F_,F_,F_,F_,F_,F_,F_,F_,F_,F_,F_,F_,F_,F_,F_,F_,F_,F_,F_,F_,F_,F_,F_,F_,F_,F_,F_] rfl rfl (take_ofW HT_.out HW_.out (by kernel_rfl)) (fun _ _ _ h => h) (Or.inl ⟨by rfl,?_⟩) hHeld ?_ ?_
            rotate_left
            ·rintro w' ⟨s0,s1,s2,s3⟩
             go_simp
             with_reducible rfl
            rotate_left
            ·simp only [sp,i64_w,i32_w]
             rfl
            refine one_ (i:= 2) (N:= some 20) #[T_,T_,T_,F_,F_,F_,F_,F_,F_,F_,F_,F_,F_,F_,F_,F_,F_,F_,F_,F_,F_,F_,F_,F_,F_,F_,F_,F_,F_,F_,F_,F_,F_,F_,F_,F_,F_,F_] rfl rfl (one_of HT_.out (by kernel_rfl)) (by decide) (fun K hK => ?_)
            refine goes_ Try.func54 (by kernel_rfl) rfl #[.int .i64 ((rd_T50 l1 b0).f0),.int .i64 (-1000),.int .i64 1000] (by rfl) rfl rfl (by (try simp only [List.map_toArray,List.map_cons,List.map_nil]);first|done|rfl|(simp only [List.length_drop,List.length_take];rfl)) ?_
            with_reducible refine (spec_l1In.calls ((rd_T50 l1 b0).f0) (-1000) 1000 true _ A8.out).mono ?_
            rintro e w' ⟨rfl,⟨nd,rfl⟩⟩
            refine ⟨_,rfl,?_⟩
            refine hK.out _ _ ⟨(blk_cell d0.out 0).trans rfl,(blk_cell d0.out 1).trans rfl,((HB.out.cell (World.block_lt_of_cell? w _ hw112_0)).trans hw112_0),((HB.out.cell (World.block_lt_of_cell? w _ hw112_1)).trans hw112_1)⟩ (fun hHeld => ?_)
            clear hK K
            refine norm_ (a':= ?_) ?_ ?_
            rotate_left
            ·show Act.put _ (some 20) _ = _
             simp only [sp,i64_w,i32_w]
             rfl
            refine pure_ (i:= 3) (N:= some 21) (v:= ?_) (a':= ?_) #[T_,T_,T_,T_,F_,F_,F_,F_,F_,F_,F_,F_,F_,F_,F_,F_,F_,F_,F_,F_,F_,F_,F_,F_,F_,F_,F_,F_,F_,F_,F_,F_,F_,F_,F_,F_,F_,F_] rfl rfl (any_of HT_.out (by kernel_rfl)) (fun _ _ _ h => h) (Or.inl ⟨by rfl,?_⟩) ?_ ?_
            rotate_left
            ·intro w'
             go_simp
             with_reducible rfl
            rotate_left
            ·simp only [sp,i64_w,i32_w]
             rfl
            refine pure_ (i:= 4) (N:= some 22) (v:= ?_) (a':= ?_) #[T_,T_,T_,T_,T_,F_,F_,F_,F_,F_,F_,F_,F_,F_,F_,F_,F_,F_,F_,F_,F_,F_,F_,F_,F_,F_,F_,F_,F_,F_,F_,F_,F_,F_,F_,F_,F_,F_] rfl rfl (any_of HT_.out (by kernel_rfl)) (fun _ _ _ h => h) (Or.inl ⟨by rfl,?_⟩) ?_ ?_
            rotate_left
            ·intro w'
             go_simp
             with_reducible rfl
            rotate_left
            ·simp only [sp,i64_w,i32_w]
             rfl
            refine pure_ (i:= 5) (N:= some 23) (v:= ?_) (a':= ?_) #[T_,T_,T_,T_,T_,T_,F_,F_,F_,F_,F_,F_,F_,F_,F_,F_,F_,F_,F_,F_,F_,F_,F_,F_,F_,F_,F_,F_,F_,F_,F_,F_,F_,F_,F_,F_,F_,F_] rfl rfl (any_of HT_.out (by kernel_rfl)) (fun _ _ _ h => h) (Or.inl ⟨by rfl,?_⟩) ?_ ?_
            rotate_left
            ·intro w'
             go_simp
             with_reducible rfl
            rotate_left
            ·simp only [sp,i64_w,i32_w]
             rfl
            refine pure_ (i:= 7) (N:= some 25) (v:= ?_) (a':= ?_) #[T_,T_,T_,T_,T_,T_,F_,T_,F_,F_,F_,F_,F_,F_,F_,F_,F_,F_,F_,F_,F_,F_,F_,F_,F_,F_,F_,F_,F_,F_,F_,F_,F_,F_,F_,F_,F_,F_] rfl rfl (any_of HT_.out (by kernel_rfl)) (fun _ _ _ h => h) (Or.inl ⟨by rfl,?_⟩) ?_ ?_
            rotate_left
            ·intro w'
             go_simp
             with_reducible rfl
            rotate_left
            ·simp only [sp,i64_w,i32_w]
             rfl
            refine pure_ (i:= 8) (N:= some 26) (v:= ?_) (a':= ?_) #[T_,T_,T_,T_,T_,T_,F_,T_,T_,F_,F_,F_,F_,F_,F_,F_,F_,F_,F_,F_,F_,F_,F_,F_,F_,F_,F_,F_,F_,F_,F_,F_,F_,F_,F_,F_,F_,F_] rfl rfl (any_of HT_.out (by kernel_rfl)) (fun _ _ _ h => h) (Or.inl ⟨by rfl,?_⟩) ?_ ?_
            rotate_left
            ·intro w'
             go_simp
             with_reducible rfl
            rotate_left
            ·simp only [sp,i64_w,i32_w]
             rfl
            refine take_ (i:= 6) (N:= some 24) (v:= ?_) (a':= ?_) #[T_,T_,T_,T_,T_,T_,T_,T_,T_,F_,F_,F_,F_,F_,F_,F_,F_,F_,F_,F_,F_,F_,F_,F_,F_,F_,F_,F_,F_,F_,F_,F_,F_,F_,F_,F_,F_,F_] rfl rfl (take_ofW HT_.out HW_.out (by kernel_rfl)) (fun _ _ _ h => h) (Or.inl ⟨by rfl,?_⟩) hHeld ?_ ?_
            rotate_left
            ·rintro w' ⟨s0,s1,s2,s3⟩
             go_simp
             with_reducible rfl
            rotate_left
            ·simp only [sp,i64_w,i32_w]
             rfl
            refine one_ (i:= 9) (N:= some 27) #[T_,T_,T_,T_,T_,T_,T_,T_,T_,T_,F_,F_,F_,F_,F_,F_,F_,F_,F_,F_,F_,F_,F_,F_,F_,F_,F_,F_,F_,F_,F_,F_,F_,F_,F_,F_,F_,F_] rfl rfl (one_of HT_.out (by kernel_rfl)) (by decide) (fun K hK => ?_)
            refine goes_ Try.func54 (by kernel_rfl) rfl #[.int .i64 ((rd_T50 l1 b0).f1),.int .i64 0,.int .i64 (l0.length : Int)] (by rfl) rfl rfl (by (try simp only [List.map_toArray,List.map_cons,List.map_nil]);first|done|rfl|(simp only [List.length_drop,List.length_take];rfl)) ?_
            with_reducible refine (spec_l1In.calls ((rd_T50 l1 b0).f1) 0 (l0.length : Int) true _ A10.out).mono ?_
            rintro e w' ⟨rfl,⟨nd,rfl⟩⟩
            refine ⟨_,rfl,?_⟩
            refine hK.out _ _ ⟨(blk_cell d0.out 0).trans rfl,(blk_cell d0.out 1).trans rfl,((HB.out.cell (World.block_lt_of_cell? w _ hw112_0)).trans hw112_0),((HB.out.cell (World.block_lt_of_cell? w _ hw112_1)).trans hw112_1)⟩ (fun hHeld => ?_)
            clear hK K
            refine norm_ (a':= ?_) ?_ ?_
            rotate_left
            ·show Act.put _ (some 27) _ = _
             simp only [sp,i64_w,i32_w]
             rfl
            refine pure_ (i:= 10) (N:= some 28) (v:= ?_) (a':= ?_) #[T_,T_,T_,T_,T_,T_,T_,T_,T_,T_,T_,F_,F_,F_,F_,F_,F_,F_,F_,F_,F_,F_,F_,F_,F_,F_,F_,F_,F_,F_,F_,F_,F_,F_,F_,F_,F_,F_] rfl rfl (any_of HT_.out (by kernel_rfl)) (fun _ _ _ h => h) (Or.inl ⟨by rfl,?_⟩) ?_ ?_
            rotate_left
            ·intro w'
             go_simp
             with_reducible rfl
            rotate_left
            ·simp only [sp,i64_w,i32_w]
             rfl
            refine pure_ (i:= 11) (N:= some 29) (v:= ?_) (a':= ?_) #[T_,T_,T_,T_,T_,T_,T_,T_,T_,T_,T_,T_,F_,F_,F_,F_,F_,F_,F_,F_,F_,F_,F_,F_,F_,F_,F_,F_,F_,F_,F_,F_,F_,F_,F_,F_,F_,F_] rfl rfl (any_of HT_.out (by kernel_rfl)) (fun _ _ _ h => h) (Or.inl ⟨by rfl,?_⟩) ?_ ?_
            rotate_left
            ·intro w'
             go_simp
             with_reducible rfl
            rotate_left
            ·simp only [sp,i64_w,i32_w]
             rfl
            refine pure_ (i:= 12) (N:= some 30) (v:= ?_) (a':= ?_) #[T_,T_,T_,T_,T_,T_,T_,T_,T_,T_,T_,T_,T_,F_,F_,F_,F_,F_,F_,F_,F_,F_,F_,F_,F_,F_,F_,F_,F_,F_,F_,F_,F_,F_,F_,F_,F_,F_] rfl rfl (any_of HT_.out (by kernel_rfl)) (fun _ _ _ h => h) (Or.inl ⟨by rfl,?_⟩) ?_ ?_
            rotate_left
            ·intro w'
             go_simp
             with_reducible rfl
            rotate_left
            ·simp only [sp,i64_w,i32_w]
             rfl
            refine pure_ (i:= 13) (N:= some 31) (v:= ?_) (a':= ?_) #[T_,T_,T_,T_,T_,T_,T_,T_,T_,T_,T_,T_,T_,T_,F_,F_,F_,F_,F_,F_,F_,F_,F_,F_,F_,F_,F_,F_,F_,F_,F_,F_,F_,F_,F_,F_,F_,F_] rfl rfl (any_of HT_.out (by kernel_rfl)) (fun _ _ _ h => h) (Or.inl ⟨by rfl,?_⟩) ?_ ?_
            rotate_left
            ·intro w'
             go_simp
             with_reducible rfl
            rotate_left
            ·simp only [sp,i64_w,i32_w]
             rfl
            refine pure_ (i:= 14) (N:= some 32) (v:= ?_) (a':= ?_) #[T_,T_,T_,T_,T_,T_,T_,T_,T_,T_,T_,T_,T_,T_,T_,F_,F_,F_,F_,F_,F_,F_,F_,F_,F_,F_,F_,F_,F_,F_,F_,F_,F_,F_,F_,F_,F_,F_] rfl rfl (any_of HT_.out (by kernel_rfl)) (fun _ _ _ h => h) (Or.inl ⟨by rfl,?_⟩) ?_ ?_
            rotate_left
            ·intro w'
             go_simp
             with_reducible rfl
            rotate_left
            ·simp only [sp,i64_w,i32_w]
             rfl
            refine pure_ (i:= 15) (N:= some 33) (v:= ?_) (a':= ?_) #[T_,T_,T_,T_,T_,T_,T_,T_,T_,T_,T_,T_,T_,T_,T_,T_,F_,F_,F_,F_,F_,F_,F_,F_,F_,F_,F_,F_,F_,F_,F_,F_,F_,F_,F_,F_,F_,F_] rfl rfl (any_of HT_.out (by kernel_rfl)) (fun _ _ _ h => h) (Or.inl ⟨by rfl,?_⟩) ?_ ?_
            rotate_left
            ·intro w'
             go_simp
             with_reducible rfl
            rotate_left
            ·simp only [sp,i64_w,i32_w]
             rfl
            refine pure_ (i:= 16) (N:= some 34) (v:= ?_) (a':= ?_) #[T_,T_,T_,T_,T_,T_,T_,T_,T_,T_,T_,T_,T_,T_,T_,T_,T_,F_,F_,F_,F_,F_,F_,F_,F_,F_,F_,F_,F_,F_,F_,F_,F_,F_,F_,F_,F_,F_] rfl rfl (any_of HT_.out (by kernel_rfl)) (fun _ _ _ h => h) (Or.inl ⟨by rfl,?_⟩) ?_ ?_
            rotate_left
            ·intro w'
             go_simp
             with_reducible rfl
            rotate_left
            ·simp only [sp,i64_w,i32_w]
             rfl
            refine pure_ (i:= 18) (N:= some 36) (v:= ?_) (a':= ?_) #[T_,T_,T_,T_,T_,T_,T_,T_,T_,T_,T_,T_,T_,T_,T_,T_,T_,F_,T_,F_,F_,F_,F_,F_,F_,F_,F_,F_,F_,F_,F_,F_,F_,F_,F_,F_,F_,F_] rfl rfl (any_of HT_.out (by kernel_rfl)) (fun _ _ _ h => h) (Or.inl ⟨by rfl,?_⟩) ?_ ?_
            rotate_left
            ·intro w'
             go_simp
             with_reducible rfl
            rotate_left
            ·simp only [sp,i64_w,i32_w]
             rfl
            refine pure_ (i:= 19) (N:= some 37) (v:= ?_) (a':= ?_) #[T_,T_,T_,T_,T_,T_,T_,T_,T_,T_,T_,T_,T_,T_,T_,T_,T_,F_,T_,T_,F_,F_,F_,F_,F_,F_,F_,F_,F_,F_,F_,F_,F_,F_,F_,F_,F_,F_] rfl rfl (any_of HT_.out (by kernel_rfl)) (fun _ _ _ h => h) (Or.inl ⟨by rfl,?_⟩) ?_ ?_
            rotate_left
            ·intro w'
             go_simp
             with_reducible rfl
            rotate_left
            ·simp only [sp,i64_w,i32_w]
             rfl
            refine pure_ (i:= 20) (N:= some 38) (v:= ?_) (a':= ?_) #[T_,T_,T_,T_,T_,T_,T_,T_,T_,T_,T_,T_,T_,T_,T_,T_,T_,F_,T_,T_,T_,F_,F_,F_,F_,F_,F_,F_,F_,F_,F_,F_,F_,F_,F_,F_,F_,F_] rfl rfl (any_of HT_.out (by kernel_rfl)) (fun _ _ _ h => h) (Or.inl ⟨by rfl,?_⟩) ?_ ?_
            rotate_left
            ·intro w'
             go_simp
             with_reducible rfl
            rotate_left
            ·simp only [sp,i64_w,i32_w]
             rfl
            refine pure_ (i:= 21) (N:= some 39) (v:= ?_) (a':= ?_) #[T_,T_,T_,T_,T_,T_,T_,T_,T_,T_,T_,T_,T_,T_,T_,T_,T_,F_,T_,T_,T_,T_,F_,F_,F_,F_,F_,F_,F_,F_,F_,F_,F_,F_,F_,F_,F_,F_] rfl rfl (any_of HT_.out (by kernel_rfl)) (fun _ _ _ h => h) (Or.inl ⟨by rfl,?_⟩) ?_ ?_
            rotate_left
            ·intro w'
             go_simp
             with_reducible rfl
            rotate_left
            ·simp only [sp,i64_w,i32_w]
             rfl
            refine pure_ (i:= 22) (N:= some 40) (v:= ?_) (a':= ?_) #[T_,T_,T_,T_,T_,T_,T_,T_,T_,T_,T_,T_,T_,T_,T_,T_,T_,F_,T_,T_,T_,T_,T_,F_,F_,F_,F_,F_,F_,F_,F_,F_,F_,F_,F_,F_,F_,F_] rfl rfl (any_of HT_.out (by kernel_rfl)) (fun _ _ _ h => h) (Or.inl ⟨by rfl,?_⟩) ?_ ?_
            rotate_left
            ·intro w'
             go_simp
             with_reducible rfl
            rotate_left
            ·simp only [sp,i64_w,i32_w]
             rfl
            refine take_ (i:= 17) (N:= some 35) (v:= ?_) (a':= ?_) #[T_,T_,T_,T_,T_,T_,T_,T_,T_,T_,T_,T_,T_,T_,T_,T_,T_,T_,T_,T_,T_,T_,T_,F_,F_,F_,F_,F_,F_,F_,F_,F_,F_,F_,F_,F_,F_,F_] rfl rfl (take_ofW HT_.out HW_.out (by kernel_rfl)) (fun _ _ _ h => h) (Or.inl ⟨by rfl,?_⟩) hHeld ?_ ?_
            rotate_left
            ·rintro w' ⟨s0,s1,s2,s3⟩
             go_simp
             with_reducible rfl
            rotate_left
            ·simp only [sp,i64_w,i32_w]
             rfl
            refine take_ (i:= 23) (N:= some 41) (v:= ?_) (a':= ?_) #[T_,T_,T_,T_,T_,T_,T_,T_,T_,T_,T_,T_,T_,T_,T_,T_,T_,T_,T_,T_,T_,T_,T_,T_,F_,F_,F_,F_,F_,F_,F_,F_,F_,F_,F_,F_,F_,F_] rfl rfl (take_ofW HT_.out HW_.out (by kernel_rfl)) (fun _ _ _ h => h) (Or.inl ⟨by rfl,?_⟩) hHeld ?_ ?_
            rotate_left
            ·rintro w' ⟨s0,s1,s2,s3⟩
             go_simp
             with_reducible rfl
            rotate_left
            ·simp only [sp,i64_w,i32_w]
             rfl
            refine pure_ (i:= 24) (N:= some 42) (v:= ?_) (a':= ?_) #[T_,T_,T_,T_,T_,T_,T_,T_,T_,T_,T_,T_,T_,T_,T_,T_,T_,T_,T_,T_,T_,T_,T_,T_,T_,F_,F_,F_,F_,F_,F_,F_,F_,F_,F_,F_,F_,F_] rfl rfl (any_of HT_.out (by kernel_rfl)) (fun _ _ _ h => h) (Or.inl ⟨by rfl,?_⟩) ?_ ?_
            rotate_left
            ·intro w'
             go_simp
             with_reducible rfl
            rotate_left
            ·simp only [sp,i64_w,i32_w]
             rfl
            refine pure_ (i:= 25) (N:= some 43) (v:= ?_) (a':= ?_) #[T_,T_,T_,T_,T_,T_,T_,T_,T_,T_,T_,T_,T_,T_,T_,T_,T_,T_,T_,T_,T_,T_,T_,T_,T_,T_,F_,F_,F_,F_,F_,F_,F_,F_,F_,F_,F_,F_] rfl rfl (any_of HT_.out (by kernel_rfl)) (fun _ _ _ h => h) (Or.inl ⟨by rfl,?_⟩) ?_ ?_
            rotate_left
            ·intro w'
             go_simp
             with_reducible rfl
            rotate_left
            ·simp only [sp,i64_w,i32_w]
             rfl
            refine pure_ (i:= 26) (N:= some 44) (v:= undef) (a':= ?_) #[T_,T_,T_,T_,T_,T_,T_,T_,T_,T_,T_,T_,T_,T_,T_,T_,T_,T_,T_,T_,T_,T_,T_,T_,T_,T_,T_,F_,F_,F_,F_,F_,F_,F_,F_,F_,F_,F_] rfl rfl (any_of HT_.out (by kernel_rfl)) (fun _ _ _ h => h) (Or.inr ⟨by rfl,rfl⟩) ?_ ?_
            rotate_left
            ·simp only [sp,i64_w,i32_w]
             rfl
            refine pure_ (i:= 27) (N:= some 45) (v:= undef) (a':= ?_) #[T_,T_,T_,T_,T_,T_,T_,T_,T_,T_,T_,T_,T_,T_,T_,T_,T_,T_,T_,T_,T_,T_,T_,T_,T_,T_,T_,T_,F_,F_,F_,F_,F_,F_,F_,F_,F_,F_] rfl rfl (any_of HT_.out (by kernel_rfl)) (fun _ _ _ h => h) (Or.inr ⟨by rfl,rfl⟩) ?_ ?_
            rotate_left
            ·simp only [sp,i64_w,i32_w]
             rfl
            refine pure_ (i:= 28) (N:= some 46) (v:= undef) (a':= ?_) #[T_,T_,T_,T_,T_,T_,T_,T_,T_,T_,T_,T_,T_,T_,T_,T_,T_,T_,T_,T_,T_,T_,T_,T_,T_,T_,T_,T_,T_,F_,F_,F_,F_,F_,F_,F_,F_,F_] rfl rfl (any_of HT_.out (by kernel_rfl)) (fun _ _ _ h => h) (Or.inr ⟨by rfl,rfl⟩) ?_ ?_
            rotate_left
            ·simp only [sp,i64_w,i32_w]
             rfl
            refine pure_ (i:= 29) (N:= some 47) (v:= undef) (a':= ?_) #[T_,T_,T_,T_,T_,T_,T_,T_,T_,T_,T_,T_,T_,T_,T_,T_,T_,T_,T_,T_,T_,T_,T_,T_,T_,T_,T_,T_,T_,T_,F_,F_,F_,F_,F_,F_,F_,F_] rfl rfl (any_of HT_.out (by kernel_rfl)) (fun _ _ _ h => h) (Or.inr ⟨by rfl,rfl⟩) ?_ ?_
            rotate_left
            ·simp only [sp,i64_w,i32_w]
             rfl
            refine pure_ (i:= 30) (N:= some 48) (v:= undef) (a':= ?_) #[T_,T_,T_,T_,T_,T_,T_,T_,T_,T_,T_,T_,T_,T_,T_,T_,T_,T_,T_,T_,T_,T_,T_,T_,T_,T_,T_,T_,T_,T_,T_,F_,F_,F_,F_,F_,F_,F_] rfl rfl (any_of HT_.out (by kernel_rfl)) (fun _ _ _ h => h) (Or.inr ⟨by rfl,rfl⟩) ?_ ?_
            rotate_left
            ·simp only [sp,i64_w,i32_w]
             rfl
            refine pure_ (i:= 31) (N:= some 49) (v:= undef) (a':= ?_) #[T_,T_,T_,T_,T_,T_,T_,T_,T_,T_,T_,T_,T_,T_,T_,T_,T_,T_,T_,T_,T_,T_,T_,T_,T_,T_,T_,T_,T_,T_,T_,T_,F_,F_,F_,F_,F_,F_] rfl rfl (any_of HT_.out (by kernel_rfl)) (fun _ _ _ h => h) (Or.inr ⟨by rfl,rfl⟩) ?_ ?_
            rotate_left
            ·simp only [sp,i64_w,i32_w]
             rfl
            refine pure_ (i:= 32) (N:= some 50) (v:= undef) (a':= ?_) #[T_,T_,T_,T_,T_,T_,T_,T_,T_,T_,T_,T_,T_,T_,T_,T_,T_,T_,T_,T_,T_,T_,T_,T_,T_,T_,T_,T_,T_,T_,T_,T_,T_,F_,F_,F_,F_,F_] rfl rfl (any_of HT_.out (by kernel_rfl)) (fun _ _ _ h => h) (Or.inr ⟨by rfl,rfl⟩) ?_ ?_
            rotate_left
            ·simp only [sp,i64_w,i32_w]
             rfl
            refine pure_ (i:= 33) (N:= some 51) (v:= undef) (a':= ?_) #[T_,T_,T_,T_,T_,T_,T_,T_,T_,T_,T_,T_,T_,T_,T_,T_,T_,T_,T_,T_,T_,T_,T_,T_,T_,T_,T_,T_,T_,T_,T_,T_,T_,T_,F_,F_,F_,F_] rfl rfl (any_of HT_.out (by kernel_rfl)) (fun _ _ _ h => h) (Or.inr ⟨by rfl,rfl⟩) ?_ ?_
            rotate_left
            ·simp only [sp,i64_w,i32_w]
             rfl
            refine pure_ (i:= 34) (N:= some 52) (v:= undef) (a':= ?_) #[T_,T_,T_,T_,T_,T_,T_,T_,T_,T_,T_,T_,T_,T_,T_,T_,T_,T_,T_,T_,T_,T_,T_,T_,T_,T_,T_,T_,T_,T_,T_,T_,T_,T_,T_,F_,F_,F_] rfl rfl (any_of HT_.out (by kernel_rfl)) (fun _ _ _ h => h) (Or.inr ⟨by rfl,rfl⟩) ?_ ?_
            rotate_left
            ·simp only [sp,i64_w,i32_w]
             rfl
            refine pure_ (i:= 35) (N:= some 53) (v:= ?_) (a':= ?_) #[T_,T_,T_,T_,T_,T_,T_,T_,T_,T_,T_,T_,T_,T_,T_,T_,T_,T_,T_,T_,T_,T_,T_,T_,T_,T_,T_,T_,T_,T_,T_,T_,T_,T_,T_,T_,F_,F_] rfl rfl (any_of HT_.out (by kernel_rfl)) (fun _ _ _ h => h) (Or.inl ⟨by rfl,?_⟩) ?_ ?_
            rotate_left
            ·intro w'
             go_simp
             with_reducible rfl
            rotate_left
            ·simp only [sp,i64_w,i32_w]
             rfl
            refine pure_ (i:= 36) (N:= some 54) (v:= ?_) (a':= ?_) #[T_,T_,T_,T_,T_,T_,T_,T_,T_,T_,T_,T_,T_,T_,T_,T_,T_,T_,T_,T_,T_,T_,T_,T_,T_,T_,T_,T_,T_,T_,T_,T_,T_,T_,T_,T_,T_,F_] rfl rfl (any_of HT_.out (by kernel_rfl)) (fun _ _ _ h => h) (Or.inl ⟨by rfl,?_⟩) ?_ ?_
            rotate_left
            ·intro w'
             go_simp
             with_reducible rfl
            rotate_left
            ·simp only [sp,i64_w,i32_w]
             rfl
            refine pure_ (i:= 37) (N:= some 55) (v:= ?_) (a':= ?_) #[T_,T_,T_,T_,T_,T_,T_,T_,T_,T_,T_,T_,T_,T_,T_,T_,T_,T_,T_,T_,T_,T_,T_,T_,T_,T_,T_,T_,T_,T_,T_,T_,T_,T_,T_,T_,T_,T_] rfl rfl (any_of HT_.out (by kernel_rfl)) (fun _ _ _ h => h) (Or.inl ⟨by rfl,?_⟩) ?_ ?_
            rotate_left
            ·intro w'
             go_simp
             with_reducible rfl
            rotate_left
            ·simp only [sp,i64_w,i32_w]
             rfl
            refine done_ (done_of HT_.out (by kernel_rfl)) ?_
            try go_wp2
            go_meet
            case rel => exact ⟨_,(true),(by first|rfl|(simp;done)|(simp [*];done)),H',⟨by have:= HK1.out;first|omega|exact Nat.le_refl _⟩,⟨ub d0.out⟩,⟨by repeat (first|(with_reducible first|exact HB.out|apply below_alloc|apply pw_below_drewN|apply below_drew1|refine below_set ?_ v0.out)|exact HB.out)⟩⟩
           ·rw [if_neg c16] at H
            have v3 : decide (((rd_T50 l1 b0).f0) ≤ ((rd_T50 l1 (o0)).f0)) = false:= decide_eq_false c16
            clear c16
            have H':= mk H
            clear H
            try go_wp2
            have n0_ : Aside0 (((w6.setCell ⟨g0,0,none⟩ (.int .i64 ((rd_T50 l1 b0).f0))).setCell ⟨g0,1,none⟩ (.int .i64 ((rd_T50 l1 b0).f1))).heap[g0]? = some (.cells #[.int .i64 ((rd_T50 l1 b0).f0),.int .i64 ((rd_T50 l1 b0).f1)] 50 (0,0))):= ⟨by (with_reducible repeat (first|refine blk_drewN ?_ _|refine blk_drew ?_|refine blk_alloc ?_ _));refine blk_put (cs:= #[.int .i64 ((rd_T50 l1 b0).f0),.int .i64 0]) ?_ 1 _ rfl;(with_reducible repeat (first|refine blk_drewN ?_ _|refine blk_drew ?_|refine blk_alloc ?_ _));refine blk_put (cs:= #[.int .i64 0,.int .i64 0]) ?_ 0 _ rfl;(with_reducible repeat (first|refine blk_drewN ?_ _|refine blk_drew ?_|refine blk_alloc ?_ _));exact d0.out⟩
            have n1_ : Aside0 (Below w.heap.size w ((w6.setCell ⟨g0,0,none⟩ (.int .i64 ((rd_T50 l1 b0).f0))).setCell ⟨g0,1,none⟩ (.int .i64 ((rd_T50 l1 b0).f1)))):= ⟨by repeat (first|(with_reducible first|exact HB.out|apply below_alloc|apply pw_below_drewN|apply below_drew1|refine below_set ?_ v0.out)|exact HB.out)⟩
            (try clear d0)
            (try clear HB)
            generalize ((w6.setCell ⟨g0,0,none⟩ (.int .i64 ((rd_T50 l1 b0).f0))).setCell ⟨g0,1,none⟩ (.int .i64 ((rd_T50 l1 b0).f1))) = w19 at n0_ n1_ ⊢
            have d0:= n0_
            have HB:= n1_
            clear n0_ n1_
            have n0_:= mk (blk_drew d0.out)
            have n1_:= mk (below_drew1 HB.out)
            clear d0
            clear HB
            have d0:= n0_
            have HB:= n1_
            clear n0_ n1_
            have k2 : 0 ≤ ((o0) : Int):= of_decide_eq_true (by first|(with_reducible assumption)|assumption)
            have g2 : (o0) < (l1.length : Int):= of_decide_eq_true (by first|(with_reducible assumption)|assumption)
            obtain ⟨o2,g3,m0,k0⟩:= at_T50 HR1.out (o0) k2 g2
            have hw112_1:= k0
            have hw112_0:= m0
            obtain rfl : z0 = o2:= (by injection g3)
            replace m0:= (HB.out.cell (World.block_lt_of_cell? w _ m0)).trans m0
            replace k0:= (HB.out.cell (World.block_lt_of_cell? w _ k0)).trans k0
            replace k2:= eq_true k2
            replace g2:= eq_true g2
            have a3 : 0 ≤ ((o0) : Int):= of_decide_eq_true (by first|(with_reducible assumption)|assumption)
            have v2 : (o0) < (l1.length : Int):= of_decide_eq_true (by first|(with_reducible assumption)|assumption)
            obtain ⟨z3,m4,d1,b1⟩:= at_T50 HR1.out (o0) a3 v2
            have hw113_1:= b1
            have hw113_0:= d1
            obtain rfl : z0 = z3:= (by injection m4)
            replace d1:= (HB.out.cell (World.block_lt_of_cell? w _ d1)).trans d1
            replace b1:= (HB.out.cell (World.block_lt_of_cell? w _ b1)).trans b1
            replace a3:= eq_true a3
            replace v2:= eq_true v2
            refine start_ (n:= 38) (S:= fun w' => w'.cell? ⟨g0,0,none⟩ = some (.int .i64 ((rd_T50 l1 b0).f0)) ∧ w'.cell? ⟨g0,1,none⟩ = some (.int .i64 ((rd_T50 l1 b0).f1)) ∧ w'.cell? (z0.add (((o0)).toNat * 2)) = some (.int .i64 ((rd_T50 l1 (o0)).f0)) ∧ w'.cell? ⟨(z0.add (((o0)).toNat * 2)).block,(z0.add (((o0)).toNat * 2)).off + 1,none⟩ = some (.int .i64 ((rd_T50 l1 (o0)).f1)) ∧ w'.cell? (z0.add (((o0)).toNat * 2)) = some (.int .i64 ((rd_T50 l1 (o0)).f0)) ∧ w'.cell? ⟨(z0.add (((o0)).toNat * 2)).block,(z0.add (((o0)).toNat * 2)).off + 1,none⟩ = some (.int .i64 ((rd_T50 l1 (o0)).f1))) (ds:= []) #[F_,F_,F_,F_,F_,F_,F_,F_,F_,F_,F_,F_,F_,F_,F_,F_,F_,F_,F_,F_,F_,F_,F_,F_,F_,F_,F_,F_,F_,F_,F_,F_,F_,F_,F_,F_,F_,F_] (by kernel_rfl) rfl rfl ⟨(blk_cell d0.out 0).trans rfl,(blk_cell d0.out 1).trans rfl,((HB.out.cell (World.block_lt_of_cell? w _ hw112_0)).trans hw112_0),((HB.out.cell (World.block_lt_of_cell? w _ hw112_1)).trans hw112_1),((HB.out.cell (World.block_lt_of_cell? w _ hw113_0)).trans hw113_0),((HB.out.cell (World.block_lt_of_cell? w _ hw113_1)).trans hw113_1)⟩ (fun hHeld => ?_);refine with_tabW spec_l4Pivots.tab5 spec_l4Pivots.bits5 (fun HT_ HW_ => ?_)
            generalize w19.drew = w20 at d0 HB m0 k0 d1 b1 hHeld ⊢
            refine pure_ (i:= 0) (N:= some 18) (v:= ?_) (a':= ?_) #[T_,F_,F_,F_,F_,F_,F_,F_,F_,F_,F_,F_,F_,F_,F_,F_,F_,F_,F_,F_,F_,F_,F_,F_,F_,F_,F_,F_,F_,F_,F_,F_,F_,F_,F_,F_,F_,F_] rfl rfl (any_of HT_.out (by kernel_rfl)) (fun _ _ _ h => h) (Or.inl ⟨by rfl,?_⟩) ?_ ?_
            rotate_left
            ·intro w'
             go_simp
             with_reducible rfl
            rotate_left
            ·simp only [sp,i64_w,i32_w]
             rfl
            refine take_ (i:= 1) (N:= some 19) (v:= ?_) (a':= ?_) #[T_,T_,F_,F_,F_,F_,F_,F_,F_,F_,F_,F_,F_,F_,F_,F_,F_,F_,F_,F_,F_,F_,F_,F_,F_,F_,F_,F_,F_,F_,F_,F_,F_,F_,F_,F_,F_,F_] rfl rfl (take_ofW HT_.out HW_.out (by kernel_rfl)) (fun _ _ _ h => h) (Or.inl ⟨by rfl,?_⟩) hHeld ?_ ?_
            rotate_left
            ·rintro w' ⟨s0,s1,s2,s3,s4,s5⟩
             go_simp
             with_reducible rfl
            rotate_left
            ·simp only [sp,i64_w,i32_w]
             rfl
            refine one_ (i:= 2) (N:= some 20) #[T_,T_,T_,F_,F_,F_,F_,F_,F_,F_,F_,F_,F_,F_,F_,F_,F_,F_,F_,F_,F_,F_,F_,F_,F_,F_,F_,F_,F_,F_,F_,F_,F_,F_,F_,F_,F_,F_] rfl rfl (one_of HT_.out (by kernel_rfl)) (by decide) (fun K hK => ?_)
            refine goes_ Try.func54 (by kernel_rfl) rfl #[.int .i64 ((rd_T50 l1 b0).f0),.int .i64 (-1000),.int .i64 1000] (by rfl) rfl rfl (by (try simp only [List.map_toArray,List.map_cons,List.map_nil]);first|done|rfl|(simp only [List.length_drop,List.length_take];rfl)) ?_
            with_reducible refine (spec_l1In.calls ((rd_T50 l1 b0).f0) (-1000) 1000 true _ A8.out).mono ?_
            rintro e w' ⟨rfl,⟨nd,rfl⟩⟩
            refine ⟨_,rfl,?_⟩
            refine hK.out _ _ ⟨(blk_cell d0.out 0).trans rfl,(blk_cell d0.out 1).trans rfl,((HB.out.cell (World.block_lt_of_cell? w _ hw112_0)).trans hw112_0),((HB.out.cell (World.block_lt_of_cell? w _ hw112_1)).trans hw112_1),((HB.out.cell (World.block_lt_of_cell? w _ hw113_0)).trans hw113_0),((HB.out.cell (World.block_lt_of_cell? w _ hw113_1)).trans hw113_1)⟩ (fun hHeld => ?_)
            clear hK K
            refine norm_ (a':= ?_) ?_ ?_
            rotate_left
            ·show Act.put _ (some 20) _ = _
             simp only [sp,i64_w,i32_w]
             rfl
            refine pure_ (i:= 3) (N:= some 21) (v:= ?_) (a':= ?_) #[T_,T_,T_,T_,F_,F_,F_,F_,F_,F_,F_,F_,F_,F_,F_,F_,F_,F_,F_,F_,F_,F_,F_,F_,F_,F_,F_,F_,F_,F_,F_,F_,F_,F_,F_,F_,F_,F_] rfl rfl (any_of HT_.out (by kernel_rfl)) (fun _ _ _ h => h) (Or.inl ⟨by rfl,?_⟩) ?_ ?_
            rotate_left
            ·intro w'
             go_simp
             with_reducible rfl
            rotate_left
            ·simp only [sp,i64_w,i32_w]
             rfl
            refine pure_ (i:= 4) (N:= some 22) (v:= ?_) (a':= ?_) #[T_,T_,T_,T_,T_,F_,F_,F_,F_,F_,F_,F_,F_,F_,F_,F_,F_,F_,F_,F_,F_,F_,F_,F_,F_,F_,F_,F_,F_,F_,F_,F_,F_,F_,F_,F_,F_,F_] rfl rfl (any_of HT_.out (by kernel_rfl)) (fun _ _ _ h => h) (Or.inl ⟨by rfl,?_⟩) ?_ ?_
            rotate_left
            ·intro w'
             go_simp
             with_reducible rfl
            rotate_left
            ·simp only [sp,i64_w,i32_w]
             rfl
            refine pure_ (i:= 5) (N:= some 23) (v:= ?_) (a':= ?_) #[T_,T_,T_,T_,T_,T_,F_,F_,F_,F_,F_,F_,F_,F_,F_,F_,F_,F_,F_,F_,F_,F_,F_,F_,F_,F_,F_,F_,F_,F_,F_,F_,F_,F_,F_,F_,F_,F_] rfl rfl (any_of HT_.out (by kernel_rfl)) (fun _ _ _ h => h) (Or.inl ⟨by rfl,?_⟩) ?_ ?_
            rotate_left
            ·intro w'
             go_simp
             with_reducible rfl
            rotate_left
            ·simp only [sp,i64_w,i32_w]
             rfl
            refine pure_ (i:= 7) (N:= some 25) (v:= ?_) (a':= ?_) #[T_,T_,T_,T_,T_,T_,F_,T_,F_,F_,F_,F_,F_,F_,F_,F_,F_,F_,F_,F_,F_,F_,F_,F_,F_,F_,F_,F_,F_,F_,F_,F_,F_,F_,F_,F_,F_,F_] rfl rfl (any_of HT_.out (by kernel_rfl)) (fun _ _ _ h => h) (Or.inl ⟨by rfl,?_⟩) ?_ ?_
            rotate_left
            ·intro w'
             go_simp
             with_reducible rfl
            rotate_left
            ·simp only [sp,i64_w,i32_w]
             rfl
            refine pure_ (i:= 8) (N:= some 26) (v:= ?_) (a':= ?_) #[T_,T_,T_,T_,T_,T_,F_,T_,T_,F_,F_,F_,F_,F_,F_,F_,F_,F_,F_,F_,F_,F_,F_,F_,F_,F_,F_,F_,F_,F_,F_,F_,F_,F_,F_,F_,F_,F_] rfl rfl (any_of HT_.out (by kernel_rfl)) (fun _ _ _ h => h) (Or.inl ⟨by rfl,?_⟩) ?_ ?_
            rotate_left
            ·intro w'
             go_simp
             with_reducible rfl
            rotate_left
            ·simp only [sp,i64_w,i32_w]
             rfl
            refine take_ (i:= 6) (N:= some 24) (v:= ?_) (a':= ?_) #[T_,T_,T_,T_,T_,T_,T_,T_,T_,F_,F_,F_,F_,F_,F_,F_,F_,F_,F_,F_,F_,F_,F_,F_,F_,F_,F_,F_,F_,F_,F_,F_,F_,F_,F_,F_,F_,F_] rfl rfl (take_ofW HT_.out HW_.out (by kernel_rfl)) (fun _ _ _ h => h) (Or.inl ⟨by rfl,?_⟩) hHeld ?_ ?_
            rotate_left
            ·rintro w' ⟨s0,s1,s2,s3,s4,s5⟩
             go_simp
             with_reducible rfl
            rotate_left
            ·simp only [sp,i64_w,i32_w]
             rfl
            refine one_ (i:= 9) (N:= some 27) #[T_,T_,T_,T_,T_,T_,T_,T_,T_,T_,F_,F_,F_,F_,F_,F_,F_,F_,F_,F_,F_,F_,F_,F_,F_,F_,F_,F_,F_,F_,F_,F_,F_,F_,F_,F_,F_,F_] rfl rfl (one_of HT_.out (by kernel_rfl)) (by decide) (fun K hK => ?_)
            refine goes_ Try.func54 (by kernel_rfl) rfl #[.int .i64 ((rd_T50 l1 b0).f1),.int .i64 0,.int .i64 (l0.length : Int)] (by rfl) rfl rfl (by (try simp only [List.map_toArray,List.map_cons,List.map_nil]);first|done|rfl|(simp only [List.length_drop,List.length_take];rfl)) ?_
            with_reducible refine (spec_l1In.calls ((rd_T50 l1 b0).f1) 0 (l0.length : Int) true _ A10.out).mono ?_
            rintro e w' ⟨rfl,⟨nd,rfl⟩⟩
            refine ⟨_,rfl,?_⟩
            refine hK.out _ _ ⟨(blk_cell d0.out 0).trans rfl,(blk_cell d0.out 1).trans rfl,((HB.out.cell (World.block_lt_of_cell? w _ hw112_0)).trans hw112_0),((HB.out.cell (World.block_lt_of_cell? w _ hw112_1)).trans hw112_1),((HB.out.cell (World.block_lt_of_cell? w _ hw113_0)).trans hw113_0),((HB.out.cell (World.block_lt_of_cell? w _ hw113_1)).trans hw113_1)⟩ (fun hHeld => ?_)
            clear hK K
            refine norm_ (a':= ?_) ?_ ?_
            rotate_left
            ·show Act.put _ (some 27) _ = _
             simp only [sp,i64_w,i32_w]
             rfl
            refine pure_ (i:= 10) (N:= some 28) (v:= ?_) (a':= ?_) #[T_,T_,T_,T_,T_,T_,T_,T_,T_,T_,T_,F_,F_,F_,F_,F_,F_,F_,F_,F_,F_,F_,F_,F_,F_,F_,F_,F_,F_,F_,F_,F_,F_,F_,F_,F_,F_,F_] rfl rfl (any_of HT_.out (by kernel_rfl)) (fun _ _ _ h => h) (Or.inl ⟨by rfl,?_⟩) ?_ ?_
            rotate_left
            ·intro w'
             go_simp
             with_reducible rfl
            rotate_left
            ·simp only [sp,i64_w,i32_w]
             rfl
            refine pure_ (i:= 11) (N:= some 29) (v:= ?_) (a':= ?_) #[T_,T_,T_,T_,T_,T_,T_,T_,T_,T_,T_,T_,F_,F_,F_,F_,F_,F_,F_,F_,F_,F_,F_,F_,F_,F_,F_,F_,F_,F_,F_,F_,F_,F_,F_,F_,F_,F_] rfl rfl (any_of HT_.out (by kernel_rfl)) (fun _ _ _ h => h) (Or.inl ⟨by rfl,?_⟩) ?_ ?_
            rotate_left
            ·intro w'
             go_simp
             with_reducible rfl
            rotate_left
            ·simp only [sp,i64_w,i32_w]
             rfl
            refine pure_ (i:= 12) (N:= some 30) (v:= ?_) (a':= ?_) #[T_,T_,T_,T_,T_,T_,T_,T_,T_,T_,T_,T_,T_,F_,F_,F_,F_,F_,F_,F_,F_,F_,F_,F_,F_,F_,F_,F_,F_,F_,F_,F_,F_,F_,F_,F_,F_,F_] rfl rfl (any_of HT_.out (by kernel_rfl)) (fun _ _ _ h => h) (Or.inl ⟨by rfl,?_⟩) ?_ ?_
            rotate_left
            ·intro w'
             go_simp
             with_reducible rfl
            rotate_left
            ·simp only [sp,i64_w,i32_w]
             rfl
            refine pure_ (i:= 13) (N:= some 31) (v:= ?_) (a':= ?_) #[T_,T_,T_,T_,T_,T_,T_,T_,T_,T_,T_,T_,T_,T_,F_,F_,F_,F_,F_,F_,F_,F_,F_,F_,F_,F_,F_,F_,F_,F_,F_,F_,F_,F_,F_,F_,F_,F_] rfl rfl (any_of HT_.out (by kernel_rfl)) (fun _ _ _ h => h) (Or.inl ⟨by rfl,?_⟩) ?_ ?_
            rotate_left
            ·intro w'
             go_simp
             with_reducible rfl
            rotate_left
            ·simp only [sp,i64_w,i32_w]
             rfl
            refine pure_ (i:= 14) (N:= some 32) (v:= ?_) (a':= ?_) #[T_,T_,T_,T_,T_,T_,T_,T_,T_,T_,T_,T_,T_,T_,T_,F_,F_,F_,F_,F_,F_,F_,F_,F_,F_,F_,F_,F_,F_,F_,F_,F_,F_,F_,F_,F_,F_,F_] rfl rfl (any_of HT_.out (by kernel_rfl)) (fun _ _ _ h => h) (Or.inl ⟨by rfl,?_⟩) ?_ ?_
            rotate_left
            ·intro w'
             go_simp
             with_reducible rfl
            rotate_left
            ·simp only [sp,i64_w,i32_w]
             rfl
            refine pure_ (i:= 15) (N:= some 33) (v:= ?_) (a':= ?_) #[T_,T_,T_,T_,T_,T_,T_,T_,T_,T_,T_,T_,T_,T_,T_,T_,F_,F_,F_,F_,F_,F_,F_,F_,F_,F_,F_,F_,F_,F_,F_,F_,F_,F_,F_,F_,F_,F_] rfl rfl (any_of HT_.out (by kernel_rfl)) (fun _ _ _ h => h) (Or.inl ⟨by rfl,?_⟩) ?_ ?_
            rotate_left
            ·intro w'
             go_simp
             with_reducible rfl
            rotate_left
            ·simp only [sp,i64_w,i32_w]
             rfl
            refine pure_ (i:= 16) (N:= some 34) (v:= ?_) (a':= ?_) #[T_,T_,T_,T_,T_,T_,T_,T_,T_,T_,T_,T_,T_,T_,T_,T_,T_,F_,F_,F_,F_,F_,F_,F_,F_,F_,F_,F_,F_,F_,F_,F_,F_,F_,F_,F_,F_,F_] rfl rfl (any_of HT_.out (by kernel_rfl)) (fun _ _ _ h => h) (Or.inl ⟨by rfl,?_⟩) ?_ ?_
            rotate_left
            ·intro w'
             go_simp
             with_reducible rfl
            rotate_left
            ·simp only [sp,i64_w,i32_w]
             rfl
            refine pure_ (i:= 18) (N:= some 36) (v:= ?_) (a':= ?_) #[T_,T_,T_,T_,T_,T_,T_,T_,T_,T_,T_,T_,T_,T_,T_,T_,T_,F_,T_,F_,F_,F_,F_,F_,F_,F_,F_,F_,F_,F_,F_,F_,F_,F_,F_,F_,F_,F_] rfl rfl (any_of HT_.out (by kernel_rfl)) (fun _ _ _ h => h) (Or.inl ⟨by rfl,?_⟩) ?_ ?_
            rotate_left
            ·intro w'
             go_simp
             with_reducible rfl
            rotate_left
            ·simp only [sp,i64_w,i32_w]
             rfl
            refine pure_ (i:= 19) (N:= some 37) (v:= ?_) (a':= ?_) #[T_,T_,T_,T_,T_,T_,T_,T_,T_,T_,T_,T_,T_,T_,T_,T_,T_,F_,T_,T_,F_,F_,F_,F_,F_,F_,F_,F_,F_,F_,F_,F_,F_,F_,F_,F_,F_,F_] rfl rfl (any_of HT_.out (by kernel_rfl)) (fun _ _ _ h => h) (Or.inl ⟨by rfl,?_⟩) ?_ ?_
            rotate_left
            ·intro w'
             go_simp
             with_reducible rfl
            rotate_left
            ·simp only [sp,i64_w,i32_w]
             rfl
            refine pure_ (i:= 20) (N:= some 38) (v:= ?_) (a':= ?_) #[T_,T_,T_,T_,T_,T_,T_,T_,T_,T_,T_,T_,T_,T_,T_,T_,T_,F_,T_,T_,T_,F_,F_,F_,F_,F_,F_,F_,F_,F_,F_,F_,F_,F_,F_,F_,F_,F_] rfl rfl (any_of HT_.out (by kernel_rfl)) (fun _ _ _ h => h) (Or.inl ⟨by rfl,?_⟩) ?_ ?_
            rotate_left
            ·intro w'
             go_simp
             with_reducible rfl
            rotate_left
            ·simp only [sp,i64_w,i32_w]
             rfl
            refine pure_ (i:= 21) (N:= some 39) (v:= ?_) (a':= ?_) #[T_,T_,T_,T_,T_,T_,T_,T_,T_,T_,T_,T_,T_,T_,T_,T_,T_,F_,T_,T_,T_,T_,F_,F_,F_,F_,F_,F_,F_,F_,F_,F_,F_,F_,F_,F_,F_,F_] rfl rfl (any_of HT_.out (by kernel_rfl)) (fun _ _ _ h => h) (Or.inl ⟨by rfl,?_⟩) ?_ ?_
            rotate_left
            ·intro w'
             go_simp
             with_reducible rfl
            rotate_left
            ·simp only [sp,i64_w,i32_w]
             rfl
            refine pure_ (i:= 22) (N:= some 40) (v:= ?_) (a':= ?_) #[T_,T_,T_,T_,T_,T_,T_,T_,T_,T_,T_,T_,T_,T_,T_,T_,T_,F_,T_,T_,T_,T_,T_,F_,F_,F_,F_,F_,F_,F_,F_,F_,F_,F_,F_,F_,F_,F_] rfl rfl (any_of HT_.out (by kernel_rfl)) (fun _ _ _ h => h) (Or.inl ⟨by rfl,?_⟩) ?_ ?_
            rotate_left
            ·intro w'
             go_simp
             with_reducible rfl
            rotate_left
            ·simp only [sp,i64_w,i32_w]
             rfl
            refine take_ (i:= 17) (N:= some 35) (v:= ?_) (a':= ?_) #[T_,T_,T_,T_,T_,T_,T_,T_,T_,T_,T_,T_,T_,T_,T_,T_,T_,T_,T_,T_,T_,T_,T_,F_,F_,F_,F_,F_,F_,F_,F_,F_,F_,F_,F_,F_,F_,F_] rfl rfl (take_ofW HT_.out HW_.out (by kernel_rfl)) (fun _ _ _ h => h) (Or.inl ⟨by rfl,?_⟩) hHeld ?_ ?_
            rotate_left
            ·rintro w' ⟨s0,s1,s2,s3,s4,s5⟩
             go_simp
             with_reducible rfl
            rotate_left
            ·simp only [sp,i64_w,i32_w]
             rfl
            refine take_ (i:= 23) (N:= some 41) (v:= ?_) (a':= ?_) #[T_,T_,T_,T_,T_,T_,T_,T_,T_,T_,T_,T_,T_,T_,T_,T_,T_,T_,T_,T_,T_,T_,T_,T_,F_,F_,F_,F_,F_,F_,F_,F_,F_,F_,F_,F_,F_,F_] rfl rfl (take_ofW HT_.out HW_.out (by kernel_rfl)) (fun _ _ _ h => h) (Or.inl ⟨by rfl,?_⟩) hHeld ?_ ?_
            rotate_left
            ·rintro w' ⟨s0,s1,s2,s3,s4,s5⟩
             go_simp
             with_reducible rfl
            rotate_left
            ·simp only [sp,i64_w,i32_w]
             rfl
            refine pure_ (i:= 24) (N:= some 42) (v:= ?_) (a':= ?_) #[T_,T_,T_,T_,T_,T_,T_,T_,T_,T_,T_,T_,T_,T_,T_,T_,T_,T_,T_,T_,T_,T_,T_,T_,T_,F_,F_,F_,F_,F_,F_,F_,F_,F_,F_,F_,F_,F_] rfl rfl (any_of HT_.out (by kernel_rfl)) (fun _ _ _ h => h) (Or.inl ⟨by rfl,?_⟩) ?_ ?_
            rotate_left
            ·intro w'
             go_simp
             with_reducible rfl
            rotate_left
            ·simp only [sp,i64_w,i32_w]
             rfl
            refine pure_ (i:= 25) (N:= some 43) (v:= ?_) (a':= ?_) #[T_,T_,T_,T_,T_,T_,T_,T_,T_,T_,T_,T_,T_,T_,T_,T_,T_,T_,T_,T_,T_,T_,T_,T_,T_,T_,F_,F_,F_,F_,F_,F_,F_,F_,F_,F_,F_,F_] rfl rfl (any_of HT_.out (by kernel_rfl)) (fun _ _ _ h => h) (Or.inl ⟨by rfl,?_⟩) ?_ ?_
            rotate_left
            ·intro w'
             go_simp
             with_reducible rfl
            rotate_left
            ·simp only [sp,i64_w,i32_w]
             rfl
            refine pure_ (i:= 26) (N:= some 44) (v:= ?_) (a':= ?_) #[T_,T_,T_,T_,T_,T_,T_,T_,T_,T_,T_,T_,T_,T_,T_,T_,T_,T_,T_,T_,T_,T_,T_,T_,T_,T_,T_,F_,F_,F_,F_,F_,F_,F_,F_,F_,F_,F_] rfl rfl (any_of HT_.out (by kernel_rfl)) (fun _ _ _ h => h) (Or.inl ⟨by rfl,?_⟩) ?_ ?_
            rotate_left
            ·intro w'
             go_simp
             with_reducible rfl
            rotate_left
            ·simp only [sp,i64_w,i32_w]
             rfl
            refine pure_ (i:= 28) (N:= some 46) (v:= ?_) (a':= ?_) #[T_,T_,T_,T_,T_,T_,T_,T_,T_,T_,T_,T_,T_,T_,T_,T_,T_,T_,T_,T_,T_,T_,T_,T_,T_,T_,T_,F_,T_,F_,F_,F_,F_,F_,F_,F_,F_,F_] rfl rfl (any_of HT_.out (by kernel_rfl)) (fun _ _ _ h => h) (Or.inl ⟨by rfl,?_⟩) ?_ ?_
            rotate_left
            ·intro w'
             go_simp
             with_reducible rfl
            rotate_left
            ·simp only [sp,i64_w,i32_w]
             rfl
            refine pure_ (i:= 29) (N:= some 47) (v:= ?_) (a':= ?_) #[T_,T_,T_,T_,T_,T_,T_,T_,T_,T_,T_,T_,T_,T_,T_,T_,T_,T_,T_,T_,T_,T_,T_,T_,T_,T_,T_,F_,T_,T_,F_,F_,F_,F_,F_,F_,F_,F_] rfl rfl (any_of HT_.out (by kernel_rfl)) (fun _ _ _ h => h) (Or.inl ⟨by rfl,?_⟩) ?_ ?_
            rotate_left
            ·intro w'
             go_simp
             with_reducible rfl
            rotate_left
            ·simp only [sp,i64_w,i32_w]
             rfl
            refine pure_ (i:= 30) (N:= some 48) (v:= ?_) (a':= ?_) #[T_,T_,T_,T_,T_,T_,T_,T_,T_,T_,T_,T_,T_,T_,T_,T_,T_,T_,T_,T_,T_,T_,T_,T_,T_,T_,T_,F_,T_,T_,T_,F_,F_,F_,F_,F_,F_,F_] rfl rfl (any_of HT_.out (by kernel_rfl)) (fun _ _ _ h => h) (Or.inl ⟨by rfl,?_⟩) ?_ ?_
            rotate_left
            ·intro w'
             go_simp
             with_reducible rfl
            rotate_left
            ·simp only [sp,i64_w,i32_w]
             rfl
            refine pure_ (i:= 31) (N:= some 49) (v:= ?_) (a':= ?_) #[T_,T_,T_,T_,T_,T_,T_,T_,T_,T_,T_,T_,T_,T_,T_,T_,T_,T_,T_,T_,T_,T_,T_,T_,T_,T_,T_,F_,T_,T_,T_,T_,F_,F_,F_,F_,F_,F_] rfl rfl (any_of HT_.out (by kernel_rfl)) (fun _ _ _ h => h) (Or.inl ⟨by rfl,?_⟩) ?_ ?_
            rotate_left
            ·intro w'
             go_simp
             with_reducible rfl
            rotate_left
            ·simp only [sp,i64_w,i32_w]
             rfl
            refine pure_ (i:= 32) (N:= some 50) (v:= ?_) (a':= ?_) #[T_,T_,T_,T_,T_,T_,T_,T_,T_,T_,T_,T_,T_,T_,T_,T_,T_,T_,T_,T_,T_,T_,T_,T_,T_,T_,T_,F_,T_,T_,T_,T_,T_,F_,F_,F_,F_,F_] rfl rfl (any_of HT_.out (by kernel_rfl)) (fun _ _ _ h => h) (Or.inl ⟨by rfl,?_⟩) ?_ ?_
            rotate_left
            ·intro w'
             go_simp
             with_reducible rfl
            rotate_left
            ·simp only [sp,i64_w,i32_w]
             rfl
            refine take_ (i:= 27) (N:= some 45) (v:= ?_) (a':= ?_) #[T_,T_,T_,T_,T_,T_,T_,T_,T_,T_,T_,T_,T_,T_,T_,T_,T_,T_,T_,T_,T_,T_,T_,T_,T_,T_,T_,T_,T_,T_,T_,T_,T_,F_,F_,F_,F_,F_] rfl rfl (take_ofW HT_.out HW_.out (by kernel_rfl)) (fun _ _ _ h => h) (Or.inl ⟨by rfl,?_⟩) hHeld ?_ ?_
            rotate_left
            ·rintro w' ⟨s0,s1,s2,s3,s4,s5⟩
             go_simp
             with_reducible rfl
            rotate_left
            ·simp only [sp,i64_w,i32_w]
             rfl
            refine take_ (i:= 33) (N:= some 51) (v:= ?_) (a':= ?_) #[T_,T_,T_,T_,T_,T_,T_,T_,T_,T_,T_,T_,T_,T_,T_,T_,T_,T_,T_,T_,T_,T_,T_,T_,T_,T_,T_,T_,T_,T_,T_,T_,T_,T_,F_,F_,F_,F_] rfl rfl (take_ofW HT_.out HW_.out (by kernel_rfl)) (fun _ _ _ h => h) (Or.inl ⟨by rfl,?_⟩) hHeld ?_ ?_
            rotate_left
            ·rintro w' ⟨s0,s1,s2,s3,s4,s5⟩
             go_simp
             with_reducible rfl
            rotate_left
            ·simp only [sp,i64_w,i32_w]
             rfl
            refine pure_ (i:= 34) (N:= some 52) (v:= ?_) (a':= ?_) #[T_,T_,T_,T_,T_,T_,T_,T_,T_,T_,T_,T_,T_,T_,T_,T_,T_,T_,T_,T_,T_,T_,T_,T_,T_,T_,T_,T_,T_,T_,T_,T_,T_,T_,T_,F_,F_,F_] rfl rfl (any_of HT_.out (by kernel_rfl)) (fun _ _ _ h => h) (Or.inl ⟨by rfl,?_⟩) ?_ ?_
            rotate_left
            ·intro w'
             go_simp
             with_reducible rfl
            rotate_left
            ·simp only [sp,i64_w,i32_w]
             rfl
            refine pure_ (i:= 35) (N:= some 53) (v:= ?_) (a':= ?_) #[T_,T_,T_,T_,T_,T_,T_,T_,T_,T_,T_,T_,T_,T_,T_,T_,T_,T_,T_,T_,T_,T_,T_,T_,T_,T_,T_,T_,T_,T_,T_,T_,T_,T_,T_,T_,F_,F_] rfl rfl (any_of HT_.out (by kernel_rfl)) (fun _ _ _ h => h) (Or.inl ⟨by rfl,?_⟩) ?_ ?_
            rotate_left
            ·intro w'
             go_simp
             with_reducible rfl
            rotate_left
            ·simp only [sp,i64_w,i32_w]
             rfl
            refine pure_ (i:= 36) (N:= some 54) (v:= ?_) (a':= ?_) #[T_,T_,T_,T_,T_,T_,T_,T_,T_,T_,T_,T_,T_,T_,T_,T_,T_,T_,T_,T_,T_,T_,T_,T_,T_,T_,T_,T_,T_,T_,T_,T_,T_,T_,T_,T_,T_,F_] rfl rfl (any_of HT_.out (by kernel_rfl)) (fun _ _ _ h => h) (Or.inl ⟨by rfl,?_⟩) ?_ ?_
            rotate_left
            ·intro w'
             go_simp
             with_reducible rfl
            rotate_left
            ·simp only [sp,i64_w,i32_w]
             rfl
            refine pure_ (i:= 37) (N:= some 55) (v:= ?_) (a':= ?_) #[T_,T_,T_,T_,T_,T_,T_,T_,T_,T_,T_,T_,T_,T_,T_,T_,T_,T_,T_,T_,T_,T_,T_,T_,T_,T_,T_,T_,T_,T_,T_,T_,T_,T_,T_,T_,T_,T_] rfl rfl (any_of HT_.out (by kernel_rfl)) (fun _ _ _ h => h) (Or.inl ⟨by rfl,?_⟩) ?_ ?_
            rotate_left
            ·intro w'
             go_simp
             with_reducible rfl
            rotate_left
            ·simp only [sp,i64_w,i32_w]
             rfl
            refine done_ (done_of HT_.out (by kernel_rfl)) ?_
            try go_wp2
            go_meet
            case rel => exact ⟨_,(decide (((rd_T50 l1 b0).f1) < ((rd_T50 l1 (o0)).f1))),(by first|rfl|(simp;done)|(simp only [← v1] <;> (first|rfl|simp))|(simp [*];done)),H',⟨by have:= HK1.out;first|omega|exact Nat.le_refl _⟩,⟨ub d0.out⟩,⟨by repeat (first|(with_reducible first|exact HB.out|apply below_alloc|apply pw_below_drewN|apply below_drew1|refine below_set ?_ v0.out)|exact HB.out)⟩⟩
          ·rw [if_neg c15] at H
           exact absurd H (by simp)
         ·rw [if_neg c14] at H
          exact absurd H (by simp)
        ·rw [if_neg c12] at H
         have z1 : decide (0 < b0) = false:= decide_eq_false c12
         clear c12
         (first|rw [z1]|(simp only [i64_w,i32_w];rw [z1])|skip)
         have H':= mk H
         clear H
         try go_wp2
         have n0_ : Aside0 (((w6.setCell ⟨g0,0,none⟩ (.int .i64 ((rd_T50 l1 b0).f0))).setCell ⟨g0,1,none⟩ (.int .i64 ((rd_T50 l1 b0).f1))).heap[g0]? = some (.cells #[.int .i64 ((rd_T50 l1 b0).f0),.int .i64 ((rd_T50 l1 b0).f1)] 50 (0,0))):= ⟨by (with_reducible repeat (first|refine blk_drewN ?_ _|refine blk_drew ?_|refine blk_alloc ?_ _));refine blk_put (cs:= #[.int .i64 ((rd_T50 l1 b0).f0),.int .i64 0]) ?_ 1 _ rfl;(with_reducible repeat (first|refine blk_drewN ?_ _|refine blk_drew ?_|refine blk_alloc ?_ _));refine blk_put (cs:= #[.int .i64 0,.int .i64 0]) ?_ 0 _ rfl;(with_reducible repeat (first|refine blk_drewN ?_ _|refine blk_drew ?_|refine blk_alloc ?_ _));exact d0.out⟩
         have n1_ : Aside0 (Below w.heap.size w ((w6.setCell ⟨g0,0,none⟩ (.int .i64 ((rd_T50 l1 b0).f0))).setCell ⟨g0,1,none⟩ (.int .i64 ((rd_T50 l1 b0).f1)))):= ⟨by repeat (first|(with_reducible first|exact HB.out|apply below_alloc|apply pw_below_drewN|apply below_drew1|refine below_set ?_ v0.out)|exact HB.out)⟩
         (try clear d0)
         (try clear HB)
         generalize ((w6.setCell ⟨g0,0,none⟩ (.int .i64 ((rd_T50 l1 b0).f0))).setCell ⟨g0,1,none⟩ (.int .i64 ((rd_T50 l1 b0).f1))) = w21 at n0_ n1_ ⊢
         have d0:= n0_
         have HB:= n1_
         clear n0_ n1_
         have n0_:= mk (blk_drew d0.out)
         have n1_:= mk (below_drew1 HB.out)
         clear d0
         clear HB
         have d0:= n0_
         have HB:= n1_
         clear n0_ n1_
         refine start_ (n:= 38) (S:= fun w' => w'.cell? ⟨g0,0,none⟩ = some (.int .i64 ((rd_T50 l1 b0).f0)) ∧ w'.cell? ⟨g0,1,none⟩ = some (.int .i64 ((rd_T50 l1 b0).f1))) (ds:= []) #[F_,F_,F_,F_,F_,F_,F_,F_,F_,F_,F_,F_,F_,F_,F_,F_,F_,F_,F_,F_,F_,F_,F_,F_,F_,F_,F_,F_,F_,F_,F_,F_,F_,F_,F_,F_,F_,F_] (by kernel_rfl) rfl rfl ⟨(blk_cell d0.out 0).trans rfl,(blk_cell d0.out 1).trans rfl⟩ (fun hHeld => ?_);refine with_tabW spec_l4Pivots.tab5 spec_l4Pivots.bits5 (fun HT_ HW_ => ?_)
         generalize w21.drew = w22 at d0 HB hHeld ⊢
         refine pure_ (i:= 0) (N:= some 18) (v:= ?_) (a':= ?_) #[T_,F_,F_,F_,F_,F_,F_,F_,F_,F_,F_,F_,F_,F_,F_,F_,F_,F_,F_,F_,F_,F_,F_,F_,F_,F_,F_,F_,F_,F_,F_,F_,F_,F_,F_,F_,F_,F_] rfl rfl (any_of HT_.out (by kernel_rfl)) (fun _ _ _ h => h) (Or.inl ⟨by rfl,?_⟩) ?_ ?_
         rotate_left
         ·intro w'
          go_simp
          with_reducible rfl
         rotate_left
         ·simp only [sp,i64_w,i32_w]
          rfl
         refine take_ (i:= 1) (N:= some 19) (v:= ?_) (a':= ?_) #[T_,T_,F_,F_,F_,F_,F_,F_,F_,F_,F_,F_,F_,F_,F_,F_,F_,F_,F_,F_,F_,F_,F_,F_,F_,F_,F_,F_,F_,F_,F_,F_,F_,F_,F_,F_,F_,F_] rfl rfl (take_ofW HT_.out HW_.out (by kernel_rfl)) (fun _ _ _ h => h) (Or.inl ⟨by rfl,?_⟩) hHeld ?_ ?_
         rotate_left
         ·rintro w' ⟨s0,s1⟩
          go_simp
          with_reducible rfl
         rotate_left
         ·simp only [sp,i64_w,i32_w]
          rfl
         refine one_ (i:= 2) (N:= some 20) #[T_,T_,T_,F_,F_,F_,F_,F_,F_,F_,F_,F_,F_,F_,F_,F_,F_,F_,F_,F_,F_,F_,F_,F_,F_,F_,F_,F_,F_,F_,F_,F_,F_,F_,F_,F_,F_,F_] rfl rfl (one_of HT_.out (by kernel_rfl)) (by decide) (fun K hK => ?_)
         refine goes_ Try.func54 (by kernel_rfl) rfl #[.int .i64 ((rd_T50 l1 b0).f0),.int .i64 (-1000),.int .i64 1000] (by rfl) rfl rfl (by (try simp only [List.map_toArray,List.map_cons,List.map_nil]);first|done|rfl|(simp only [List.length_drop,List.length_take];rfl)) ?_
         with_reducible refine (spec_l1In.calls ((rd_T50 l1 b0).f0) (-1000) 1000 true _ A8.out).mono ?_
         rintro e w' ⟨rfl,⟨nd,rfl⟩⟩
         refine ⟨_,rfl,?_⟩
         refine hK.out _ _ ⟨(blk_cell d0.out 0).trans rfl,(blk_cell d0.out 1).trans rfl⟩ (fun hHeld => ?_)
         clear hK K
         refine norm_ (a':= ?_) ?_ ?_
         rotate_left
         ·show Act.put _ (some 20) _ = _
          simp only [sp,i64_w,i32_w]
          rfl
         refine pure_ (i:= 3) (N:= some 21) (v:= ?_) (a':= ?_) #[T_,T_,T_,T_,F_,F_,F_,F_,F_,F_,F_,F_,F_,F_,F_,F_,F_,F_,F_,F_,F_,F_,F_,F_,F_,F_,F_,F_,F_,F_,F_,F_,F_,F_,F_,F_,F_,F_] rfl rfl (any_of HT_.out (by kernel_rfl)) (fun _ _ _ h => h) (Or.inl ⟨by rfl,?_⟩) ?_ ?_
         rotate_left
         ·intro w'
          go_simp
          with_reducible rfl
         rotate_left
         ·simp only [sp,i64_w,i32_w]
          rfl
         refine pure_ (i:= 4) (N:= some 22) (v:= ?_) (a':= ?_) #[T_,T_,T_,T_,T_,F_,F_,F_,F_,F_,F_,F_,F_,F_,F_,F_,F_,F_,F_,F_,F_,F_,F_,F_,F_,F_,F_,F_,F_,F_,F_,F_,F_,F_,F_,F_,F_,F_] rfl rfl (any_of HT_.out (by kernel_rfl)) (fun _ _ _ h => h) (Or.inl ⟨by rfl,?_⟩) ?_ ?_
         rotate_left
         ·intro w'
          go_simp
          with_reducible rfl
         rotate_left
         ·simp only [sp,i64_w,i32_w]
          rfl
         refine pure_ (i:= 5) (N:= some 23) (v:= ?_) (a':= ?_) #[T_,T_,T_,T_,T_,T_,F_,F_,F_,F_,F_,F_,F_,F_,F_,F_,F_,F_,F_,F_,F_,F_,F_,F_,F_,F_,F_,F_,F_,F_,F_,F_,F_,F_,F_,F_,F_,F_] rfl rfl (any_of HT_.out (by kernel_rfl)) (fun _ _ _ h => h) (Or.inl ⟨by rfl,?_⟩) ?_ ?_
         rotate_left
         ·intro w'
          go_simp
          with_reducible rfl
         rotate_left
         ·simp only [sp,i64_w,i32_w]
          rfl
         refine pure_ (i:= 7) (N:= some 25) (v:= ?_) (a':= ?_) #[T_,T_,T_,T_,T_,T_,F_,T_,F_,F_,F_,F_,F_,F_,F_,F_,F_,F_,F_,F_,F_,F_,F_,F_,F_,F_,F_,F_,F_,F_,F_,F_,F_,F_,F_,F_,F_,F_] rfl rfl (any_of HT_.out (by kernel_rfl)) (fun _ _ _ h => h) (Or.inl ⟨by rfl,?_⟩) ?_ ?_
         rotate_left
         ·intro w'
          go_simp
          with_reducible rfl
         rotate_left
         ·simp only [sp,i64_w,i32_w]
          rfl
         refine pure_ (i:= 8) (N:= some 26) (v:= ?_) (a':= ?_) #[T_,T_,T_,T_,T_,T_,F_,T_,T_,F_,F_,F_,F_,F_,F_,F_,F_,F_,F_,F_,F_,F_,F_,F_,F_,F_,F_,F_,F_,F_,F_,F_,F_,F_,F_,F_,F_,F_] rfl rfl (any_of HT_.out (by kernel_rfl)) (fun _ _ _ h => h) (Or.inl ⟨by rfl,?_⟩) ?_ ?_
         rotate_left
         ·intro w'
          go_simp
          with_reducible rfl
         rotate_left
         ·simp only [sp,i64_w,i32_w]
          rfl
         refine take_ (i:= 6) (N:= some 24) (v:= ?_) (a':= ?_) #[T_,T_,T_,T_,T_,T_,T_,T_,T_,F_,F_,F_,F_,F_,F_,F_,F_,F_,F_,F_,F_,F_,F_,F_,F_,F_,F_,F_,F_,F_,F_,F_,F_,F_,F_,F_,F_,F_] rfl rfl (take_ofW HT_.out HW_.out (by kernel_rfl)) (fun _ _ _ h => h) (Or.inl ⟨by rfl,?_⟩) hHeld ?_ ?_
         rotate_left
         ·rintro w' ⟨s0,s1⟩
          go_simp
          with_reducible rfl
         rotate_left
         ·simp only [sp,i64_w,i32_w]
          rfl
         refine one_ (i:= 9) (N:= some 27) #[T_,T_,T_,T_,T_,T_,T_,T_,T_,T_,F_,F_,F_,F_,F_,F_,F_,F_,F_,F_,F_,F_,F_,F_,F_,F_,F_,F_,F_,F_,F_,F_,F_,F_,F_,F_,F_,F_] rfl rfl (one_of HT_.out (by kernel_rfl)) (by decide) (fun K hK => ?_)
         refine goes_ Try.func54 (by kernel_rfl) rfl #[.int .i64 ((rd_T50 l1 b0).f1),.int .i64 0,.int .i64 (l0.length : Int)] (by rfl) rfl rfl (by (try simp only [List.map_toArray,List.map_cons,List.map_nil]);first|done|rfl|(simp only [List.length_drop,List.length_take];rfl)) ?_
         with_reducible refine (spec_l1In.calls ((rd_T50 l1 b0).f1) 0 (l0.length : Int) true _ A10.out).mono ?_
         rintro e w' ⟨rfl,⟨nd,rfl⟩⟩
         refine ⟨_,rfl,?_⟩
         refine hK.out _ _ ⟨(blk_cell d0.out 0).trans rfl,(blk_cell d0.out 1).trans rfl⟩ (fun hHeld => ?_)
         clear hK K
         refine norm_ (a':= ?_) ?_ ?_
         rotate_left
         ·show Act.put _ (some 27) _ = _
          simp only [sp,i64_w,i32_w]
          rfl
         refine pure_ (i:= 10) (N:= some 28) (v:= ?_) (a':= ?_) #[T_,T_,T_,T_,T_,T_,T_,T_,T_,T_,T_,F_,F_,F_,F_,F_,F_,F_,F_,F_,F_,F_,F_,F_,F_,F_,F_,F_,F_,F_,F_,F_,F_,F_,F_,F_,F_,F_] rfl rfl (any_of HT_.out (by kernel_rfl)) (fun _ _ _ h => h) (Or.inl ⟨by rfl,?_⟩) ?_ ?_
         rotate_left
         ·intro w'
          go_simp
          with_reducible rfl
         rotate_left
         ·simp only [sp,i64_w,i32_w]
          rfl
         refine pure_ (i:= 11) (N:= some 29) (v:= ?_) (a':= ?_) #[T_,T_,T_,T_,T_,T_,T_,T_,T_,T_,T_,T_,F_,F_,F_,F_,F_,F_,F_,F_,F_,F_,F_,F_,F_,F_,F_,F_,F_,F_,F_,F_,F_,F_,F_,F_,F_,F_] rfl rfl (any_of HT_.out (by kernel_rfl)) (fun _ _ _ h => h) (Or.inl ⟨by rfl,?_⟩) ?_ ?_
         rotate_left
         ·intro w'
          go_simp
          with_reducible rfl
         rotate_left
         ·simp only [sp,i64_w,i32_w]
          rfl
         refine pure_ (i:= 12) (N:= some 30) (v:= ?_) (a':= ?_) #[T_,T_,T_,T_,T_,T_,T_,T_,T_,T_,T_,T_,T_,F_,F_,F_,F_,F_,F_,F_,F_,F_,F_,F_,F_,F_,F_,F_,F_,F_,F_,F_,F_,F_,F_,F_,F_,F_] rfl rfl (any_of HT_.out (by kernel_rfl)) (fun _ _ _ h => h) (Or.inl ⟨by rfl,?_⟩) ?_ ?_
         rotate_left
         ·intro w'
          go_simp
          with_reducible rfl
         rotate_left
         ·simp only [sp,i64_w,i32_w]
          rfl
         refine pure_ (i:= 13) (N:= some 31) (v:= ?_) (a':= ?_) #[T_,T_,T_,T_,T_,T_,T_,T_,T_,T_,T_,T_,T_,T_,F_,F_,F_,F_,F_,F_,F_,F_,F_,F_,F_,F_,F_,F_,F_,F_,F_,F_,F_,F_,F_,F_,F_,F_] rfl rfl (any_of HT_.out (by kernel_rfl)) (fun _ _ _ h => h) (Or.inl ⟨by rfl,?_⟩) ?_ ?_
         rotate_left
         ·intro w'
          go_simp
          with_reducible rfl
         rotate_left
         ·simp only [sp,i64_w,i32_w]
          rfl
         refine pure_ (i:= 14) (N:= some 32) (v:= ?_) (a':= ?_) #[T_,T_,T_,T_,T_,T_,T_,T_,T_,T_,T_,T_,T_,T_,T_,F_,F_,F_,F_,F_,F_,F_,F_,F_,F_,F_,F_,F_,F_,F_,F_,F_,F_,F_,F_,F_,F_,F_] rfl rfl (any_of HT_.out (by kernel_rfl)) (fun _ _ _ h => h) (Or.inl ⟨by rfl,?_⟩) ?_ ?_
         rotate_left
         ·intro w'
          go_simp
          with_reducible rfl
         rotate_left
         ·simp only [sp,i64_w,i32_w]
          rfl
         refine pure_ (i:= 15) (N:= some 33) (v:= ?_) (a':= ?_) #[T_,T_,T_,T_,T_,T_,T_,T_,T_,T_,T_,T_,T_,T_,T_,T_,F_,F_,F_,F_,F_,F_,F_,F_,F_,F_,F_,F_,F_,F_,F_,F_,F_,F_,F_,F_,F_,F_] rfl rfl (any_of HT_.out (by kernel_rfl)) (fun _ _ _ h => h) (Or.inl ⟨by rfl,?_⟩) ?_ ?_
         rotate_left
         ·intro w'
          go_simp
          with_reducible rfl
         rotate_left
         ·simp only [sp,i64_w,i32_w]
          rfl
         refine pure_ (i:= 16) (N:= some 34) (v:= undef) (a':= ?_) #[T_,T_,T_,T_,T_,T_,T_,T_,T_,T_,T_,T_,T_,T_,T_,T_,T_,F_,F_,F_,F_,F_,F_,F_,F_,F_,F_,F_,F_,F_,F_,F_,F_,F_,F_,F_,F_,F_] rfl rfl (any_of HT_.out (by kernel_rfl)) (fun _ _ _ h => h) (Or.inr ⟨by rfl,rfl⟩) ?_ ?_
         rotate_left
         ·simp only [sp,i64_w,i32_w]
          rfl
         refine pure_ (i:= 17) (N:= some 35) (v:= undef) (a':= ?_) #[T_,T_,T_,T_,T_,T_,T_,T_,T_,T_,T_,T_,T_,T_,T_,T_,T_,T_,F_,F_,F_,F_,F_,F_,F_,F_,F_,F_,F_,F_,F_,F_,F_,F_,F_,F_,F_,F_] rfl rfl (any_of HT_.out (by kernel_rfl)) (fun _ _ _ h => h) (Or.inr ⟨by rfl,rfl⟩) ?_ ?_
         rotate_left
         ·simp only [sp,i64_w,i32_w]
          rfl
         refine pure_ (i:= 18) (N:= some 36) (v:= undef) (a':= ?_) #[T_,T_,T_,T_,T_,T_,T_,T_,T_,T_,T_,T_,T_,T_,T_,T_,T_,T_,T_,F_,F_,F_,F_,F_,F_,F_,F_,F_,F_,F_,F_,F_,F_,F_,F_,F_,F_,F_] rfl rfl (any_of HT_.out (by kernel_rfl)) (fun _ _ _ h => h) (Or.inr ⟨by rfl,rfl⟩) ?_ ?_
         rotate_left
         ·simp only [sp,i64_w,i32_w]
          rfl
         refine pure_ (i:= 19) (N:= some 37) (v:= undef) (a':= ?_) #[T_,T_,T_,T_,T_,T_,T_,T_,T_,T_,T_,T_,T_,T_,T_,T_,T_,T_,T_,T_,F_,F_,F_,F_,F_,F_,F_,F_,F_,F_,F_,F_,F_,F_,F_,F_,F_,F_] rfl rfl (any_of HT_.out (by kernel_rfl)) (fun _ _ _ h => h) (Or.inr ⟨by rfl,rfl⟩) ?_ ?_
         rotate_left
         ·simp only [sp,i64_w,i32_w]
          rfl
         refine pure_ (i:= 20) (N:= some 38) (v:= undef) (a':= ?_) #[T_,T_,T_,T_,T_,T_,T_,T_,T_,T_,T_,T_,T_,T_,T_,T_,T_,T_,T_,T_,T_,F_,F_,F_,F_,F_,F_,F_,F_,F_,F_,F_,F_,F_,F_,F_,F_,F_] rfl rfl (any_of HT_.out (by kernel_rfl)) (fun _ _ _ h => h) (Or.inr ⟨by rfl,rfl⟩) ?_ ?_
         rotate_left
         ·simp only [sp,i64_w,i32_w]
          rfl
         refine pure_ (i:= 21) (N:= some 39) (v:= undef) (a':= ?_) #[T_,T_,T_,T_,T_,T_,T_,T_,T_,T_,T_,T_,T_,T_,T_,T_,T_,T_,T_,T_,T_,T_,F_,F_,F_,F_,F_,F_,F_,F_,F_,F_,F_,F_,F_,F_,F_,F_] rfl rfl (any_of HT_.out (by kernel_rfl)) (fun _ _ _ h => h) (Or.inr ⟨by rfl,rfl⟩) ?_ ?_
         rotate_left
         ·simp only [sp,i64_w,i32_w]
          rfl
         refine pure_ (i:= 22) (N:= some 40) (v:= undef) (a':= ?_) #[T_,T_,T_,T_,T_,T_,T_,T_,T_,T_,T_,T_,T_,T_,T_,T_,T_,T_,T_,T_,T_,T_,T_,F_,F_,F_,F_,F_,F_,F_,F_,F_,F_,F_,F_,F_,F_,F_] rfl rfl (any_of HT_.out (by kernel_rfl)) (fun _ _ _ h => h) (Or.inr ⟨by rfl,rfl⟩) ?_ ?_
         rotate_left
         ·simp only [sp,i64_w,i32_w]
          rfl
         refine pure_ (i:= 23) (N:= some 41) (v:= undef) (a':= ?_) #[T_,T_,T_,T_,T_,T_,T_,T_,T_,T_,T_,T_,T_,T_,T_,T_,T_,T_,T_,T_,T_,T_,T_,T_,F_,F_,F_,F_,F_,F_,F_,F_,F_,F_,F_,F_,F_,F_] rfl rfl (any_of HT_.out (by kernel_rfl)) (fun _ _ _ h => h) (Or.inr ⟨by rfl,rfl⟩) ?_ ?_
         rotate_left
         ·simp only [sp,i64_w,i32_w]
          rfl
         refine pure_ (i:= 24) (N:= some 42) (v:= undef) (a':= ?_) #[T_,T_,T_,T_,T_,T_,T_,T_,T_,T_,T_,T_,T_,T_,T_,T_,T_,T_,T_,T_,T_,T_,T_,T_,T_,F_,F_,F_,F_,F_,F_,F_,F_,F_,F_,F_,F_,F_] rfl rfl (any_of HT_.out (by kernel_rfl)) (fun _ _ _ h => h) (Or.inr ⟨by rfl,rfl⟩) ?_ ?_
         rotate_left
         ·simp only [sp,i64_w,i32_w]
          rfl
         refine pure_ (i:= 25) (N:= some 43) (v:= undef) (a':= ?_) #[T_,T_,T_,T_,T_,T_,T_,T_,T_,T_,T_,T_,T_,T_,T_,T_,T_,T_,T_,T_,T_,T_,T_,T_,T_,T_,F_,F_,F_,F_,F_,F_,F_,F_,F_,F_,F_,F_] rfl rfl (any_of HT_.out (by kernel_rfl)) (fun _ _ _ h => h) (Or.inr ⟨by rfl,rfl⟩) ?_ ?_
         rotate_left
         ·simp only [sp,i64_w,i32_w]
          rfl
         refine pure_ (i:= 26) (N:= some 44) (v:= undef) (a':= ?_) #[T_,T_,T_,T_,T_,T_,T_,T_,T_,T_,T_,T_,T_,T_,T_,T_,T_,T_,T_,T_,T_,T_,T_,T_,T_,T_,T_,F_,F_,F_,F_,F_,F_,F_,F_,F_,F_,F_] rfl rfl (any_of HT_.out (by kernel_rfl)) (fun _ _ _ h => h) (Or.inr ⟨by rfl,rfl⟩) ?_ ?_
         rotate_left
         ·simp only [sp,i64_w,i32_w]
          rfl
         refine pure_ (i:= 27) (N:= some 45) (v:= undef) (a':= ?_) #[T_,T_,T_,T_,T_,T_,T_,T_,T_,T_,T_,T_,T_,T_,T_,T_,T_,T_,T_,T_,T_,T_,T_,T_,T_,T_,T_,T_,F_,F_,F_,F_,F_,F_,F_,F_,F_,F_] rfl rfl (any_of HT_.out (by kernel_rfl)) (fun _ _ _ h => h) (Or.inr ⟨by rfl,rfl⟩) ?_ ?_
         rotate_left
         ·simp only [sp,i64_w,i32_w]
          rfl
         refine pure_ (i:= 28) (N:= some 46) (v:= undef) (a':= ?_) #[T_,T_,T_,T_,T_,T_,T_,T_,T_,T_,T_,T_,T_,T_,T_,T_,T_,T_,T_,T_,T_,T_,T_,T_,T_,T_,T_,T_,T_,F_,F_,F_,F_,F_,F_,F_,F_,F_] rfl rfl (any_of HT_.out (by kernel_rfl)) (fun _ _ _ h => h) (Or.inr ⟨by rfl,rfl⟩) ?_ ?_
         rotate_left
         ·simp only [sp,i64_w,i32_w]
          rfl
         refine pure_ (i:= 29) (N:= some 47) (v:= undef) (a':= ?_) #[T_,T_,T_,T_,T_,T_,T_,T_,T_,T_,T_,T_,T_,T_,T_,T_,T_,T_,T_,T_,T_,T_,T_,T_,T_,T_,T_,T_,T_,T_,F_,F_,F_,F_,F_,F_,F_,F_] rfl rfl (any_of HT_.out (by kernel_rfl)) (fun _ _ _ h => h) (Or.inr ⟨by rfl,rfl⟩) ?_ ?_
         rotate_left
         ·simp only [sp,i64_w,i32_w]
          rfl
         refine pure_ (i:= 30) (N:= some 48) (v:= undef) (a':= ?_) #[T_,T_,T_,T_,T_,T_,T_,T_,T_,T_,T_,T_,T_,T_,T_,T_,T_,T_,T_,T_,T_,T_,T_,T_,T_,T_,T_,T_,T_,T_,T_,F_,F_,F_,F_,F_,F_,F_] rfl rfl (any_of HT_.out (by kernel_rfl)) (fun _ _ _ h => h) (Or.inr ⟨by rfl,rfl⟩) ?_ ?_
         rotate_left
         ·simp only [sp,i64_w,i32_w]
          rfl
         refine pure_ (i:= 31) (N:= some 49) (v:= undef) (a':= ?_) #[T_,T_,T_,T_,T_,T_,T_,T_,T_,T_,T_,T_,T_,T_,T_,T_,T_,T_,T_,T_,T_,T_,T_,T_,T_,T_,T_,T_,T_,T_,T_,T_,F_,F_,F_,F_,F_,F_] rfl rfl (any_of HT_.out (by kernel_rfl)) (fun _ _ _ h => h) (Or.inr ⟨by rfl,rfl⟩) ?_ ?_
         rotate_left
         ·simp only [sp,i64_w,i32_w]
          rfl
         refine pure_ (i:= 32) (N:= some 50) (v:= undef) (a':= ?_) #[T_,T_,T_,T_,T_,T_,T_,T_,T_,T_,T_,T_,T_,T_,T_,T_,T_,T_,T_,T_,T_,T_,T_,T_,T_,T_,T_,T_,T_,T_,T_,T_,T_,F_,F_,F_,F_,F_] rfl rfl (any_of HT_.out (by kernel_rfl)) (fun _ _ _ h => h) (Or.inr ⟨by rfl,rfl⟩) ?_ ?_
         rotate_left
         ·simp only [sp,i64_w,i32_w]
          rfl
         refine pure_ (i:= 33) (N:= some 51) (v:= undef) (a':= ?_) #[T_,T_,T_,T_,T_,T_,T_,T_,T_,T_,T_,T_,T_,T_,T_,T_,T_,T_,T_,T_,T_,T_,T_,T_,T_,T_,T_,T_,T_,T_,T_,T_,T_,T_,F_,F_,F_,F_] rfl rfl (any_of HT_.out (by kernel_rfl)) (fun _ _ _ h => h) (Or.inr ⟨by rfl,rfl⟩) ?_ ?_
         rotate_left
         ·simp only [sp,i64_w,i32_w]
          rfl
         refine pure_ (i:= 34) (N:= some 52) (v:= undef) (a':= ?_) #[T_,T_,T_,T_,T_,T_,T_,T_,T_,T_,T_,T_,T_,T_,T_,T_,T_,T_,T_,T_,T_,T_,T_,T_,T_,T_,T_,T_,T_,T_,T_,T_,T_,T_,T_,F_,F_,F_] rfl rfl (any_of HT_.out (by kernel_rfl)) (fun _ _ _ h => h) (Or.inr ⟨by rfl,rfl⟩) ?_ ?_
         rotate_left
         ·simp only [sp,i64_w,i32_w]
          rfl
         refine pure_ (i:= 35) (N:= some 53) (v:= undef) (a':= ?_) #[T_,T_,T_,T_,T_,T_,T_,T_,T_,T_,T_,T_,T_,T_,T_,T_,T_,T_,T_,T_,T_,T_,T_,T_,T_,T_,T_,T_,T_,T_,T_,T_,T_,T_,T_,T_,F_,F_] rfl rfl (any_of HT_.out (by kernel_rfl)) (fun _ _ _ h => h) (Or.inr ⟨by rfl,rfl⟩) ?_ ?_
         rotate_left
         ·simp only [sp,i64_w,i32_w]
          rfl
         refine pure_ (i:= 36) (N:= some 54) (v:= ?_) (a':= ?_) #[T_,T_,T_,T_,T_,T_,T_,T_,T_,T_,T_,T_,T_,T_,T_,T_,T_,T_,T_,T_,T_,T_,T_,T_,T_,T_,T_,T_,T_,T_,T_,T_,T_,T_,T_,T_,T_,F_] rfl rfl (any_of HT_.out (by kernel_rfl)) (fun _ _ _ h => h) (Or.inl ⟨by rfl,?_⟩) ?_ ?_
         rotate_left
         ·intro w'
          go_simp
          with_reducible rfl
         rotate_left
         ·simp only [sp,i64_w,i32_w]
          rfl
         refine pure_ (i:= 37) (N:= some 55) (v:= ?_) (a':= ?_) #[T_,T_,T_,T_,T_,T_,T_,T_,T_,T_,T_,T_,T_,T_,T_,T_,T_,T_,T_,T_,T_,T_,T_,T_,T_,T_,T_,T_,T_,T_,T_,T_,T_,T_,T_,T_,T_,T_] rfl rfl (any_of HT_.out (by kernel_rfl)) (fun _ _ _ h => h) (Or.inl ⟨by rfl,?_⟩) ?_ ?_
         rotate_left
         ·intro w'
          go_simp
          with_reducible rfl
         rotate_left
         ·simp only [sp,i64_w,i32_w]
          rfl
         refine done_ (done_of HT_.out (by kernel_rfl)) ?_
         try go_wp2
         go_meet
         case rel => exact ⟨_,(false),(by first|rfl|(simp;done)|(simp [*];done)),H',⟨by have:= HK1.out;first|omega|exact Nat.le_refl _⟩,⟨ub d0.out⟩,⟨by repeat (first|(with_reducible first|exact HB.out|apply below_alloc|apply pw_below_drewN|apply below_drew1|refine below_set ?_ v0.out)|exact HB.out)⟩⟩
       ·replace c11:= Bool.eq_false_iff.mpr c11
        subst c11
        have H1 : (spec_l4Pivots.j1 k1 l0 l1 b0 true ((rd_T50 l1 b0).f0) ((rd_T50 l1 b0).f1)) = some r:= by rw [if_neg (show ¬ (false = true) by decide)] at H;exact H
        clear H
        have H:= H1
        clear H1
        have H':= mk H
        clear H
        try go_wp2
        have n0_ : Aside0 (((w6.setCell ⟨g0,0,none⟩ (.int .i64 ((rd_T50 l1 b0).f0))).setCell ⟨g0,1,none⟩ (.int .i64 ((rd_T50 l1 b0).f1))).heap[g0]? = some (.cells #[.int .i64 ((rd_T50 l1 b0).f0),.int .i64 ((rd_T50 l1 b0).f1)] 50 (0,0))):= ⟨by (with_reducible repeat (first|refine blk_drewN ?_ _|refine blk_drew ?_|refine blk_alloc ?_ _));refine blk_put (cs:= #[.int .i64 ((rd_T50 l1 b0).f0),.int .i64 0]) ?_ 1 _ rfl;(with_reducible repeat (first|refine blk_drewN ?_ _|refine blk_drew ?_|refine blk_alloc ?_ _));refine blk_put (cs:= #[.int .i64 0,.int .i64 0]) ?_ 0 _ rfl;(with_reducible repeat (first|refine blk_drewN ?_ _|refine blk_drew ?_|refine blk_alloc ?_ _));exact d0.out⟩
        have n1_ : Aside0 (Below w.heap.size w ((w6.setCell ⟨g0,0,none⟩ (.int .i64 ((rd_T50 l1 b0).f0))).setCell ⟨g0,1,none⟩ (.int .i64 ((rd_T50 l1 b0).f1)))):= ⟨by repeat (first|(with_reducible first|exact HB.out|apply below_alloc|apply pw_below_drewN|apply below_drew1|refine below_set ?_ v0.out)|exact HB.out)⟩
        (try clear d0)
        (try clear HB)
        generalize ((w6.setCell ⟨g0,0,none⟩ (.int .i64 ((rd_T50 l1 b0).f0))).setCell ⟨g0,1,none⟩ (.int .i64 ((rd_T50 l1 b0).f1))) = w23 at n0_ n1_ ⊢
        have d0:= n0_
        have HB:= n1_
        clear n0_ n1_
        have n0_:= mk (blk_drew d0.out)
        have n1_:= mk (below_drew1 HB.out)
        clear d0
        clear HB
        have d0:= n0_
        have HB:= n1_
        clear n0_ n1_
        refine start_ (n:= 38) (S:= fun w' => w'.cell? ⟨g0,0,none⟩ = some (.int .i64 ((rd_T50 l1 b0).f0)) ∧ w'.cell? ⟨g0,1,none⟩ = some (.int .i64 ((rd_T50 l1 b0).f1))) (ds:= []) #[F_,F_,F_,F_,F_,F_,F_,F_,F_,F_,F_,F_,F_,F_,F_,F_,F_,F_,F_,F_,F_,F_,F_,F_,F_,F_,F_,F_,F_,F_,F_,F_,F_,F_,F_,F_,F_,F_] (by kernel_rfl) rfl rfl ⟨(blk_cell d0.out 0).trans rfl,(blk_cell d0.out 1).trans rfl⟩ (fun hHeld => ?_);refine with_tabW spec_l4Pivots.tab5 spec_l4Pivots.bits5 (fun HT_ HW_ => ?_)
        generalize w23.drew = w24 at d0 HB hHeld ⊢
        refine pure_ (i:= 0) (N:= some 18) (v:= ?_) (a':= ?_) #[T_,F_,F_,F_,F_,F_,F_,F_,F_,F_,F_,F_,F_,F_,F_,F_,F_,F_,F_,F_,F_,F_,F_,F_,F_,F_,F_,F_,F_,F_,F_,F_,F_,F_,F_,F_,F_,F_] rfl rfl (any_of HT_.out (by kernel_rfl)) (fun _ _ _ h => h) (Or.inl ⟨by rfl,?_⟩) ?_ ?_
        rotate_left
        ·intro w'
         go_simp
         with_reducible rfl
        rotate_left
        ·simp only [sp,i64_w,i32_w]
         rfl
        refine take_ (i:= 1) (N:= some 19) (v:= ?_) (a':= ?_) #[T_,T_,F_,F_,F_,F_,F_,F_,F_,F_,F_,F_,F_,F_,F_,F_,F_,F_,F_,F_,F_,F_,F_,F_,F_,F_,F_,F_,F_,F_,F_,F_,F_,F_,F_,F_,F_,F_] rfl rfl (take_ofW HT_.out HW_.out (by kernel_rfl)) (fun _ _ _ h => h) (Or.inl ⟨by rfl,?_⟩) hHeld ?_ ?_
        rotate_left
        ·rintro w' ⟨s0,s1⟩
         go_simp
         with_reducible rfl
        rotate_left
        ·simp only [sp,i64_w,i32_w]
         rfl
        refine one_ (i:= 2) (N:= some 20) #[T_,T_,T_,F_,F_,F_,F_,F_,F_,F_,F_,F_,F_,F_,F_,F_,F_,F_,F_,F_,F_,F_,F_,F_,F_,F_,F_,F_,F_,F_,F_,F_,F_,F_,F_,F_,F_,F_] rfl rfl (one_of HT_.out (by kernel_rfl)) (by decide) (fun K hK => ?_)
        refine goes_ Try.func54 (by kernel_rfl) rfl #[.int .i64 ((rd_T50 l1 b0).f0),.int .i64 (-1000),.int .i64 1000] (by rfl) rfl rfl (by (try simp only [List.map_toArray,List.map_cons,List.map_nil]);first|done|rfl|(simp only [List.length_drop,List.length_take];rfl)) ?_
        with_reducible refine (spec_l1In.calls ((rd_T50 l1 b0).f0) (-1000) 1000 true _ A8.out).mono ?_
        rintro e w' ⟨rfl,⟨nd,rfl⟩⟩
        refine ⟨_,rfl,?_⟩
        refine hK.out _ _ ⟨(blk_cell d0.out 0).trans rfl,(blk_cell d0.out 1).trans rfl⟩ (fun hHeld => ?_)
        clear hK K
        refine norm_ (a':= ?_) ?_ ?_
        rotate_left
        ·show Act.put _ (some 20) _ = _
         simp only [sp,i64_w,i32_w]
         rfl
        refine pure_ (i:= 3) (N:= some 21) (v:= ?_) (a':= ?_) #[T_,T_,T_,T_,F_,F_,F_,F_,F_,F_,F_,F_,F_,F_,F_,F_,F_,F_,F_,F_,F_,F_,F_,F_,F_,F_,F_,F_,F_,F_,F_,F_,F_,F_,F_,F_,F_,F_] rfl rfl (any_of HT_.out (by kernel_rfl)) (fun _ _ _ h => h) (Or.inl ⟨by rfl,?_⟩) ?_ ?_
        rotate_left
        ·intro w'
         go_simp
         with_reducible rfl
        rotate_left
        ·simp only [sp,i64_w,i32_w]
         rfl
        refine pure_ (i:= 4) (N:= some 22) (v:= ?_) (a':= ?_) #[T_,T_,T_,T_,T_,F_,F_,F_,F_,F_,F_,F_,F_,F_,F_,F_,F_,F_,F_,F_,F_,F_,F_,F_,F_,F_,F_,F_,F_,F_,F_,F_,F_,F_,F_,F_,F_,F_] rfl rfl (any_of HT_.out (by kernel_rfl)) (fun _ _ _ h => h) (Or.inl ⟨by rfl,?_⟩) ?_ ?_
        rotate_left
        ·intro w'
         go_simp
         with_reducible rfl
        rotate_left
        ·simp only [sp,i64_w,i32_w]
         rfl
        refine pure_ (i:= 5) (N:= some 23) (v:= ?_) (a':= ?_) #[T_,T_,T_,T_,T_,T_,F_,F_,F_,F_,F_,F_,F_,F_,F_,F_,F_,F_,F_,F_,F_,F_,F_,F_,F_,F_,F_,F_,F_,F_,F_,F_,F_,F_,F_,F_,F_,F_] rfl rfl (any_of HT_.out (by kernel_rfl)) (fun _ _ _ h => h) (Or.inl ⟨by rfl,?_⟩) ?_ ?_
        rotate_left
        ·intro w'
         go_simp
         with_reducible rfl
        rotate_left
        ·simp only [sp,i64_w,i32_w]
         rfl
        refine pure_ (i:= 7) (N:= some 25) (v:= ?_) (a':= ?_) #[T_,T_,T_,T_,T_,T_,F_,T_,F_,F_,F_,F_,F_,F_,F_,F_,F_,F_,F_,F_,F_,F_,F_,F_,F_,F_,F_,F_,F_,F_,F_,F_,F_,F_,F_,F_,F_,F_] rfl rfl (any_of HT_.out (by kernel_rfl)) (fun _ _ _ h => h) (Or.inl ⟨by rfl,?_⟩) ?_ ?_
        rotate_left
        ·intro w'
         go_simp
         with_reducible rfl
        rotate_left
        ·simp only [sp,i64_w,i32_w]
         rfl
        refine pure_ (i:= 8) (N:= some 26) (v:= ?_) (a':= ?_) #[T_,T_,T_,T_,T_,T_,F_,T_,T_,F_,F_,F_,F_,F_,F_,F_,F_,F_,F_,F_,F_,F_,F_,F_,F_,F_,F_,F_,F_,F_,F_,F_,F_,F_,F_,F_,F_,F_] rfl rfl (any_of HT_.out (by kernel_rfl)) (fun _ _ _ h => h) (Or.inl ⟨by rfl,?_⟩) ?_ ?_
        rotate_left
        ·intro w'
         go_simp
         with_reducible rfl
        rotate_left
        ·simp only [sp,i64_w,i32_w]
         rfl
        refine take_ (i:= 6) (N:= some 24) (v:= ?_) (a':= ?_) #[T_,T_,T_,T_,T_,T_,T_,T_,T_,F_,F_,F_,F_,F_,F_,F_,F_,F_,F_,F_,F_,F_,F_,F_,F_,F_,F_,F_,F_,F_,F_,F_,F_,F_,F_,F_,F_,F_] rfl rfl (take_ofW HT_.out HW_.out (by kernel_rfl)) (fun _ _ _ h => h) (Or.inl ⟨by rfl,?_⟩) hHeld ?_ ?_
        rotate_left
        ·rintro w' ⟨s0,s1⟩
         go_simp
         with_reducible rfl
        rotate_left
        ·simp only [sp,i64_w,i32_w]
         rfl
        refine one_ (i:= 9) (N:= some 27) #[T_,T_,T_,T_,T_,T_,T_,T_,T_,T_,F_,F_,F_,F_,F_,F_,F_,F_,F_,F_,F_,F_,F_,F_,F_,F_,F_,F_,F_,F_,F_,F_,F_,F_,F_,F_,F_,F_] rfl rfl (one_of HT_.out (by kernel_rfl)) (by decide) (fun K hK => ?_)
        refine goes_ Try.func54 (by kernel_rfl) rfl #[.int .i64 ((rd_T50 l1 b0).f1),.int .i64 0,.int .i64 (l0.length : Int)] (by rfl) rfl rfl (by (try simp only [List.map_toArray,List.map_cons,List.map_nil]);first|done|rfl|(simp only [List.length_drop,List.length_take];rfl)) ?_
        with_reducible refine (spec_l1In.calls ((rd_T50 l1 b0).f1) 0 (l0.length : Int) false _ A10.out).mono ?_
        rintro e w' ⟨rfl,⟨nd,rfl⟩⟩
        refine ⟨_,rfl,?_⟩
        refine hK.out _ _ ⟨(blk_cell d0.out 0).trans rfl,(blk_cell d0.out 1).trans rfl⟩ (fun hHeld => ?_)
        clear hK K
        refine norm_ (a':= ?_) ?_ ?_
        rotate_left
        ·show Act.put _ (some 27) _ = _
         simp only [sp,i64_w,i32_w]
         rfl
        refine pure_ (i:= 10) (N:= some 28) (v:= ?_) (a':= ?_) #[T_,T_,T_,T_,T_,T_,T_,T_,T_,T_,T_,F_,F_,F_,F_,F_,F_,F_,F_,F_,F_,F_,F_,F_,F_,F_,F_,F_,F_,F_,F_,F_,F_,F_,F_,F_,F_,F_] rfl rfl (any_of HT_.out (by kernel_rfl)) (fun _ _ _ h => h) (Or.inl ⟨by rfl,?_⟩) ?_ ?_
        rotate_left
        ·intro w'
         go_simp
         with_reducible rfl
        rotate_left
        ·simp only [sp,i64_w,i32_w]
         rfl
        refine pure_ (i:= 11) (N:= some 29) (v:= ?_) (a':= ?_) #[T_,T_,T_,T_,T_,T_,T_,T_,T_,T_,T_,T_,F_,F_,F_,F_,F_,F_,F_,F_,F_,F_,F_,F_,F_,F_,F_,F_,F_,F_,F_,F_,F_,F_,F_,F_,F_,F_] rfl rfl (any_of HT_.out (by kernel_rfl)) (fun _ _ _ h => h) (Or.inl ⟨by rfl,?_⟩) ?_ ?_
        rotate_left
        ·intro w'
         go_simp
         with_reducible rfl
        rotate_left
        ·simp only [sp,i64_w,i32_w]
         rfl
        refine pure_ (i:= 12) (N:= some 30) (v:= ?_) (a':= ?_) #[T_,T_,T_,T_,T_,T_,T_,T_,T_,T_,T_,T_,T_,F_,F_,F_,F_,F_,F_,F_,F_,F_,F_,F_,F_,F_,F_,F_,F_,F_,F_,F_,F_,F_,F_,F_,F_,F_] rfl rfl (any_of HT_.out (by kernel_rfl)) (fun _ _ _ h => h) (Or.inl ⟨by rfl,?_⟩) ?_ ?_
        rotate_left
        ·intro w'
         go_simp
         with_reducible rfl
        rotate_left
        ·simp only [sp,i64_w,i32_w]
         rfl
        refine pure_ (i:= 13) (N:= some 31) (v:= undef) (a':= ?_) #[T_,T_,T_,T_,T_,T_,T_,T_,T_,T_,T_,T_,T_,T_,F_,F_,F_,F_,F_,F_,F_,F_,F_,F_,F_,F_,F_,F_,F_,F_,F_,F_,F_,F_,F_,F_,F_,F_] rfl rfl (any_of HT_.out (by kernel_rfl)) (fun _ _ _ h => h) (Or.inr ⟨by rfl,rfl⟩) ?_ ?_
        rotate_left
        ·simp only [sp,i64_w,i32_w]
         rfl
        refine pure_ (i:= 14) (N:= some 32) (v:= undef) (a':= ?_) #[T_,T_,T_,T_,T_,T_,T_,T_,T_,T_,T_,T_,T_,T_,T_,F_,F_,F_,F_,F_,F_,F_,F_,F_,F_,F_,F_,F_,F_,F_,F_,F_,F_,F_,F_,F_,F_,F_] rfl rfl (any_of HT_.out (by kernel_rfl)) (fun _ _ _ h => h) (Or.inr ⟨by rfl,rfl⟩) ?_ ?_
        rotate_left
        ·simp only [sp,i64_w,i32_w]
         rfl
        refine pure_ (i:= 15) (N:= some 33) (v:= undef) (a':= ?_) #[T_,T_,T_,T_,T_,T_,T_,T_,T_,T_,T_,T_,T_,T_,T_,T_,F_,F_,F_,F_,F_,F_,F_,F_,F_,F_,F_,F_,F_,F_,F_,F_,F_,F_,F_,F_,F_,F_] rfl rfl (any_of HT_.out (by kernel_rfl)) (fun _ _ _ h => h) (Or.inr ⟨by rfl,rfl⟩) ?_ ?_
        rotate_left
        ·simp only [sp,i64_w,i32_w]
         rfl
        refine pure_ (i:= 16) (N:= some 34) (v:= undef) (a':= ?_) #[T_,T_,T_,T_,T_,T_,T_,T_,T_,T_,T_,T_,T_,T_,T_,T_,T_,F_,F_,F_,F_,F_,F_,F_,F_,F_,F_,F_,F_,F_,F_,F_,F_,F_,F_,F_,F_,F_] rfl rfl (any_of HT_.out (by kernel_rfl)) (fun _ _ _ h => h) (Or.inr ⟨by rfl,rfl⟩) ?_ ?_
        rotate_left
        ·simp only [sp,i64_w,i32_w]
         rfl
        refine pure_ (i:= 17) (N:= some 35) (v:= undef) (a':= ?_) #[T_,T_,T_,T_,T_,T_,T_,T_,T_,T_,T_,T_,T_,T_,T_,T_,T_,T_,F_,F_,F_,F_,F_,F_,F_,F_,F_,F_,F_,F_,F_,F_,F_,F_,F_,F_,F_,F_] rfl rfl (any_of HT_.out (by kernel_rfl)) (fun _ _ _ h => h) (Or.inr ⟨by rfl,rfl⟩) ?_ ?_
        rotate_left
        ·simp only [sp,i64_w,i32_w]
         rfl
        refine pure_ (i:= 18) (N:= some 36) (v:= undef) (a':= ?_) #[T_,T_,T_,T_,T_,T_,T_,T_,T_,T_,T_,T_,T_,T_,T_,T_,T_,T_,T_,F_,F_,F_,F_,F_,F_,F_,F_,F_,F_,F_,F_,F_,F_,F_,F_,F_,F_,F_] rfl rfl (any_of HT_.out (by kernel_rfl)) (fun _ _ _ h => h) (Or.inr ⟨by rfl,rfl⟩) ?_ ?_
        rotate_left
        ·simp only [sp,i64_w,i32_w]
         rfl
        refine pure_ (i:= 19) (N:= some 37) (v:= undef) (a':= ?_) #[T_,T_,T_,T_,T_,T_,T_,T_,T_,T_,T_,T_,T_,T_,T_,T_,T_,T_,T_,T_,F_,F_,F_,F_,F_,F_,F_,F_,F_,F_,F_,F_,F_,F_,F_,F_,F_,F_] rfl rfl (any_of HT_.out (by kernel_rfl)) (fun _ _ _ h => h) (Or.inr ⟨by rfl,rfl⟩) ?_ ?_
        rotate_left
        ·simp only [sp,i64_w,i32_w]
         rfl
        refine pure_ (i:= 20) (N:= some 38) (v:= undef) (a':= ?_) #[T_,T_,T_,T_,T_,T_,T_,T_,T_,T_,T_,T_,T_,T_,T_,T_,T_,T_,T_,T_,T_,F_,F_,F_,F_,F_,F_,F_,F_,F_,F_,F_,F_,F_,F_,F_,F_,F_] rfl rfl (any_of HT_.out (by kernel_rfl)) (fun _ _ _ h => h) (Or.inr ⟨by rfl,rfl⟩) ?_ ?_
        rotate_left
        ·simp only [sp,i64_w,i32_w]
         rfl
        refine pure_ (i:= 21) (N:= some 39) (v:= undef) (a':= ?_) #[T_,T_,T_,T_,T_,T_,T_,T_,T_,T_,T_,T_,T_,T_,T_,T_,T_,T_,T_,T_,T_,T_,F_,F_,F_,F_,F_,F_,F_,F_,F_,F_,F_,F_,F_,F_,F_,F_] rfl rfl (any_of HT_.out (by kernel_rfl)) (fun _ _ _ h => h) (Or.inr ⟨by rfl,rfl⟩) ?_ ?_
        rotate_left
        ·simp only [sp,i64_w,i32_w]
         rfl
        refine pure_ (i:= 22) (N:= some 40) (v:= undef) (a':= ?_) #[T_,T_,T_,T_,T_,T_,T_,T_,T_,T_,T_,T_,T_,T_,T_,T_,T_,T_,T_,T_,T_,T_,T_,F_,F_,F_,F_,F_,F_,F_,F_,F_,F_,F_,F_,F_,F_,F_] rfl rfl (any_of HT_.out (by kernel_rfl)) (fun _ _ _ h => h) (Or.inr ⟨by rfl,rfl⟩) ?_ ?_
        rotate_left
        ·simp only [sp,i64_w,i32_w]
         rfl
        refine pure_ (i:= 23) (N:= some 41) (v:= undef) (a':= ?_) #[T_,T_,T_,T_,T_,T_,T_,T_,T_,T_,T_,T_,T_,T_,T_,T_,T_,T_,T_,T_,T_,T_,T_,T_,F_,F_,F_,F_,F_,F_,F_,F_,F_,F_,F_,F_,F_,F_] rfl rfl (any_of HT_.out (by kernel_rfl)) (fun _ _ _ h => h) (Or.inr ⟨by rfl,rfl⟩) ?_ ?_
        rotate_left
        ·simp only [sp,i64_w,i32_w]
         rfl
        refine pure_ (i:= 24) (N:= some 42) (v:= undef) (a':= ?_) #[T_,T_,T_,T_,T_,T_,T_,T_,T_,T_,T_,T_,T_,T_,T_,T_,T_,T_,T_,T_,T_,T_,T_,T_,T_,F_,F_,F_,F_,F_,F_,F_,F_,F_,F_,F_,F_,F_] rfl rfl (any_of HT_.out (by kernel_rfl)) (fun _ _ _ h => h) (Or.inr ⟨by rfl,rfl⟩) ?_ ?_
        rotate_left
        ·simp only [sp,i64_w,i32_w]
         rfl
        refine pure_ (i:= 25) (N:= some 43) (v:= undef) (a':= ?_) #[T_,T_,T_,T_,T_,T_,T_,T_,T_,T_,T_,T_,T_,T_,T_,T_,T_,T_,T_,T_,T_,T_,T_,T_,T_,T_,F_,F_,F_,F_,F_,F_,F_,F_,F_,F_,F_,F_] rfl rfl (any_of HT_.out (by kernel_rfl)) (fun _ _ _ h => h) (Or.inr ⟨by rfl,rfl⟩) ?_ ?_
        rotate_left
        ·simp only [sp,i64_w,i32_w]
         rfl
        refine pure_ (i:= 26) (N:= some 44) (v:= undef) (a':= ?_) #[T_,T_,T_,T_,T_,T_,T_,T_,T_,T_,T_,T_,T_,T_,T_,T_,T_,T_,T_,T_,T_,T_,T_,T_,T_,T_,T_,F_,F_,F_,F_,F_,F_,F_,F_,F_,F_,F_] rfl rfl (any_of HT_.out (by kernel_rfl)) (fun _ _ _ h => h) (Or.inr ⟨by rfl,rfl⟩) ?_ ?_
        rotate_left
        ·simp only [sp,i64_w,i32_w]
         rfl
        refine pure_ (i:= 27) (N:= some 45) (v:= undef) (a':= ?_) #[T_,T_,T_,T_,T_,T_,T_,T_,T_,T_,T_,T_,T_,T_,T_,T_,T_,T_,T_,T_,T_,T_,T_,T_,T_,T_,T_,T_,F_,F_,F_,F_,F_,F_,F_,F_,F_,F_] rfl rfl (any_of HT_.out (by kernel_rfl)) (fun _ _ _ h => h) (Or.inr ⟨by rfl,rfl⟩) ?_ ?_
        rotate_left
        ·simp only [sp,i64_w,i32_w]
         rfl
        refine pure_ (i:= 28) (N:= some 46) (v:= undef) (a':= ?_) #[T_,T_,T_,T_,T_,T_,T_,T_,T_,T_,T_,T_,T_,T_,T_,T_,T_,T_,T_,T_,T_,T_,T_,T_,T_,T_,T_,T_,T_,F_,F_,F_,F_,F_,F_,F_,F_,F_] rfl rfl (any_of HT_.out (by kernel_rfl)) (fun _ _ _ h => h) (Or.inr ⟨by rfl,rfl⟩) ?_ ?_
        rotate_left
        ·simp only [sp,i64_w,i32_w]
         rfl
        refine pure_ (i:= 29) (N:= some 47) (v:= undef) (a':= ?_) #[T_,T_,T_,T_,T_,T_,T_,T_,T_,T_,T_,T_,T_,T_,T_,T_,T_,T_,T_,T_,T_,T_,T_,T_,T_,T_,T_,T_,T_,T_,F_,F_,F_,F_,F_,F_,F_,F_] rfl rfl (any_of HT_.out (by kernel_rfl)) (fun _ _ _ h => h) (Or.inr ⟨by rfl,rfl⟩) ?_ ?_
        rotate_left
        ·simp only [sp,i64_w,i32_w]
         rfl
        refine pure_ (i:= 30) (N:= some 48) (v:= undef) (a':= ?_) #[T_,T_,T_,T_,T_,T_,T_,T_,T_,T_,T_,T_,T_,T_,T_,T_,T_,T_,T_,T_,T_,T_,T_,T_,T_,T_,T_,T_,T_,T_,T_,F_,F_,F_,F_,F_,F_,F_] rfl rfl (any_of HT_.out (by kernel_rfl)) (fun _ _ _ h => h) (Or.inr ⟨by rfl,rfl⟩) ?_ ?_
        rotate_left
        ·simp only [sp,i64_w,i32_w]
         rfl
        refine pure_ (i:= 31) (N:= some 49) (v:= undef) (a':= ?_) #[T_,T_,T_,T_,T_,T_,T_,T_,T_,T_,T_,T_,T_,T_,T_,T_,T_,T_,T_,T_,T_,T_,T_,T_,T_,T_,T_,T_,T_,T_,T_,T_,F_,F_,F_,F_,F_,F_] rfl rfl (any_of HT_.out (by kernel_rfl)) (fun _ _ _ h => h) (Or.inr ⟨by rfl,rfl⟩) ?_ ?_
        rotate_left
        ·simp only [sp,i64_w,i32_w]
         rfl
        refine pure_ (i:= 32) (N:= some 50) (v:= undef) (a':= ?_) #[T_,T_,T_,T_,T_,T_,T_,T_,T_,T_,T_,T_,T_,T_,T_,T_,T_,T_,T_,T_,T_,T_,T_,T_,T_,T_,T_,T_,T_,T_,T_,T_,T_,F_,F_,F_,F_,F_] rfl rfl (any_of HT_.out (by kernel_rfl)) (fun _ _ _ h => h) (Or.inr ⟨by rfl,rfl⟩) ?_ ?_
        rotate_left
        ·simp only [sp,i64_w,i32_w]
         rfl
        refine pure_ (i:= 33) (N:= some 51) (v:= undef) (a':= ?_) #[T_,T_,T_,T_,T_,T_,T_,T_,T_,T_,T_,T_,T_,T_,T_,T_,T_,T_,T_,T_,T_,T_,T_,T_,T_,T_,T_,T_,T_,T_,T_,T_,T_,T_,F_,F_,F_,F_] rfl rfl (any_of HT_.out (by kernel_rfl)) (fun _ _ _ h => h) (Or.inr ⟨by rfl,rfl⟩) ?_ ?_
        rotate_left
        ·simp only [sp,i64_w,i32_w]
         rfl
        refine pure_ (i:= 34) (N:= some 52) (v:= undef) (a':= ?_) #[T_,T_,T_,T_,T_,T_,T_,T_,T_,T_,T_,T_,T_,T_,T_,T_,T_,T_,T_,T_,T_,T_,T_,T_,T_,T_,T_,T_,T_,T_,T_,T_,T_,T_,T_,F_,F_,F_] rfl rfl (any_of HT_.out (by kernel_rfl)) (fun _ _ _ h => h) (Or.inr ⟨by rfl,rfl⟩) ?_ ?_
        rotate_left
        ·simp only [sp,i64_w,i32_w]
         rfl
        refine pure_ (i:= 35) (N:= some 53) (v:= undef) (a':= ?_) #[T_,T_,T_,T_,T_,T_,T_,T_,T_,T_,T_,T_,T_,T_,T_,T_,T_,T_,T_,T_,T_,T_,T_,T_,T_,T_,T_,T_,T_,T_,T_,T_,T_,T_,T_,T_,F_,F_] rfl rfl (any_of HT_.out (by kernel_rfl)) (fun _ _ _ h => h) (Or.inr ⟨by rfl,rfl⟩) ?_ ?_
        rotate_left
        ·simp only [sp,i64_w,i32_w]
         rfl
        refine pure_ (i:= 36) (N:= some 54) (v:= undef) (a':= ?_) #[T_,T_,T_,T_,T_,T_,T_,T_,T_,T_,T_,T_,T_,T_,T_,T_,T_,T_,T_,T_,T_,T_,T_,T_,T_,T_,T_,T_,T_,T_,T_,T_,T_,T_,T_,T_,T_,F_] rfl rfl (any_of HT_.out (by kernel_rfl)) (fun _ _ _ h => h) (Or.inr ⟨by rfl,rfl⟩) ?_ ?_
        rotate_left
        ·simp only [sp,i64_w,i32_w]
         rfl
        refine pure_ (i:= 37) (N:= some 55) (v:= ?_) (a':= ?_) #[T_,T_,T_,T_,T_,T_,T_,T_,T_,T_,T_,T_,T_,T_,T_,T_,T_,T_,T_,T_,T_,T_,T_,T_,T_,T_,T_,T_,T_,T_,T_,T_,T_,T_,T_,T_,T_,T_] rfl rfl (any_of HT_.out (by kernel_rfl)) (fun _ _ _ h => h) (Or.inl ⟨by rfl,?_⟩) ?_ ?_
        rotate_left
        ·intro w'
         go_simp
         with_reducible rfl
        rotate_left
        ·simp only [sp,i64_w,i32_w]
         rfl
        refine done_ (done_of HT_.out (by kernel_rfl)) ?_
        try go_wp2
        go_meet
        case rel => exact ⟨_,(true),(by first|rfl|(simp;done)|(simp [*];done)),H',⟨by have:= HK1.out;first|omega|exact Nat.le_refl _⟩,⟨ub d0.out⟩,⟨by repeat (first|(with_reducible first|exact HB.out|apply below_alloc|apply pw_below_drewN|apply below_drew1|refine below_set ?_ v0.out)|exact HB.out)⟩⟩
      ·replace c9:= Bool.eq_false_iff.mpr c9
       subst c9
       have H1 : (spec_l4Pivots.j1 k1 l0 l1 b0 true ((rd_T50 l1 b0).f0) ((rd_T50 l1 b0).f1)) = some r:= by rw [if_neg (show ¬ (false = true) by decide)] at H;exact H
       clear H
       have H:= H1
       clear H1
       have H':= mk H
       clear H
       try go_wp2
       have n0_ : Aside0 (((w6.setCell ⟨g0,0,none⟩ (.int .i64 ((rd_T50 l1 b0).f0))).setCell ⟨g0,1,none⟩ (.int .i64 ((rd_T50 l1 b0).f1))).heap[g0]? = some (.cells #[.int .i64 ((rd_T50 l1 b0).f0),.int .i64 ((rd_T50 l1 b0).f1)] 50 (0,0))):= ⟨by (with_reducible repeat (first|refine blk_drewN ?_ _|refine blk_drew ?_|refine blk_alloc ?_ _));refine blk_put (cs:= #[.int .i64 ((rd_T50 l1 b0).f0),.int .i64 0]) ?_ 1 _ rfl;(with_reducible repeat (first|refine blk_drewN ?_ _|refine blk_drew ?_|refine blk_alloc ?_ _));refine blk_put (cs:= #[.int .i64 0,.int .i64 0]) ?_ 0 _ rfl;(with_reducible repeat (first|refine blk_drewN ?_ _|refine blk_drew ?_|refine blk_alloc ?_ _));exact d0.out⟩
       have n1_ : Aside0 (Below w.heap.size w ((w6.setCell ⟨g0,0,none⟩ (.int .i64 ((rd_T50 l1 b0).f0))).setCell ⟨g0,1,none⟩ (.int .i64 ((rd_T50 l1 b0).f1)))):= ⟨by repeat (first|(with_reducible first|exact HB.out|apply below_alloc|apply pw_below_drewN|apply below_drew1|refine below_set ?_ v0.out)|exact HB.out)⟩
       (try clear d0)
       (try clear HB)
       generalize ((w6.setCell ⟨g0,0,none⟩ (.int .i64 ((rd_T50 l1 b0).f0))).setCell ⟨g0,1,none⟩ (.int .i64 ((rd_T50 l1 b0).f1))) = w25 at n0_ n1_ ⊢
       have d0:= n0_
       have HB:= n1_
       clear n0_ n1_
       have n0_:= mk (blk_drew d0.out)
       have n1_:= mk (below_drew1 HB.out)
       clear d0
       clear HB
       have d0:= n0_
       have HB:= n1_
       clear n0_ n1_
       refine start_ (n:= 38) (S:= fun w' => w'.cell? ⟨g0,0,none⟩ = some (.int .i64 ((rd_T50 l1 b0).f0)) ∧ w'.cell? ⟨g0,1,none⟩ = some (.int .i64 ((rd_T50 l1 b0).f1))) (ds:= []) #[F_,F_,F_,F_,F_,F_,F_,F_,F_,F_,F_,F_,F_,F_,F_,F_,F_,F_,F_,F_,F_,F_,F_,F_,F_,F_,F_,F_,F_,F_,F_,F_,F_,F_,F_,F_,F_,F_] (by kernel_rfl) rfl rfl ⟨(blk_cell d0.out 0).trans rfl,(blk_cell d0.out 1).trans rfl⟩ (fun hHeld => ?_);refine with_tabW spec_l4Pivots.tab5 spec_l4Pivots.bits5 (fun HT_ HW_ => ?_)
       generalize w25.drew = w26 at d0 HB hHeld ⊢
       refine pure_ (i:= 0) (N:= some 18) (v:= ?_) (a':= ?_) #[T_,F_,F_,F_,F_,F_,F_,F_,F_,F_,F_,F_,F_,F_,F_,F_,F_,F_,F_,F_,F_,F_,F_,F_,F_,F_,F_,F_,F_,F_,F_,F_,F_,F_,F_,F_,F_,F_] rfl rfl (any_of HT_.out (by kernel_rfl)) (fun _ _ _ h => h) (Or.inl ⟨by rfl,?_⟩) ?_ ?_
       rotate_left
       ·intro w'
        go_simp
        with_reducible rfl
       rotate_left
       ·simp only [sp,i64_w,i32_w]
        rfl
       refine take_ (i:= 1) (N:= some 19) (v:= ?_) (a':= ?_) #[T_,T_,F_,F_,F_,F_,F_,F_,F_,F_,F_,F_,F_,F_,F_,F_,F_,F_,F_,F_,F_,F_,F_,F_,F_,F_,F_,F_,F_,F_,F_,F_,F_,F_,F_,F_,F_,F_] rfl rfl (take_ofW HT_.out HW_.out (by kernel_rfl)) (fun _ _ _ h => h) (Or.inl ⟨by rfl,?_⟩) hHeld ?_ ?_
       rotate_left
       ·rintro w' ⟨s0,s1⟩
        go_simp
        with_reducible rfl
       rotate_left
       ·simp only [sp,i64_w,i32_w]
        rfl
       refine one_ (i:= 2) (N:= some 20) #[T_,T_,T_,F_,F_,F_,F_,F_,F_,F_,F_,F_,F_,F_,F_,F_,F_,F_,F_,F_,F_,F_,F_,F_,F_,F_,F_,F_,F_,F_,F_,F_,F_,F_,F_,F_,F_,F_] rfl rfl (one_of HT_.out (by kernel_rfl)) (by decide) (fun K hK => ?_)
       refine goes_ Try.func54 (by kernel_rfl) rfl #[.int .i64 ((rd_T50 l1 b0).f0),.int .i64 (-1000),.int .i64 1000] (by rfl) rfl rfl (by (try simp only [List.map_toArray,List.map_cons,List.map_nil]);first|done|rfl|(simp only [List.length_drop,List.length_take];rfl)) ?_
       with_reducible refine (spec_l1In.calls ((rd_T50 l1 b0).f0) (-1000) 1000 false _ A8.out).mono ?_
       rintro e w' ⟨rfl,⟨nd,rfl⟩⟩
       refine ⟨_,rfl,?_⟩
       refine hK.out _ _ ⟨(blk_cell d0.out 0).trans rfl,(blk_cell d0.out 1).trans rfl⟩ (fun hHeld => ?_)
       clear hK K
       refine norm_ (a':= ?_) ?_ ?_
       rotate_left
       ·show Act.put _ (some 20) _ = _
        simp only [sp,i64_w,i32_w]
        rfl
       refine pure_ (i:= 3) (N:= some 21) (v:= ?_) (a':= ?_) #[T_,T_,T_,T_,F_,F_,F_,F_,F_,F_,F_,F_,F_,F_,F_,F_,F_,F_,F_,F_,F_,F_,F_,F_,F_,F_,F_,F_,F_,F_,F_,F_,F_,F_,F_,F_,F_,F_] rfl rfl (any_of HT_.out (by kernel_rfl)) (fun _ _ _ h => h) (Or.inl ⟨by rfl,?_⟩) ?_ ?_
       rotate_left
       ·intro w'
        go_simp
        with_reducible rfl
       rotate_left
       ·simp only [sp,i64_w,i32_w]
        rfl
       refine pure_ (i:= 4) (N:= some 22) (v:= ?_) (a':= ?_) #[T_,T_,T_,T_,T_,F_,F_,F_,F_,F_,F_,F_,F_,F_,F_,F_,F_,F_,F_,F_,F_,F_,F_,F_,F_,F_,F_,F_,F_,F_,F_,F_,F_,F_,F_,F_,F_,F_] rfl rfl (any_of HT_.out (by kernel_rfl)) (fun _ _ _ h => h) (Or.inl ⟨by rfl,?_⟩) ?_ ?_
       rotate_left
       ·intro w'
        go_simp
        with_reducible rfl
       rotate_left
       ·simp only [sp,i64_w,i32_w]
        rfl
       refine pure_ (i:= 5) (N:= some 23) (v:= undef) (a':= ?_) #[T_,T_,T_,T_,T_,T_,F_,F_,F_,F_,F_,F_,F_,F_,F_,F_,F_,F_,F_,F_,F_,F_,F_,F_,F_,F_,F_,F_,F_,F_,F_,F_,F_,F_,F_,F_,F_,F_] rfl rfl (any_of HT_.out (by kernel_rfl)) (fun _ _ _ h => h) (Or.inr ⟨by rfl,rfl⟩) ?_ ?_
       rotate_left
       ·simp only [sp,i64_w,i32_w]
        rfl
       refine pure_ (i:= 6) (N:= some 24) (v:= undef) (a':= ?_) #[T_,T_,T_,T_,T_,T_,T_,F_,F_,F_,F_,F_,F_,F_,F_,F_,F_,F_,F_,F_,F_,F_,F_,F_,F_,F_,F_,F_,F_,F_,F_,F_,F_,F_,F_,F_,F_,F_] rfl rfl (any_of HT_.out (by kernel_rfl)) (fun _ _ _ h => h) (Or.inr ⟨by rfl,rfl⟩) ?_ ?_
       rotate_left
       ·simp only [sp,i64_w,i32_w]
        rfl
       refine pure_ (i:= 7) (N:= some 25) (v:= undef) (a':= ?_) #[T_,T_,T_,T_,T_,T_,T_,T_,F_,F_,F_,F_,F_,F_,F_,F_,F_,F_,F_,F_,F_,F_,F_,F_,F_,F_,F_,F_,F_,F_,F_,F_,F_,F_,F_,F_,F_,F_] rfl rfl (any_of HT_.out (by kernel_rfl)) (fun _ _ _ h => h) (Or.inr ⟨by rfl,rfl⟩) ?_ ?_
       rotate_left
       ·simp only [sp,i64_w,i32_w]
        rfl
       refine pure_ (i:= 8) (N:= some 26) (v:= undef) (a':= ?_) #[T_,T_,T_,T_,T_,T_,T_,T_,T_,F_,F_,F_,F_,F_,F_,F_,F_,F_,F_,F_,F_,F_,F_,F_,F_,F_,F_,F_,F_,F_,F_,F_,F_,F_,F_,F_,F_,F_] rfl rfl (any_of HT_.out (by kernel_rfl)) (fun _ _ _ h => h) (Or.inr ⟨by rfl,rfl⟩) ?_ ?_
       rotate_left
       ·simp only [sp,i64_w,i32_w]
        rfl
       refine pure_ (i:= 9) (N:= some 27) (v:= undef) (a':= ?_) #[T_,T_,T_,T_,T_,T_,T_,T_,T_,T_,F_,F_,F_,F_,F_,F_,F_,F_,F_,F_,F_,F_,F_,F_,F_,F_,F_,F_,F_,F_,F_,F_,F_,F_,F_,F_,F_,F_] rfl rfl (any_of HT_.out (by kernel_rfl)) (fun _ _ _ h => h) (Or.inr ⟨by rfl,rfl⟩) ?_ ?_
       rotate_left
       ·simp only [sp,i64_w,i32_w]
        rfl
       refine pure_ (i:= 10) (N:= some 28) (v:= undef) (a':= ?_) #[T_,T_,T_,T_,T_,T_,T_,T_,T_,T_,T_,F_,F_,F_,F_,F_,F_,F_,F_,F_,F_,F_,F_,F_,F_,F_,F_,F_,F_,F_,F_,F_,F_,F_,F_,F_,F_,F_] rfl rfl (any_of HT_.out (by kernel_rfl)) (fun _ _ _ h => h) (Or.inr ⟨by rfl,rfl⟩) ?_ ?_
       rotate_left
       ·simp only [sp,i64_w,i32_w]
        rfl
       refine pure_ (i:= 11) (N:= some 29) (v:= ?_) (a':= ?_) #[T_,T_,T_,T_,T_,T_,T_,T_,T_,T_,T_,T_,F_,F_,F_,F_,F_,F_,F_,F_,F_,F_,F_,F_,F_,F_,F_,F_,F_,F_,F_,F_,F_,F_,F_,F_,F_,F_] rfl rfl (any_of HT_.out (by kernel_rfl)) (fun _ _ _ h => h) (Or.inl ⟨by rfl,?_⟩) ?_ ?_
       rotate_left
       ·intro w'
        go_simp
        with_reducible rfl
       rotate_left
       ·simp only [sp,i64_w,i32_w]
        rfl
       refine pure_ (i:= 12) (N:= some 30) (v:= ?_) (a':= ?_) #[T_,T_,T_,T_,T_,T_,T_,T_,T_,T_,T_,T_,T_,F_,F_,F_,F_,F_,F_,F_,F_,F_,F_,F_,F_,F_,F_,F_,F_,F_,F_,F_,F_,F_,F_,F_,F_,F_] rfl rfl (any_of HT_.out (by kernel_rfl)) (fun _ _ _ h => h) (Or.inl ⟨by rfl,?_⟩) ?_ ?_
       rotate_left
       ·intro w'
        go_simp
        with_reducible rfl
       rotate_left
       ·simp only [sp,i64_w,i32_w]
        rfl
       refine pure_ (i:= 13) (N:= some 31) (v:= undef) (a':= ?_) #[T_,T_,T_,T_,T_,T_,T_,T_,T_,T_,T_,T_,T_,T_,F_,F_,F_,F_,F_,F_,F_,F_,F_,F_,F_,F_,F_,F_,F_,F_,F_,F_,F_,F_,F_,F_,F_,F_] rfl rfl (any_of HT_.out (by kernel_rfl)) (fun _ _ _ h => h) (Or.inr ⟨by rfl,rfl⟩) ?_ ?_
       rotate_left
       ·simp only [sp,i64_w,i32_w]
        rfl
       refine pure_ (i:= 14) (N:= some 32) (v:= undef) (a':= ?_) #[T_,T_,T_,T_,T_,T_,T_,T_,T_,T_,T_,T_,T_,T_,T_,F_,F_,F_,F_,F_,F_,F_,F_,F_,F_,F_,F_,F_,F_,F_,F_,F_,F_,F_,F_,F_,F_,F_] rfl rfl (any_of HT_.out (by kernel_rfl)) (fun _ _ _ h => h) (Or.inr ⟨by rfl,rfl⟩) ?_ ?_
       rotate_left
       ·simp only [sp,i64_w,i32_w]
        rfl
       refine pure_ (i:= 15) (N:= some 33) (v:= undef) (a':= ?_) #[T_,T_,T_,T_,T_,T_,T_,T_,T_,T_,T_,T_,T_,T_,T_,T_,F_,F_,F_,F_,F_,F_,F_,F_,F_,F_,F_,F_,F_,F_,F_,F_,F_,F_,F_,F_,F_,F_] rfl rfl (any_of HT_.out (by kernel_rfl)) (fun _ _ _ h => h) (Or.inr ⟨by rfl,rfl⟩) ?_ ?_
       rotate_left
       ·simp only [sp,i64_w,i32_w]
        rfl
       refine pure_ (i:= 16) (N:= some 34) (v:= undef) (a':= ?_) #[T_,T_,T_,T_,T_,T_,T_,T_,T_,T_,T_,T_,T_,T_,T_,T_,T_,F_,F_,F_,F_,F_,F_,F_,F_,F_,F_,F_,F_,F_,F_,F_,F_,F_,F_,F_,F_,F_] rfl rfl (any_of HT_.out (by kernel_rfl)) (fun _ _ _ h => h) (Or.inr ⟨by rfl,rfl⟩) ?_ ?_
       rotate_left
       ·simp only [sp,i64_w,i32_w]
        rfl
       refine pure_ (i:= 17) (N:= some 35) (v:= undef) (a':= ?_) #[T_,T_,T_,T_,T_,T_,T_,T_,T_,T_,T_,T_,T_,T_,T_,T_,T_,T_,F_,F_,F_,F_,F_,F_,F_,F_,F_,F_,F_,F_,F_,F_,F_,F_,F_,F_,F_,F_] rfl rfl (any_of HT_.out (by kernel_rfl)) (fun _ _ _ h => h) (Or.inr ⟨by rfl,rfl⟩) ?_ ?_
       rotate_left
       ·simp only [sp,i64_w,i32_w]
        rfl
       refine pure_ (i:= 18) (N:= some 36) (v:= undef) (a':= ?_) #[T_,T_,T_,T_,T_,T_,T_,T_,T_,T_,T_,T_,T_,T_,T_,T_,T_,T_,T_,F_,F_,F_,F_,F_,F_,F_,F_,F_,F_,F_,F_,F_,F_,F_,F_,F_,F_,F_] rfl rfl (any_of HT_.out (by kernel_rfl)) (fun _ _ _ h => h) (Or.inr ⟨by rfl,rfl⟩) ?_ ?_
       rotate_left
       ·simp only [sp,i64_w,i32_w]
        rfl
       refine pure_ (i:= 19) (N:= some 37) (v:= undef) (a':= ?_) #[T_,T_,T_,T_,T_,T_,T_,T_,T_,T_,T_,T_,T_,T_,T_,T_,T_,T_,T_,T_,F_,F_,F_,F_,F_,F_,F_,F_,F_,F_,F_,F_,F_,F_,F_,F_,F_,F_] rfl rfl (any_of HT_.out (by kernel_rfl)) (fun _ _ _ h => h) (Or.inr ⟨by rfl,rfl⟩) ?_ ?_
       rotate_left
       ·simp only [sp,i64_w,i32_w]
        rfl
       refine pure_ (i:= 20) (N:= some 38) (v:= undef) (a':= ?_) #[T_,T_,T_,T_,T_,T_,T_,T_,T_,T_,T_,T_,T_,T_,T_,T_,T_,T_,T_,T_,T_,F_,F_,F_,F_,F_,F_,F_,F_,F_,F_,F_,F_,F_,F_,F_,F_,F_] rfl rfl (any_of HT_.out (by kernel_rfl)) (fun _ _ _ h => h) (Or.inr ⟨by rfl,rfl⟩) ?_ ?_
       rotate_left
       ·simp only [sp,i64_w,i32_w]
        rfl
       refine pure_ (i:= 21) (N:= some 39) (v:= undef) (a':= ?_) #[T_,T_,T_,T_,T_,T_,T_,T_,T_,T_,T_,T_,T_,T_,T_,T_,T_,T_,T_,T_,T_,T_,F_,F_,F_,F_,F_,F_,F_,F_,F_,F_,F_,F_,F_,F_,F_,F_] rfl rfl (any_of HT_.out (by kernel_rfl)) (fun _ _ _ h => h) (Or.inr ⟨by rfl,rfl⟩) ?_ ?_
       rotate_left
       ·simp only [sp,i64_w,i32_w]
        rfl
       refine pure_ (i:= 22) (N:= some 40) (v:= undef) (a':= ?_) #[T_,T_,T_,T_,T_,T_,T_,T_,T_,T_,T_,T_,T_,T_,T_,T_,T_,T_,T_,T_,T_,T_,T_,F_,F_,F_,F_,F_,F_,F_,F_,F_,F_,F_,F_,F_,F_,F_] rfl rfl (any_of HT_.out (by kernel_rfl)) (fun _ _ _ h => h) (Or.inr ⟨by rfl,rfl⟩) ?_ ?_
       rotate_left
       ·simp only [sp,i64_w,i32_w]
        rfl
       refine pure_ (i:= 23) (N:= some 41) (v:= undef) (a':= ?_) #[T_,T_,T_,T_,T_,T_,T_,T_,T_,T_,T_,T_,T_,T_,T_,T_,T_,T_,T_,T_,T_,T_,T_,T_,F_,F_,F_,F_,F_,F_,F_,F_,F_,F_,F_,F_,F_,F_] rfl rfl (any_of HT_.out (by kernel_rfl)) (fun _ _ _ h => h) (Or.inr ⟨by rfl,rfl⟩) ?_ ?_
       rotate_left
       ·simp only [sp,i64_w,i32_w]
        rfl
       refine pure_ (i:= 24) (N:= some 42) (v:= undef) (a':= ?_) #[T_,T_,T_,T_,T_,T_,T_,T_,T_,T_,T_,T_,T_,T_,T_,T_,T_,T_,T_,T_,T_,T_,T_,T_,T_,F_,F_,F_,F_,F_,F_,F_,F_,F_,F_,F_,F_,F_] rfl rfl (any_of HT_.out (by kernel_rfl)) (fun _ _ _ h => h) (Or.inr ⟨by rfl,rfl⟩) ?_ ?_
       rotate_left
       ·simp only [sp,i64_w,i32_w]
        rfl
       refine pure_ (i:= 25) (N:= some 43) (v:= undef) (a':= ?_) #[T_,T_,T_,T_,T_,T_,T_,T_,T_,T_,T_,T_,T_,T_,T_,T_,T_,T_,T_,T_,T_,T_,T_,T_,T_,T_,F_,F_,F_,F_,F_,F_,F_,F_,F_,F_,F_,F_] rfl rfl (any_of HT_.out (by kernel_rfl)) (fun _ _ _ h => h) (Or.inr ⟨by rfl,rfl⟩) ?_ ?_
       rotate_left
       ·simp only [sp,i64_w,i32_w]
        rfl
       refine pure_ (i:= 26) (N:= some 44) (v:= undef) (a':= ?_) #[T_,T_,T_,T_,T_,T_,T_,T_,T_,T_,T_,T_,T_,T_,T_,T_,T_,T_,T_,T_,T_,T_,T_,T_,T_,T_,T_,F_,F_,F_,F_,F_,F_,F_,F_,F_,F_,F_] rfl rfl (any_of HT_.out (by kernel_rfl)) (fun _ _ _ h => h) (Or.inr ⟨by rfl,rfl⟩) ?_ ?_
       rotate_left
       ·simp only [sp,i64_w,i32_w]
        rfl
       refine pure_ (i:= 27) (N:= some 45) (v:= undef) (a':= ?_) #[T_,T_,T_,T_,T_,T_,T_,T_,T_,T_,T_,T_,T_,T_,T_,T_,T_,T_,T_,T_,T_,T_,T_,T_,T_,T_,T_,T_,F_,F_,F_,F_,F_,F_,F_,F_,F_,F_] rfl rfl (any_of HT_.out (by kernel_rfl)) (fun _ _ _ h => h) (Or.inr ⟨by rfl,rfl⟩) ?_ ?_
       rotate_left
       ·simp only [sp,i64_w,i32_w]
        rfl
       refine pure_ (i:= 28) (N:= some 46) (v:= undef) (a':= ?_) #[T_,T_,T_,T_,T_,T_,T_,T_,T_,T_,T_,T_,T_,T_,T_,T_,T_,T_,T_,T_,T_,T_,T_,T_,T_,T_,T_,T_,T_,F_,F_,F_,F_,F_,F_,F_,F_,F_] rfl rfl (any_of HT_.out (by kernel_rfl)) (fun _ _ _ h => h) (Or.inr ⟨by rfl,rfl⟩) ?_ ?_
       rotate_left
       ·simp only [sp,i64_w,i32_w]
        rfl
       refine pure_ (i:= 29) (N:= some 47) (v:= undef) (a':= ?_) #[T_,T_,T_,T_,T_,T_,T_,T_,T_,T_,T_,T_,T_,T_,T_,T_,T_,T_,T_,T_,T_,T_,T_,T_,T_,T_,T_,T_,T_,T_,F_,F_,F_,F_,F_,F_,F_,F_] rfl rfl (any_of HT_.out (by kernel_rfl)) (fun _ _ _ h => h) (Or.inr ⟨by rfl,rfl⟩) ?_ ?_
       rotate_left
       ·simp only [sp,i64_w,i32_w]
        rfl
       refine pure_ (i:= 30) (N:= some 48) (v:= undef) (a':= ?_) #[T_,T_,T_,T_,T_,T_,T_,T_,T_,T_,T_,T_,T_,T_,T_,T_,T_,T_,T_,T_,T_,T_,T_,T_,T_,T_,T_,T_,T_,T_,T_,F_,F_,F_,F_,F_,F_,F_] rfl rfl (any_of HT_.out (by kernel_rfl)) (fun _ _ _ h => h) (Or.inr ⟨by rfl,rfl⟩) ?_ ?_
       rotate_left
       ·simp only [sp,i64_w,i32_w]
        rfl
       refine pure_ (i:= 31) (N:= some 49) (v:= undef) (a':= ?_) #[T_,T_,T_,T_,T_,T_,T_,T_,T_,T_,T_,T_,T_,T_,T_,T_,T_,T_,T_,T_,T_,T_,T_,T_,T_,T_,T_,T_,T_,T_,T_,T_,F_,F_,F_,F_,F_,F_] rfl rfl (any_of HT_.out (by kernel_rfl)) (fun _ _ _ h => h) (Or.inr ⟨by rfl,rfl⟩) ?_ ?_
       rotate_left
       ·simp only [sp,i64_w,i32_w]
        rfl
       refine pure_ (i:= 32) (N:= some 50) (v:= undef) (a':= ?_) #[T_,T_,T_,T_,T_,T_,T_,T_,T_,T_,T_,T_,T_,T_,T_,T_,T_,T_,T_,T_,T_,T_,T_,T_,T_,T_,T_,T_,T_,T_,T_,T_,T_,F_,F_,F_,F_,F_] rfl rfl (any_of HT_.out (by kernel_rfl)) (fun _ _ _ h => h) (Or.inr ⟨by rfl,rfl⟩) ?_ ?_
       rotate_left
       ·simp only [sp,i64_w,i32_w]
        rfl
       refine pure_ (i:= 33) (N:= some 51) (v:= undef) (a':= ?_) #[T_,T_,T_,T_,T_,T_,T_,T_,T_,T_,T_,T_,T_,T_,T_,T_,T_,T_,T_,T_,T_,T_,T_,T_,T_,T_,T_,T_,T_,T_,T_,T_,T_,T_,F_,F_,F_,F_] rfl rfl (any_of HT_.out (by kernel_rfl)) (fun _ _ _ h => h) (Or.inr ⟨by rfl,rfl⟩) ?_ ?_
       rotate_left
       ·simp only [sp,i64_w,i32_w]
        rfl
       refine pure_ (i:= 34) (N:= some 52) (v:= undef) (a':= ?_) #[T_,T_,T_,T_,T_,T_,T_,T_,T_,T_,T_,T_,T_,T_,T_,T_,T_,T_,T_,T_,T_,T_,T_,T_,T_,T_,T_,T_,T_,T_,T_,T_,T_,T_,T_,F_,F_,F_] rfl rfl (any_of HT_.out (by kernel_rfl)) (fun _ _ _ h => h) (Or.inr ⟨by rfl,rfl⟩) ?_ ?_
       rotate_left
       ·simp only [sp,i64_w,i32_w]
        rfl
       refine pure_ (i:= 35) (N:= some 53) (v:= undef) (a':= ?_) #[T_,T_,T_,T_,T_,T_,T_,T_,T_,T_,T_,T_,T_,T_,T_,T_,T_,T_,T_,T_,T_,T_,T_,T_,T_,T_,T_,T_,T_,T_,T_,T_,T_,T_,T_,T_,F_,F_] rfl rfl (any_of HT_.out (by kernel_rfl)) (fun _ _ _ h => h) (Or.inr ⟨by rfl,rfl⟩) ?_ ?_
       rotate_left
       ·simp only [sp,i64_w,i32_w]
        rfl
       refine pure_ (i:= 36) (N:= some 54) (v:= undef) (a':= ?_) #[T_,T_,T_,T_,T_,T_,T_,T_,T_,T_,T_,T_,T_,T_,T_,T_,T_,T_,T_,T_,T_,T_,T_,T_,T_,T_,T_,T_,T_,T_,T_,T_,T_,T_,T_,T_,T_,F_] rfl rfl (any_of HT_.out (by kernel_rfl)) (fun _ _ _ h => h) (Or.inr ⟨by rfl,rfl⟩) ?_ ?_
       rotate_left
       ·simp only [sp,i64_w,i32_w]
        rfl
       refine pure_ (i:= 37) (N:= some 55) (v:= ?_) (a':= ?_) #[T_,T_,T_,T_,T_,T_,T_,T_,T_,T_,T_,T_,T_,T_,T_,T_,T_,T_,T_,T_,T_,T_,T_,T_,T_,T_,T_,T_,T_,T_,T_,T_,T_,T_,T_,T_,T_,T_] rfl rfl (any_of HT_.out (by kernel_rfl)) (fun _ _ _ h => h) (Or.inl ⟨by rfl,?_⟩) ?_ ?_
       rotate_left
       ·intro w'
        go_simp
        with_reducible rfl
       rotate_left
       ·simp only [sp,i64_w,i32_w]
        rfl
       refine done_ (done_of HT_.out (by kernel_rfl)) ?_
       try go_wp2
       go_meet
       case rel => exact ⟨_,(true),(by first|rfl|(simp;done)|(simp [*];done)),H',⟨by have:= HK1.out;first|omega|exact Nat.le_refl _⟩,⟨ub d0.out⟩,⟨by repeat (first|(with_reducible first|exact HB.out|apply below_alloc|apply pw_below_drewN|apply below_drew1|refine below_set ?_ v0.out)|exact HB.out)⟩⟩
     case rest =>
      clear HC5
      try clear c1
      try clear p2
      try clear c5
      try clear c9
      try clear c11
      obtain ⟨kq,a2,rfl,HA,HJ4,d0,HB⟩:= hcut
      cases kq with
     |zero => exact absurd HA.out (by simp [spec_l4Pivots.j1])
     |succ kj4 =>
       have H:= HA.out
       clear HA
       simp only [spec_l4Pivots.j1] at H
       by_cases c27 : a2 = true
       ·subst c27
        have H1 : (some false) = some r:= by rw [if_pos rfl] at H;exact H
        clear H
        have H:= H1
        clear H1
        obtain rfl:= Option.some.inj H
        go_wp2
        go_ret
        exact ⟨by first|rfl|(simp [errW_none,errW_some] <;> rfl)|(simp [*,errW_none,errW_some] <;> rfl),by repeat (first|(with_reducible first|exact HB.out|apply below_alloc|apply pw_below_drewN|apply below_drew1|refine below_set ?_ v0.out)|exact HB.out)⟩
       ·replace c27:= Bool.eq_false_iff.mpr c27
        subst c27
        have H1 : (spec_l4Pivots.l1 kj4 l0 l1 b0 0 ((rd_T50 l1 b0).f0) ((rd_T50 l1 b0).f1)) = some r:= by rw [if_neg (show ¬ (false = true) by decide)] at H;exact H
        clear H
        have H:= H1
        clear H1
        have H':= mk H
        clear H
        go_wp2
        go_loopg [7] kj4 (fun kq v7 w' => ∃ (q0 : Int),v7 = .int .i64 q0 ∧ Aside0 (spec_l4Pivots.l1 kq l0 l1 b0 q0 ((rd_T50 l1 b0).f0) ((rd_T50 l1 b0).f1) = some r) ∧ Aside0 (kq ≤ kj4) ∧ Aside0 (w'.heap[g0]? = some (.cells #[.int .i64 ((rd_T50 l1 b0).f0),.int .i64 ((rd_T50 l1 b0).f1)] 50 (0,0))) ∧ Aside0 (Below w.heap.size w w'))
        case atStart => exact ⟨(0),(by first|rfl|(simp;done)|(simp [*];done)),H',⟨Nat.le_refl _⟩,⟨ub d0.out⟩,⟨by repeat (first|(with_reducible first|exact HB.out|apply below_alloc|apply pw_below_drewN|apply below_drew1|refine below_set ?_ v0.out)|exact HB.out)⟩⟩
        case round =>
         clear H'
         try clear c1
         try clear c2
         try clear p2
         try clear c5
         try clear c9
         try clear c11
         try clear c27
         try clear p2
         obtain ⟨q0,rfl,HA,HK3,d0,HB⟩:= hrel
         cases gk with
        |zero => exact absurd HA.out (by simp [spec_l4Pivots.l1])
        |succ k3 =>
          have H:= HA.out
          clear HA
          simp only [spec_l4Pivots.l1] at H
          by_cases c28 : q0 < (l0.length : Int)
          ·rw [if_pos c28] at H
           have q3 : decide (q0 < (l0.length : Int)) = true:= decide_eq_true c28
           clear c28
           by_cases c29 : 0 ≤ q0
           ·rw [if_pos c29] at H
            have z4 : decide (0 ≤ q0) = true:= decide_eq_true c29
            clear c29
            by_cases c30 : ((decide ((rd l0 q0) < ((rd_T50 l1 b0).f0))) != (decide (q0 < ((rd_T50 l1 b0).f1)))) = true
            ·rw [if_pos c30] at H
             have o3 : ((decide ((rd l0 q0) < ((rd_T50 l1 b0).f0))) != (decide (q0 < ((rd_T50 l1 b0).f1)))) = true:= c30
             (try (have m3 : decide ((decide ((rd l0 q0) < ((rd_T50 l1 b0).f0))) = (decide (q0 < ((rd_T50 l1 b0).f1)))) = false:= by simpa using c30))
             (try (have j3 : ((decide ((rd l0 q0) < ((rd_T50 l1 b0).f0))) == (decide (q0 < ((rd_T50 l1 b0).f1)))) = false:= by simpa using c30))
             (try (have v4 : ¬ ((decide ((rd l0 q0) < ((rd_T50 l1 b0).f0))) = (decide (q0 < ((rd_T50 l1 b0).f1)))):= by simpa using c30))
             clear c30
             obtain rfl:= Option.some.inj H
             try go_wp2
             have n0_:= mk (blk_drew d0.out)
             have n1_:= mk (below_drew1 HB.out)
             clear d0
             clear HB
             have d0:= n0_
             have HB:= n1_
             clear n0_ n1_
             have j2 : 0 ≤ (q0 : Int):= of_decide_eq_true (by first|(with_reducible assumption)|assumption)
             have d2 : q0 < (l0.length : Int):= of_decide_eq_true (by first|(with_reducible assumption)|assumption)
             obtain ⟨m2,d3,j0⟩:= Kd.at_int HR0.out q0 j2 d2
             have hw114_0:= j0
             cases d3
             replace j0:= (HB.out.cell (World.block_lt_of_cell? w _ j0)).trans j0
             replace j2:= eq_true j2
             replace d2:= eq_true d2
             refine start_ (n:= 12) (S:= fun w' => w'.cell? ⟨g0,0,none⟩ = some (.int .i64 ((rd_T50 l1 b0).f0)) ∧ w'.cell? ⟨g0,1,none⟩ = some (.int .i64 ((rd_T50 l1 b0).f1)) ∧ w'.cell? (m2.add (q0).toNat) = some (.int .i64 (rd l0 q0))) (ds:= []) #[F_,F_,F_,F_,F_,F_,F_,F_,F_,F_,F_,F_] (by kernel_rfl) rfl rfl ⟨(blk_cell d0.out 0).trans rfl,(blk_cell d0.out 1).trans rfl,((HB.out.cell (World.block_lt_of_cell? w _ hw114_0)).trans hw114_0)⟩ (fun hHeld => ?_);refine with_tabW spec_l4Pivots.tab10 spec_l4Pivots.bits10 (fun HT_ HW_ => ?_)
             generalize wr.drew = w31 at d0 HB j0 hHeld ⊢
             refine pure_ (i:= 0) (N:= some 62) (v:= ?_) (a':= ?_) #[T_,F_,F_,F_,F_,F_,F_,F_,F_,F_,F_,F_] rfl rfl (any_of HT_.out (by kernel_rfl)) (fun _ _ _ h => h) (Or.inl ⟨by rfl,?_⟩) ?_ ?_
             rotate_left
             ·intro w'
              go_simp
              with_reducible rfl
             rotate_left
             ·simp only [sp,i64_w,i32_w]
              rfl
             refine pure_ (i:= 1) (N:= some 63) (v:= ?_) (a':= ?_) #[T_,T_,F_,F_,F_,F_,F_,F_,F_,F_,F_,F_] rfl rfl (any_of HT_.out (by kernel_rfl)) (fun _ _ _ h => h) (Or.inl ⟨by rfl,?_⟩) ?_ ?_
             rotate_left
             ·intro w'
              go_simp
              with_reducible rfl
             rotate_left
             ·simp only [sp,i64_w,i32_w]
              rfl
             refine pure_ (i:= 2) (N:= some 64) (v:= ?_) (a':= ?_) #[T_,T_,T_,F_,F_,F_,F_,F_,F_,F_,F_,F_] rfl rfl (any_of HT_.out (by kernel_rfl)) (fun _ _ _ h => h) (Or.inl ⟨by rfl,?_⟩) ?_ ?_
             rotate_left
             ·intro w'
              go_simp
              with_reducible rfl
             rotate_left
             ·simp only [sp,i64_w,i32_w]
              rfl
             refine pure_ (i:= 4) (N:= some 66) (v:= ?_) (a':= ?_) #[T_,T_,T_,F_,T_,F_,F_,F_,F_,F_,F_,F_] rfl rfl (any_of HT_.out (by kernel_rfl)) (fun _ _ _ h => h) (Or.inl ⟨by rfl,?_⟩) ?_ ?_
             rotate_left
             ·intro w'
              go_simp
              with_reducible rfl
             rotate_left
             ·simp only [sp,i64_w,i32_w]
              rfl
             refine pure_ (i:= 7) (N:= some 69) (v:= ?_) (a':= ?_) #[T_,T_,T_,F_,T_,F_,F_,T_,F_,F_,F_,F_] rfl rfl (any_of HT_.out (by kernel_rfl)) (fun _ _ _ h => h) (Or.inl ⟨by rfl,?_⟩) ?_ ?_
             rotate_left
             ·intro w'
              go_simp
              with_reducible rfl
             rotate_left
             ·simp only [sp,i64_w,i32_w]
              rfl
             refine pure_ (i:= 8) (N:= some 70) (v:= ?_) (a':= ?_) #[T_,T_,T_,F_,T_,F_,F_,T_,T_,F_,F_,F_] rfl rfl (any_of HT_.out (by kernel_rfl)) (fun _ _ _ h => h) (Or.inl ⟨by rfl,?_⟩) ?_ ?_
             rotate_left
             ·intro w'
              go_simp
              with_reducible rfl
             rotate_left
             ·simp only [sp,i64_w,i32_w]
              rfl
             refine take_ (i:= 3) (N:= some 65) (v:= ?_) (a':= ?_) #[T_,T_,T_,T_,T_,F_,F_,T_,T_,F_,F_,F_] rfl rfl (take_ofW HT_.out HW_.out (by kernel_rfl)) (fun _ _ _ h => h) (Or.inl ⟨by rfl,?_⟩) hHeld ?_ ?_
             rotate_left
             ·rintro w' ⟨s0,s1,s2⟩
              go_simp
              with_reducible rfl
             rotate_left
             ·simp only [sp,i64_w,i32_w]
              rfl
             refine take_ (i:= 5) (N:= some 67) (v:= ?_) (a':= ?_) #[T_,T_,T_,T_,T_,T_,F_,T_,T_,F_,F_,F_] rfl rfl (take_ofW HT_.out HW_.out (by kernel_rfl)) (fun _ _ _ h => h) (Or.inl ⟨by rfl,?_⟩) hHeld ?_ ?_
             rotate_left
             ·rintro w' ⟨s0,s1,s2⟩
              go_simp
              with_reducible rfl
             rotate_left
             ·simp only [sp,i64_w,i32_w]
              rfl
             refine pure_ (i:= 6) (N:= some 68) (v:= ?_) (a':= ?_) #[T_,T_,T_,T_,T_,T_,T_,T_,T_,F_,F_,F_] rfl rfl (any_of HT_.out (by kernel_rfl)) (fun _ _ _ h => h) (Or.inl ⟨by rfl,?_⟩) ?_ ?_
             rotate_left
             ·intro w'
              go_simp
              with_reducible rfl
             rotate_left
             ·simp only [sp,i64_w,i32_w]
              rfl
             refine take_ (i:= 9) (N:= some 71) (v:= ?_) (a':= ?_) #[T_,T_,T_,T_,T_,T_,T_,T_,T_,T_,F_,F_] rfl rfl (take_ofW HT_.out HW_.out (by kernel_rfl)) (fun _ _ _ h => h) (Or.inl ⟨by rfl,?_⟩) hHeld ?_ ?_
             rotate_left
             ·rintro w' ⟨s0,s1,s2⟩
              go_simp
              with_reducible rfl
             rotate_left
             ·simp only [sp,i64_w,i32_w]
              rfl
             refine pure_ (i:= 10) (N:= some 72) (v:= ?_) (a':= ?_) #[T_,T_,T_,T_,T_,T_,T_,T_,T_,T_,T_,F_] rfl rfl (any_of HT_.out (by kernel_rfl)) (fun _ _ _ h => h) (Or.inl ⟨by rfl,?_⟩) ?_ ?_
             rotate_left
             ·intro w'
              go_simp
              with_reducible rfl
             rotate_left
             ·simp only [sp,i64_w,i32_w]
              rfl
             refine pure_ (i:= 11) (N:= some 73) (v:= ?_) (a':= ?_) #[T_,T_,T_,T_,T_,T_,T_,T_,T_,T_,T_,T_] rfl rfl (any_of HT_.out (by kernel_rfl)) (fun _ _ _ h => h) (Or.inl ⟨by rfl,?_⟩) ?_ ?_
             rotate_left
             ·intro w'
              go_simp
              with_reducible rfl
             rotate_left
             ·simp only [sp,i64_w,i32_w]
              rfl
             refine done_ (done_of HT_.out (by kernel_rfl)) ?_
             try go_wp2
             go_ret
             exact ⟨by first|rfl|(simp [errW_none,errW_some] <;> rfl)|(simp [*,errW_none,errW_some] <;> rfl),by repeat (first|(with_reducible first|exact HB.out|apply below_alloc|apply pw_below_drewN|apply below_drew1|refine below_set ?_ v0.out)|exact HB.out)⟩
            ·rw [if_neg c30] at H
             have o3 : ((decide ((rd l0 q0) < ((rd_T50 l1 b0).f0))) != (decide (q0 < ((rd_T50 l1 b0).f1)))) = false:= by simpa using c30
             (try (have m3 : decide ((decide ((rd l0 q0) < ((rd_T50 l1 b0).f0))) = (decide (q0 < ((rd_T50 l1 b0).f1)))) = true:= by simpa using c30))
             (try (have j3 : ((decide ((rd l0 q0) < ((rd_T50 l1 b0).f0))) == (decide (q0 < ((rd_T50 l1 b0).f1)))) = true:= by simpa using c30))
             clear c30
             have H':= mk H
             clear H
             try go_wp2
             have n0_:= mk (blk_drew d0.out)
             have n1_:= mk (below_drew1 HB.out)
             clear d0
             clear HB
             have d0:= n0_
             have HB:= n1_
             clear n0_ n1_
             have j2 : 0 ≤ (q0 : Int):= of_decide_eq_true (by first|(with_reducible assumption)|assumption)
             have d2 : q0 < (l0.length : Int):= of_decide_eq_true (by first|(with_reducible assumption)|assumption)
             obtain ⟨m2,d3,j0⟩:= Kd.at_int HR0.out q0 j2 d2
             have hw114_0:= j0
             cases d3
             replace j0:= (HB.out.cell (World.block_lt_of_cell? w _ j0)).trans j0
             replace j2:= eq_true j2
             replace d2:= eq_true d2
             refine start_ (n:= 12) (S:= fun w' => w'.cell? ⟨g0,0,none⟩ = some (.int .i64 ((rd_T50 l1 b0).f0)) ∧ w'.cell? ⟨g0,1,none⟩ = some (.int .i64 ((rd_T50 l1 b0).f1)) ∧ w'.cell? (m2.add (q0).toNat) = some (.int .i64 (rd l0 q0))) (ds:= []) #[F_,F_,F_,F_,F_,F_,F_,F_,F_,F_,F_,F_] (by kernel_rfl) rfl rfl ⟨(blk_cell d0.out 0).trans rfl,(blk_cell d0.out 1).trans rfl,((HB.out.cell (World.block_lt_of_cell? w _ hw114_0)).trans hw114_0)⟩ (fun hHeld => ?_);refine with_tabW spec_l4Pivots.tab10 spec_l4Pivots.bits10 (fun HT_ HW_ => ?_)
             generalize wr.drew = w32 at d0 HB j0 hHeld ⊢
             refine pure_ (i:= 0) (N:= some 62) (v:= ?_) (a':= ?_) #[T_,F_,F_,F_,F_,F_,F_,F_,F_,F_,F_,F_] rfl rfl (any_of HT_.out (by kernel_rfl)) (fun _ _ _ h => h) (Or.inl ⟨by rfl,?_⟩) ?_ ?_
             rotate_left
             ·intro w'
              go_simp
              with_reducible rfl
             rotate_left
             ·simp only [sp,i64_w,i32_w]
              rfl
             refine pure_ (i:= 1) (N:= some 63) (v:= ?_) (a':= ?_) #[T_,T_,F_,F_,F_,F_,F_,F_,F_,F_,F_,F_] rfl rfl (any_of HT_.out (by kernel_rfl)) (fun _ _ _ h => h) (Or.inl ⟨by rfl,?_⟩) ?_ ?_
             rotate_left
             ·intro w'
              go_simp
              with_reducible rfl
             rotate_left
             ·simp only [sp,i64_w,i32_w]
              rfl
             refine pure_ (i:= 2) (N:= some 64) (v:= ?_) (a':= ?_) #[T_,T_,T_,F_,F_,F_,F_,F_,F_,F_,F_,F_] rfl rfl (any_of HT_.out (by kernel_rfl)) (fun _ _ _ h => h) (Or.inl ⟨by rfl,?_⟩) ?_ ?_
             rotate_left
             ·intro w'
              go_simp
              with_reducible rfl
             rotate_left
             ·simp only [sp,i64_w,i32_w]
              rfl
             refine pure_ (i:= 4) (N:= some 66) (v:= ?_) (a':= ?_) #[T_,T_,T_,F_,T_,F_,F_,F_,F_,F_,F_,F_] rfl rfl (any_of HT_.out (by kernel_rfl)) (fun _ _ _ h => h) (Or.inl ⟨by rfl,?_⟩) ?_ ?_
             rotate_left
             ·intro w'
              go_simp
              with_reducible rfl
             rotate_left
             ·simp only [sp,i64_w,i32_w]
              rfl
             refine pure_ (i:= 7) (N:= some 69) (v:= ?_) (a':= ?_) #[T_,T_,T_,F_,T_,F_,F_,T_,F_,F_,F_,F_] rfl rfl (any_of HT_.out (by kernel_rfl)) (fun _ _ _ h => h) (Or.inl ⟨by rfl,?_⟩) ?_ ?_
             rotate_left
             ·intro w'
              go_simp
              with_reducible rfl
             rotate_left
             ·simp only [sp,i64_w,i32_w]
              rfl
             refine pure_ (i:= 8) (N:= some 70) (v:= ?_) (a':= ?_) #[T_,T_,T_,F_,T_,F_,F_,T_,T_,F_,F_,F_] rfl rfl (any_of HT_.out (by kernel_rfl)) (fun _ _ _ h => h) (Or.inl ⟨by rfl,?_⟩) ?_ ?_
             rotate_left
             ·intro w'
              go_simp
              with_reducible rfl
             rotate_left
             ·simp only [sp,i64_w,i32_w]
              rfl
             refine take_ (i:= 3) (N:= some 65) (v:= ?_) (a':= ?_) #[T_,T_,T_,T_,T_,F_,F_,T_,T_,F_,F_,F_] rfl rfl (take_ofW HT_.out HW_.out (by kernel_rfl)) (fun _ _ _ h => h) (Or.inl ⟨by rfl,?_⟩) hHeld ?_ ?_
             rotate_left
             ·rintro w' ⟨s0,s1,s2⟩
              go_simp
              with_reducible rfl
             rotate_left
             ·simp only [sp,i64_w,i32_w]
              rfl
             refine take_ (i:= 5) (N:= some 67) (v:= ?_) (a':= ?_) #[T_,T_,T_,T_,T_,T_,F_,T_,T_,F_,F_,F_] rfl rfl (take_ofW HT_.out HW_.out (by kernel_rfl)) (fun _ _ _ h => h) (Or.inl ⟨by rfl,?_⟩) hHeld ?_ ?_
             rotate_left
             ·rintro w' ⟨s0,s1,s2⟩
              go_simp
              with_reducible rfl
             rotate_left
             ·simp only [sp,i64_w,i32_w]
              rfl
             refine pure_ (i:= 6) (N:= some 68) (v:= ?_) (a':= ?_) #[T_,T_,T_,T_,T_,T_,T_,T_,T_,F_,F_,F_] rfl rfl (any_of HT_.out (by kernel_rfl)) (fun _ _ _ h => h) (Or.inl ⟨by rfl,?_⟩) ?_ ?_
             rotate_left
             ·intro w'
              go_simp
              with_reducible rfl
             rotate_left
             ·simp only [sp,i64_w,i32_w]
              rfl
             refine take_ (i:= 9) (N:= some 71) (v:= ?_) (a':= ?_) #[T_,T_,T_,T_,T_,T_,T_,T_,T_,T_,F_,F_] rfl rfl (take_ofW HT_.out HW_.out (by kernel_rfl)) (fun _ _ _ h => h) (Or.inl ⟨by rfl,?_⟩) hHeld ?_ ?_
             rotate_left
             ·rintro w' ⟨s0,s1,s2⟩
              go_simp
              with_reducible rfl
             rotate_left
             ·simp only [sp,i64_w,i32_w]
              rfl
             refine pure_ (i:= 10) (N:= some 72) (v:= ?_) (a':= ?_) #[T_,T_,T_,T_,T_,T_,T_,T_,T_,T_,T_,F_] rfl rfl (any_of HT_.out (by kernel_rfl)) (fun _ _ _ h => h) (Or.inl ⟨by rfl,?_⟩) ?_ ?_
             rotate_left
             ·intro w'
              go_simp
              with_reducible rfl
             rotate_left
             ·simp only [sp,i64_w,i32_w]
              rfl
             refine pure_ (i:= 11) (N:= some 73) (v:= ?_) (a':= ?_) #[T_,T_,T_,T_,T_,T_,T_,T_,T_,T_,T_,T_] rfl rfl (any_of HT_.out (by kernel_rfl)) (fun _ _ _ h => h) (Or.inl ⟨by rfl,?_⟩) ?_ ?_
             rotate_left
             ·intro w'
              go_simp
              with_reducible rfl
             rotate_left
             ·simp only [sp,i64_w,i32_w]
              rfl
             refine done_ (done_of HT_.out (by kernel_rfl)) ?_
             try go_wp2
             go_roundg k3
             case measure => have:= HK1.out;have:= HJ4.out;have:= HK3.out;omega
             case rel => exact ⟨(wrap64 (q0 + 1)),(by first|rfl|(simp;done)|(simp [*];done)),H',⟨by have:= HK1.out;have:= HJ4.out;have:= HK3.out;omega⟩,⟨ub d0.out⟩,⟨by repeat (first|(with_reducible first|exact HB.out|apply below_alloc|apply pw_below_drewN|apply below_drew1|refine below_set ?_ v0.out)|exact HB.out)⟩⟩
           ·rw [if_neg c29] at H
            exact absurd H (by simp)
          ·rw [if_neg c28] at H
           have q3 : decide (q0 < (l0.length : Int)) = false:= decide_eq_false c28
           clear c28
           have H':= mk H
           clear H
           go_wp2
           go_roundg k3
           case measure => have:= HK1.out;have:= HJ4.out;have:= HK3.out;omega
           case rel => exact ⟨(wrap64 (b0 + 1)),(by first|rfl|(simp;done)|(simp [*];done)),H',⟨by have:= HK1.out;have:= HJ4.out;have:= HK3.out;omega⟩,⟨by repeat (first|(with_reducible first|exact HB.out|apply below_alloc|apply pw_below_drewN|apply below_drew1|refine below_set ?_ v0.out)|exact HB.out)⟩⟩
    ·rw [if_neg c4] at H
     exact absurd H (by simp)
   ·rw [if_neg c3] at H
    have q4 : decide (b0 < (l1.length : Int)) = false:= decide_eq_false c3
    clear c3
    obtain rfl:= Option.some.inj H
    go_wp2
    go_ret
    exact ⟨by first|rfl|(simp [errW_none,errW_some] <;> rfl)|(simp [*,errW_none,errW_some] <;> rfl),by repeat (first|(with_reducible first|exact HB.out|apply below_alloc|apply pw_below_drewN|apply below_drew1)|exact HB.out)⟩

end Go.Proofs.Ytlikcmonejefoab.PFnExactRippleDelete
