-- printed by a program of this session, a turned copy of the print of the kit
import Derived.Test.YtbolealjmfbhjaaSq
import Derived.Test.YtbolealjmfbhjaaPFnExactIsPendingx0
import Derived.Test.YtbolealjmfbhjaaPFnExactIsPendingx2
import Derived.Test.YtbolealjmfbhjaaPFnExactIsPendingx4
namespace Go.Proofs.Ytbolealjmfbhjaa.PFnExactIsPending
open Go.RowKit Go.Proofs.YtbolealjmfbhjaaW.PrintWords Go.Proofs.YtbolealjmfbhjaaW.PrintLast Go.Proofs.YtbolealjmfbhjaaW.PrintMore Go.Proofs.Ytbolealjmfbhjaa.Sq
attribute [local go_sem] max2_int min2_int max_two min_two max_three min_three max_four min_four Giv.cell_twice   -- for this text's walks alone
set_option linter.unusedVariables false
set_option linter.unusedSimpArgs false

/-! ### spec_IsPending: function 37 -/
mutual
def spec_IsPending.j0 : Nat → Bool → List Int → List Int → List (S69) → List (S96) → List Int → Option (Bool)
 | 0, _, _, _, _, _, _ => none
 | k + 1, x32, x173000, x173001, x173002, x174000, x174001 => if x32 = true then (some false) else (spec_IsPending.l0 k 0 x173000 x173001 x173002 x174000 x174001)
def spec_IsPending.l0 : Nat → Int → List Int → List Int → List (S69) → List (S96) → List Int → Option (Bool)
 | 0, _, _, _, _, _, _ => none
 | k + 1, x5, x173000, x173001, x173002, x174000, x174001 => if x5 < (x174000.length : Int) then (if 0 ≤ x5 then ((spec_IsItem.f ((rd_T96 x174000 x5).f0) ((rd_T96 x174000 x5).f1)).bind fun t177 => (if t177 = true then ((spec_FindRow.f k x173000 x173001 x173002 ((rd_T96 x174000 x5).f1)).bind fun t178 => (if t178 ≥ 0 then (some false) else ((spec_l11HasRow.f k x174000 x174001 ((rd_T96 x174000 x5).f1)).bind fun t179 => (if t179 = x5 then (spec_IsPending.l0 k (wrap64 (x5 + 1)) x173000 x173001 x173002 x174000 x174001) else (some false))))) else (some false))) else (none)) else (spec_IsPending.l1 k 0 x173000 x173001 x173002 x174000 x174001)
def spec_IsPending.l1 : Nat → Int → List Int → List Int → List (S69) → List (S96) → List Int → Option (Bool)
 | 0, _, _, _, _, _, _ => none
 | k + 1, x7, x173000, x173001, x173002, x174000, x174001 => if x7 < (x174001.length : Int) then (if 0 ≤ x7 then ((spec_FindRow.f k x173000 x173001 x173002 (rd x174001 x7)).bind fun t181 => (if t181 < 0 then (some false) else (if x7 ≤ (x174001.length : Int) then ((spec_l4Has.f k (x174001.take (x7 : Int).toNat) (rd x174001 x7)).bind fun t184 => (if t184 = true then (some false) else (spec_IsPending.l1 k (wrap64 (x7 + 1)) x173000 x173001 x173002 x174000 x174001))) else (none)))) else (none)) else (some true)
end
def spec_IsPending.f (k : Nat) (l0_0 : List Int) (l0_1 : List Int) (l0_2 : List (S69)) (l1_0 : List (S96)) (l1_1 : List Int) : Option (Bool) := (spec_IsCracker.f k l0_0 l0_1 l0_2).bind fun t174 => (if t174 = true then (if (l1_0.length : Int) > 20 then (spec_IsPending.j0 k true l0_0 l0_1 l0_2 l1_0 l1_1) else (if (l1_1.length : Int) > 20 then (spec_IsPending.j0 k true l0_0 l0_1 l0_2 l1_0 l1_1) else (spec_IsPending.j0 k (decide ((wrap64 ((l0_0.length : Int) + (l1_0.length : Int))) > 64)) l0_0 l0_1 l0_2 l1_0 l1_1))) else (spec_IsPending.j0 k true l0_0 l0_1 l0_2 l1_0 l1_1))
theorem spec_IsPending.mono_l : ∀ k, (∀ y0 y1 y2 y3 y4 y5, LeO (spec_IsPending.j0 k y0 y1 y2 y3 y4 y5) (spec_IsPending.j0 (k + 1) y0 y1 y2 y3 y4 y5)) ∧ (∀ y0 y1 y2 y3 y4 y5, LeO (spec_IsPending.l0 k y0 y1 y2 y3 y4 y5) (spec_IsPending.l0 (k + 1) y0 y1 y2 y3 y4 y5)) ∧ (∀ y0 y1 y2 y3 y4 y5, LeO (spec_IsPending.l1 k y0 y1 y2 y3 y4 y5) (spec_IsPending.l1 (k + 1) y0 y1 y2 y3 y4 y5))
 | 0 => ⟨fun _ _ _ _ _ _ r h => by simp [spec_IsPending.j0] at h, fun _ _ _ _ _ _ r h => by simp [spec_IsPending.l0] at h, fun _ _ _ _ _ _ r h => by simp [spec_IsPending.l1] at h⟩
 | k + 1 => by
  obtain ⟨ih0, ih1, ih2⟩ := spec_IsPending.mono_l k
  refine ⟨?_, ?_, ?_⟩
  ·intro y0 y1 y2 y3 y4 y5
   unfold spec_IsPending.j0
   repeat' first
   | (with_reducible exact ih0 _ _ _ _ _ _)
   | (with_reducible exact ih1 _ _ _ _ _ _)
   | (with_reducible exact ih2 _ _ _ _ _ _)
   | (with_reducible exact spec_FindRow.mono _ _ _ _ _)
   | (with_reducible exact spec_IsCracker.mono _ _ _ _)
   | (with_reducible exact spec_l11HasRow.mono _ _ _ _)
   | (with_reducible exact spec_l4Has.mono _ _ _)
   | (with_reducible exact LeO.refl _)
   | (with_reducible exact LeO.none _)
   | (with_reducible refine LeO.ite ?_ ?_)
   | (with_reducible refine LeO.bind ?_ (fun _ => ?_))
   | exact ih0 _ _ _ _ _ _
   | exact ih1 _ _ _ _ _ _
   | exact ih2 _ _ _ _ _ _
   | exact spec_FindRow.mono _ _ _ _ _
   | exact spec_IsCracker.mono _ _ _ _
   | exact spec_l11HasRow.mono _ _ _ _
   | exact spec_l4Has.mono _ _ _
   | exact LeO.none _
   | refine LeO.ite ?_ ?_
   | refine LeO.bind ?_ (fun _ => ?_)
  ·intro y0 y1 y2 y3 y4 y5
   unfold spec_IsPending.l0
   repeat' first
   | (with_reducible exact ih0 _ _ _ _ _ _)
   | (with_reducible exact ih1 _ _ _ _ _ _)
   | (with_reducible exact ih2 _ _ _ _ _ _)
   | (with_reducible exact spec_FindRow.mono _ _ _ _ _)
   | (with_reducible exact spec_IsCracker.mono _ _ _ _)
   | (with_reducible exact spec_l11HasRow.mono _ _ _ _)
   | (with_reducible exact spec_l4Has.mono _ _ _)
   | (with_reducible exact LeO.refl _)
   | (with_reducible exact LeO.none _)
   | (with_reducible refine LeO.ite ?_ ?_)
   | (with_reducible refine LeO.bind ?_ (fun _ => ?_))
   | exact ih0 _ _ _ _ _ _
   | exact ih1 _ _ _ _ _ _
   | exact ih2 _ _ _ _ _ _
   | exact spec_FindRow.mono _ _ _ _ _
   | exact spec_IsCracker.mono _ _ _ _
   | exact spec_l11HasRow.mono _ _ _ _
   | exact spec_l4Has.mono _ _ _
   | exact LeO.none _
   | refine LeO.ite ?_ ?_
   | refine LeO.bind ?_ (fun _ => ?_)
  ·intro y0 y1 y2 y3 y4 y5
   unfold spec_IsPending.l1
   repeat' first
   | (with_reducible exact ih0 _ _ _ _ _ _)
   | (with_reducible exact ih1 _ _ _ _ _ _)
   | (with_reducible exact ih2 _ _ _ _ _ _)
   | (with_reducible exact spec_FindRow.mono _ _ _ _ _)
   | (with_reducible exact spec_IsCracker.mono _ _ _ _)
   | (with_reducible exact spec_l11HasRow.mono _ _ _ _)
   | (with_reducible exact spec_l4Has.mono _ _ _)
   | (with_reducible exact LeO.refl _)
   | (with_reducible exact LeO.none _)
   | (with_reducible refine LeO.ite ?_ ?_)
   | (with_reducible refine LeO.bind ?_ (fun _ => ?_))
   | exact ih0 _ _ _ _ _ _
   | exact ih1 _ _ _ _ _ _
   | exact ih2 _ _ _ _ _ _
   | exact spec_FindRow.mono _ _ _ _ _
   | exact spec_IsCracker.mono _ _ _ _
   | exact spec_l11HasRow.mono _ _ _ _
   | exact spec_l4Has.mono _ _ _
   | exact LeO.none _
   | refine LeO.ite ?_ ?_
   | refine LeO.bind ?_ (fun _ => ?_)
theorem spec_IsPending.mono : ∀ a0 a1 a2 a3 a4 k, LeO (spec_IsPending.f k a0 a1 a2 a3 a4) (spec_IsPending.f (k + 1) a0 a1 a2 a3 a4) := by
 intro a0 a1 a2 a3 a4 k
 obtain ⟨ih0,ih1,ih2⟩:= spec_IsPending.mono_l k
 unfold spec_IsPending.f
 repeat' first
  |(with_reducible exact ih0 _ _ _ _ _ _)
  |(with_reducible exact ih1 _ _ _ _ _ _)
  |(with_reducible exact ih2 _ _ _ _ _ _)
  |(with_reducible exact spec_FindRow.mono _ _ _ _ _)
  |(with_reducible exact spec_IsCracker.mono _ _ _ _)
  |(with_reducible exact spec_l11HasRow.mono _ _ _ _)
  |(with_reducible exact spec_l4Has.mono _ _ _)
  |(with_reducible exact LeO.refl _)
  |(with_reducible exact LeO.none _)
  |(with_reducible refine LeO.ite ?_ ?_)
  |(with_reducible refine LeO.bind ?_ (fun _ => ?_))
  |exact ih0 _ _ _ _ _ _
  |exact ih1 _ _ _ _ _ _
  |exact ih2 _ _ _ _ _ _
  |exact spec_FindRow.mono _ _ _ _ _
  |exact spec_IsCracker.mono _ _ _ _
  |exact spec_l11HasRow.mono _ _ _ _
  |exact spec_l4Has.mono _ _ _
  |exact LeO.none _
  |refine LeO.ite ?_ ?_
  |refine LeO.bind ?_ (fun _ => ?_)
def spec_IsPending.T12 : Bool × List (List Nat × List Nat) := (true, [([], []), ([], []), ([1], [1]), ([], []), ([2, 3], [2, 3]), ([4], [4]), ([0, 5], [0, 5]), ([6], [6]), ([7, 6], [7]), ([8], [8]), ([9, 8], [8, 9]), ([8], [8]), ([10, 11, 8], [8, 10, 11]), ([8], [8]), ([13, 8], [8, 13]), ([8], [8]), ([14, 15, 8], [8, 14, 15]), ([16, 8], [8, 16]), ([12, 17, 8, 8], [8, 12, 17]), ([8, 18], [8, 18])])
def spec_IsPending.B12 : List Nat := [0, 0, 2, 0, 14, 30, 63, 127, 255, 511, 1023, 511, 4095, 511, 8703, 511, 57855, 123391, 262143, 524287]
theorem spec_IsPending.tab12 : rtab .any (opsOf Try.f37 12) = spec_IsPending.T12 := by kernel_rfl
theorem spec_IsPending.bits12 : waitsOk spec_IsPending.T12.2 spec_IsPending.B12 = true := by kernel_rfl
set_option maxHeartbeats 8000000 in
set_option maxRecDepth 100000 in
theorem spec_IsPending.calls (k : Nat) (A0_0 : Option Addr) (c0_0 : Nat) (l0_0 : List Int) (A0_1 : Option Addr) (c0_1 : Nat) (l0_1 : List Int) (A0_2 : Option Addr) (c0_2 : Nat) (l0_2 : List (S69)) (A1_0 : Option Addr) (c1_0 : Nat) (l1_0 : List (S96)) (A1_1 : Option Addr) (c1_1 : Nat) (l1_1 : List Int) (r : Bool) (w : World) (hr0_0 : Kd.C (Kd.int .i64) w A0_0 l0_0.length l0_0) (hc0_0 : l0_0.length ≤ c0_0) (hr0_1 : Kd.C (Kd.int .i64) w A0_1 l0_1.length l0_1) (hc0_1 : l0_1.length ≤ c0_1) (hr0_2 : Kd.C k69 w A0_2 l0_2.length l0_2) (hc0_2 : l0_2.length ≤ c0_2) (hr1_0 : Kd.C k96 w A1_0 l1_0.length l1_0) (hc1_0 : l1_0.length ≤ c1_0) (hr1_1 : Kd.C (Kd.int .i64) w A1_1 l1_1.length l1_1) (hc1_1 : l1_1.length ≤ c1_1) (h : spec_IsPending.f k l0_0 l0_1 l0_2 l1_0 l1_1 = some r) :
  Calls Try.prog 37 #[.agg #[.slice A0_0 l0_0.length c0_0, .slice A0_1 l0_1.length c0_1, .slice A0_2 l0_2.length c0_2], .agg #[.slice A1_0 l1_0.length c1_0, .slice A1_1 l1_1.length c1_1]] w fun e w' => e = .returned (.bool r) ∧ Below w.heap.size w w' := by
 have hu30:= Try.underlying30
 have hu61:= Try.underlying61
 have hu96:= Try.underlying96
 have HR0_0:= mk hr0_0
 have HC0_0:= mk hc0_0
 clear hr0_0 hc0_0
 have HR0_1:= mk hr0_1
 have HC0_1:= mk hc0_1
 clear hr0_1 hc0_1
 have HR0_2:= mk hr0_2
 have HC0_2:= mk hc0_2
 clear hr0_2 hc0_2
 have HR1_0:= mk hr1_0
 have HC1_0:= mk hc1_0
 clear hr1_0 hc1_0
 have HR1_1:= mk hr1_1
 have HC1_1:= mk hc1_1
 clear hr1_1 hc1_1
 have HB:= mk (Below.refl w.heap.size w)
 have H : ((spec_IsCracker.f k l0_0 l0_1 l0_2).bind fun t174 => (if t174 = true then (if (l1_0.length : Int) > 20 then (spec_IsPending.j0 k true l0_0 l0_1 l0_2 l1_0 l1_1) else (if (l1_1.length : Int) > 20 then (spec_IsPending.j0 k true l0_0 l0_1 l0_2 l1_0 l1_1) else (spec_IsPending.j0 k (decide ((wrap64 ((l0_0.length : Int) + (l1_0.length : Int))) > 64)) l0_0 l0_1 l0_2 l1_0 l1_1))) else (spec_IsPending.j0 k true l0_0 l0_1 l0_2 l1_0 l1_1))) = some r:= h
 clear h
 have HC3:= mk H
 clear H
 go_enter Try.func37,Try.ntmps37
 go_upto_region 1 with (first|((with_reducible refine gate_dst (N:= 2) rfl ?_);(try (refine gate_guard (by rfl) ?_;dsimp only));refine box_event ?hg (N:= 2) ?hd (cs:= #[.slice A0_0 l0_0.length c0_0,.slice A0_1 l0_1.length c0_1,.slice A0_2 l0_2.length c0_2]) (t:= 30) ?hr ?_;(case hd => rfl);(case hg => rfl);(case hr => first|(go_simp;done)|(go_simp;rfl));intro gb172 hg w4 hbox hb;have n0_:= mk (below_step (by repeat (first|(with_reducible first|exact HB.out|apply below_alloc|apply pw_below_drewN|apply below_drew1)|exact HB.out)) hb);have n1_:= mk (hbox);have n2_:= mk ((by rw [hg];exact (below_size (by repeat (first|(with_reducible first|exact HB.out|apply below_alloc|apply pw_below_drewN|apply below_drew1)|exact HB.out))) : w.heap.size ≤ gb172));have n3_:= mk ((by rw [hg];exact (below_size (by repeat (first|(with_reducible first|exact HB.out|apply below_alloc|apply pw_below_drewN|apply below_drew1)|exact HB.out))) : w.heap.size ≤ gb172));clear HB;have HB:= n0_;have BK172:= n1_;have GW172:= n2_;have GE172:= n3_;clear n0_ n1_ n2_ n3_;clear hb hbox hg)|((with_reducible refine gate_dst (N:= 3) rfl ?_);(try (refine gate_guard (by rfl) ?_;dsimp only));refine box_event ?hg (N:= 3) ?hd (cs:= #[.slice A1_0 l1_0.length c1_0,.slice A1_1 l1_1.length c1_1]) (t:= 61) ?hr ?_;(case hd => rfl);(case hg => rfl);(case hr => first|(go_simp;done)|(go_simp;rfl));intro gb173 hg w5 hbox hb;have n0_:= mk (blk_below (g:= gb172) (o:= .cells #[.slice A0_0 l0_0.length c0_0,.slice A0_1 l0_1.length c0_1,.slice A0_2 l0_2.length c0_2] 30 (0,0)) (ub BK172.out) hb);have n1_:= mk (below_step (by repeat (first|(with_reducible first|exact HB.out|apply below_alloc|apply pw_below_drewN|apply below_drew1|refine below_set ?_ GE172.out)|exact HB.out)) hb);have n2_:= mk (hbox);have n3_:= mk ((by rw [hg];exact (below_size (by repeat (first|(with_reducible first|exact HB.out|apply below_alloc|apply pw_below_drewN|apply below_drew1|refine below_set ?_ GE172.out)|exact HB.out))) : w.heap.size ≤ gb173));have n4_:= mk ((by rw [hg];exact (below_size (by repeat (first|(with_reducible first|exact HB.out|apply below_alloc|apply pw_below_drewN|apply below_drew1|refine below_set ?_ GE172.out)|exact HB.out))) : w.heap.size ≤ gb173));have n5_:= mk ((by rw [hg];exact Nat.ne_of_lt (blk_lt (g:= gb172) (o:= .cells #[.slice A0_0 l0_0.length c0_0,.slice A0_1 l0_1.length c0_1,.slice A0_2 l0_2.length c0_2] 30 (0,0)) (ub BK172.out)) : gb172 ≠ gb173));have n6_:= mk ((by rw [hg];exact Nat.ne_of_gt (blk_lt (g:= gb172) (o:= .cells #[.slice A0_0 l0_0.length c0_0,.slice A0_1 l0_1.length c0_1,.slice A0_2 l0_2.length c0_2] 30 (0,0)) (ub BK172.out)) : gb173 ≠ gb172));clear BK172;clear HB;have BK172:= n0_;have HB:= n1_;have BK173:= n2_;have GW173:= n3_;have GE173:= n4_;have NB172_173:= n5_;have NB173_172:= n6_;clear n0_ n1_ n2_ n3_ n4_ n5_ n6_;clear hb hbox hg))
 (try simp only [Act.put,List.setIfInBounds_toArray,List.set_cons_zero,List.set_cons_succ])
 go_cut [32] (fun v32 wc => ∃ (kq : Nat) (x32_2 : Bool),v32 = .bool x32_2 ∧ Aside0 (spec_IsPending.j0 kq x32_2 l0_0 l0_1 l0_2 l1_0 l1_1 = some r) ∧ Aside0 (kq ≤ k) ∧ Aside0 (wc.heap[gb172]? = some (.cells #[(.slice A0_0 l0_0.length c0_0),(.slice A0_1 l0_1.length c0_1),(.slice A0_2 l0_2.length c0_2)] 30 (0,0))) ∧ Aside0 (wc.heap[gb173]? = some (.cells #[(.slice A1_0 l1_0.length c1_0),(.slice A1_1 l1_1.length c1_1)] 61 (0,0))) ∧ Aside0 (Below w.heap.size w wc))
 case first =>
  have H:= HC3.out
  clear HC3
  replace H:= Option.bind_eq_some_iff.mp H
  obtain ⟨t174,A60,H⟩:= H
  replace H : (if t174 = true then (if (l1_0.length : Int) > 20 then (spec_IsPending.j0 k true l0_0 l0_1 l0_2 l1_0 l1_1) else (if (l1_1.length : Int) > 20 then (spec_IsPending.j0 k true l0_0 l0_1 l0_2 l1_0 l1_1) else (spec_IsPending.j0 k (decide ((wrap64 ((l0_0.length : Int) + (l1_0.length : Int))) > 64)) l0_0 l0_1 l0_2 l1_0 l1_1))) else (spec_IsPending.j0 k true l0_0 l0_1 l0_2 l1_0 l1_1)) = some r:= H
  have A6:= mk A60
  clear A60
  by_cases c7 : t174 = true
  ·subst c7
   have H1 : (if (l1_0.length : Int) > 20 then (spec_IsPending.j0 k true l0_0 l0_1 l0_2 l1_0 l1_1) else (if (l1_1.length : Int) > 20 then (spec_IsPending.j0 k true l0_0 l0_1 l0_2 l1_0 l1_1) else (spec_IsPending.j0 k (decide ((wrap64 ((l0_0.length : Int) + (l1_0.length : Int))) > 64)) l0_0 l0_1 l0_2 l1_0 l1_1))) = some r:= by rw [if_pos rfl] at H;exact H
   clear H
   have H:= H1
   clear H1
   by_cases c8 : (l1_0.length : Int) > 20
   ·rw [if_pos c8] at H
    have c8b0 : decide (20 < (l1_0.length : Int)) = true:= decide_eq_true c8
    have c8b1 : decide (20 < l1_0.length) = true:= decide_eq_true (by omega)
    clear c8
    (first|rw [c8b0]|(simp only [i64_w,i32_w];rw [c8b0])|skip)
    have H':= mk H
    clear H
    have hnb9:= NB172_173.out
    have hnc9:= NB173_172.out
    have hcz10_0 : w5.cell? ⟨gb172,0,none⟩ = some (.slice A0_0 l0_0.length c0_0):= (blk_cell BK172.out 0).trans rfl
    have hcz10_1 : w5.cell? ⟨gb172,1,none⟩ = some (.slice A0_1 l0_1.length c0_1):= (blk_cell BK172.out 1).trans rfl
    have hcz10_2 : w5.cell? ⟨gb172,2,none⟩ = some (.slice A0_2 l0_2.length c0_2):= (blk_cell BK172.out 2).trans rfl
    have hfz10_0:= blk_frozen BK172.out 0
    have hfz10_1:= blk_frozen BK172.out 1
    have hfz10_2:= blk_frozen BK172.out 2
    go_wp2_with (first|((with_reducible refine gate_callee (f:= 13) rfl ?_);refine goesL_ (some 9) rfl rfl Try.func13 (by kernel_rfl) rfl #[.agg #[.slice A0_0 l0_0.length c0_0,.slice A0_1 l0_1.length c0_1,.slice A0_2 l0_2.length c0_2]] rfl (by (try simp only [List.map_toArray,List.map_cons,List.map_nil]);first|done|rfl|(simp only [List.length_drop,List.length_take];rfl)) ?_;(with_reducible refine (spec_IsCracker.calls k _ _ l0_0 _ _ l0_1 _ _ l0_2 true _ ?side1 ?side2 ?side3 ?side4 ?side5 ?side6 A6.out).mono ?_);(case side1 => exact uc (Kd.C_below HR0_0.out HB.out));(case side2 => exact HC0_0.out);(case side3 => exact uc (Kd.C_below HR0_1.out HB.out));(case side4 => exact HC0_1.out);(case side5 => exact uc (Kd.C_below HR0_2.out HB.out));(case side6 => exact HC0_2.out);rintro e w11 ⟨rfl,hb⟩;refine ⟨_,rfl,?_⟩;have n0_:= mk (blk_below (g:= gb172) (o:= .cells #[.slice A0_0 l0_0.length c0_0,.slice A0_1 l0_1.length c0_1,.slice A0_2 l0_2.length c0_2] 30 (0,0)) (ub BK172.out) hb);have n1_:= mk (blk_below (g:= gb173) (o:= .cells #[.slice A1_0 l1_0.length c1_0,.slice A1_1 l1_1.length c1_1] 61 (0,0)) (ub BK173.out) hb);have n2_:= mk (below_step (by repeat (first|(with_reducible first|exact HB.out|apply below_alloc|apply pw_below_drewN|apply below_drew1|refine below_set ?_ GE172.out|refine below_set ?_ GE173.out)|exact HB.out)) hb);clear BK172;clear BK173;clear HB;have BK172:= n0_;have BK173:= n1_;have HB:= n2_;clear n0_ n1_ n2_;(try clear hb);(try clear hb2);(try clear hk);(try clear hi);have hcz12_0 : w11.cell? ⟨gb173,0,none⟩ = some (.slice A1_0 l1_0.length c1_0):= (blk_cell BK173.out 0).trans rfl;have hcz12_1 : w11.cell? ⟨gb173,1,none⟩ = some (.slice A1_1 l1_1.length c1_1):= (blk_cell BK173.out 1).trans rfl;have hfz12_0:= blk_frozen BK173.out 0;have hfz12_1:= blk_frozen BK173.out 1))
    go_meet
    case rel => exact ⟨_,(true),(by first|rfl|(simp;done)|(simp [*];done)),H',⟨by first|omega|exact Nat.le_refl _⟩,⟨ub BK172.out⟩,⟨ub BK173.out⟩,⟨by repeat (first|(with_reducible first|exact HB.out|apply below_alloc|apply pw_below_drewN|apply below_drew1|refine below_set ?_ GE172.out|refine below_set ?_ GE173.out)|exact HB.out)⟩⟩
   ·rw [if_neg c8] at H
    have c8b0 : decide (20 < (l1_0.length : Int)) = false:= decide_eq_false c8
    have c8b1 : decide (20 < l1_0.length) = false:= decide_eq_false (by omega)
    clear c8
    (first|rw [c8b0]|(simp only [i64_w,i32_w];rw [c8b0])|skip)
    by_cases c13 : (l1_1.length : Int) > 20
    ·rw [if_pos c13] at H
     have c13b0 : decide (20 < (l1_1.length : Int)) = true:= decide_eq_true c13
     have c13b1 : decide (20 < l1_1.length) = true:= decide_eq_true (by omega)
     clear c13
     have H':= mk H
     clear H
     have hnb14:= NB172_173.out
     have hnc14:= NB173_172.out
     have hcz15_0 : w5.cell? ⟨gb172,0,none⟩ = some (.slice A0_0 l0_0.length c0_0):= (blk_cell BK172.out 0).trans rfl
     have hcz15_1 : w5.cell? ⟨gb172,1,none⟩ = some (.slice A0_1 l0_1.length c0_1):= (blk_cell BK172.out 1).trans rfl
     have hcz15_2 : w5.cell? ⟨gb172,2,none⟩ = some (.slice A0_2 l0_2.length c0_2):= (blk_cell BK172.out 2).trans rfl
     have hfz15_0:= blk_frozen BK172.out 0
     have hfz15_1:= blk_frozen BK172.out 1
     have hfz15_2:= blk_frozen BK172.out 2
     go_wp2_with (first|((with_reducible refine gate_callee (f:= 13) rfl ?_);refine goesL_ (some 9) rfl rfl Try.func13 (by kernel_rfl) rfl #[.agg #[.slice A0_0 l0_0.length c0_0,.slice A0_1 l0_1.length c0_1,.slice A0_2 l0_2.length c0_2]] rfl (by (try simp only [List.map_toArray,List.map_cons,List.map_nil]);first|done|rfl|(simp only [List.length_drop,List.length_take];rfl)) ?_;(with_reducible refine (spec_IsCracker.calls k _ _ l0_0 _ _ l0_1 _ _ l0_2 true _ ?side1 ?side2 ?side3 ?side4 ?side5 ?side6 A6.out).mono ?_);(case side1 => exact uc (Kd.C_below HR0_0.out HB.out));(case side2 => exact HC0_0.out);(case side3 => exact uc (Kd.C_below HR0_1.out HB.out));(case side4 => exact HC0_1.out);(case side5 => exact uc (Kd.C_below HR0_2.out HB.out));(case side6 => exact HC0_2.out);rintro e w16 ⟨rfl,hb⟩;refine ⟨_,rfl,?_⟩;have n0_:= mk (blk_below (g:= gb172) (o:= .cells #[.slice A0_0 l0_0.length c0_0,.slice A0_1 l0_1.length c0_1,.slice A0_2 l0_2.length c0_2] 30 (0,0)) (ub BK172.out) hb);have n1_:= mk (blk_below (g:= gb173) (o:= .cells #[.slice A1_0 l1_0.length c1_0,.slice A1_1 l1_1.length c1_1] 61 (0,0)) (ub BK173.out) hb);have n2_:= mk (below_step (by repeat (first|(with_reducible first|exact HB.out|apply below_alloc|apply pw_below_drewN|apply below_drew1|refine below_set ?_ GE172.out|refine below_set ?_ GE173.out)|exact HB.out)) hb);clear BK172;clear BK173;clear HB;have BK172:= n0_;have BK173:= n1_;have HB:= n2_;clear n0_ n1_ n2_;(try clear hb);(try clear hb2);(try clear hk);(try clear hi);have hcz17_0 : w16.cell? ⟨gb173,0,none⟩ = some (.slice A1_0 l1_0.length c1_0):= (blk_cell BK173.out 0).trans rfl;have hcz17_1 : w16.cell? ⟨gb173,1,none⟩ = some (.slice A1_1 l1_1.length c1_1):= (blk_cell BK173.out 1).trans rfl;have hfz17_0:= blk_frozen BK173.out 0;have hfz17_1:= blk_frozen BK173.out 1))
     go_meet
     case rel => exact ⟨_,(true),(by first|rfl|(simp;done)|(simp [*];done)),H',⟨by first|omega|exact Nat.le_refl _⟩,⟨ub BK172.out⟩,⟨ub BK173.out⟩,⟨by repeat (first|(with_reducible first|exact HB.out|apply below_alloc|apply pw_below_drewN|apply below_drew1|refine below_set ?_ GE172.out|refine below_set ?_ GE173.out)|exact HB.out)⟩⟩
    ·rw [if_neg c13] at H
     have c13b0 : decide (20 < (l1_1.length : Int)) = false:= decide_eq_false c13
     have c13b1 : decide (20 < l1_1.length) = false:= decide_eq_false (by omega)
     clear c13
     have H':= mk H
     clear H
     have hnb18:= NB172_173.out
     have hnc18:= NB173_172.out
     have hcz19_0 : w5.cell? ⟨gb172,0,none⟩ = some (.slice A0_0 l0_0.length c0_0):= (blk_cell BK172.out 0).trans rfl
     have hcz19_1 : w5.cell? ⟨gb172,1,none⟩ = some (.slice A0_1 l0_1.length c0_1):= (blk_cell BK172.out 1).trans rfl
     have hcz19_2 : w5.cell? ⟨gb172,2,none⟩ = some (.slice A0_2 l0_2.length c0_2):= (blk_cell BK172.out 2).trans rfl
     have hfz19_0:= blk_frozen BK172.out 0
     have hfz19_1:= blk_frozen BK172.out 1
     have hfz19_2:= blk_frozen BK172.out 2
     go_wp2_with (first|((with_reducible refine gate_callee (f:= 13) rfl ?_);refine goesL_ (some 9) rfl rfl Try.func13 (by kernel_rfl) rfl #[.agg #[.slice A0_0 l0_0.length c0_0,.slice A0_1 l0_1.length c0_1,.slice A0_2 l0_2.length c0_2]] rfl (by (try simp only [List.map_toArray,List.map_cons,List.map_nil]);first|done|rfl|(simp only [List.length_drop,List.length_take];rfl)) ?_;(with_reducible refine (spec_IsCracker.calls k _ _ l0_0 _ _ l0_1 _ _ l0_2 true _ ?side1 ?side2 ?side3 ?side4 ?side5 ?side6 A6.out).mono ?_);(case side1 => exact uc (Kd.C_below HR0_0.out HB.out));(case side2 => exact HC0_0.out);(case side3 => exact uc (Kd.C_below HR0_1.out HB.out));(case side4 => exact HC0_1.out);(case side5 => exact uc (Kd.C_below HR0_2.out HB.out));(case side6 => exact HC0_2.out);rintro e w20 ⟨rfl,hb⟩;refine ⟨_,rfl,?_⟩;have n0_:= mk (blk_below (g:= gb172) (o:= .cells #[.slice A0_0 l0_0.length c0_0,.slice A0_1 l0_1.length c0_1,.slice A0_2 l0_2.length c0_2] 30 (0,0)) (ub BK172.out) hb);have n1_:= mk (blk_below (g:= gb173) (o:= .cells #[.slice A1_0 l1_0.length c1_0,.slice A1_1 l1_1.length c1_1] 61 (0,0)) (ub BK173.out) hb);have n2_:= mk (below_step (by repeat (first|(with_reducible first|exact HB.out|apply below_alloc|apply pw_below_drewN|apply below_drew1|refine below_set ?_ GE172.out|refine below_set ?_ GE173.out)|exact HB.out)) hb);clear BK172;clear BK173;clear HB;have BK172:= n0_;have BK173:= n1_;have HB:= n2_;clear n0_ n1_ n2_;(try clear hb);(try clear hb2);(try clear hk);(try clear hi);have hcz21_0 : w20.cell? ⟨gb173,0,none⟩ = some (.slice A1_0 l1_0.length c1_0):= (blk_cell BK173.out 0).trans rfl;have hcz21_1 : w20.cell? ⟨gb173,1,none⟩ = some (.slice A1_1 l1_1.length c1_1):= (blk_cell BK173.out 1).trans rfl;have hfz21_0:= blk_frozen BK173.out 0;have hfz21_1:= blk_frozen BK173.out 1;have hcz22_0 : w20.cell? ⟨gb172,0,none⟩ = some (.slice A0_0 l0_0.length c0_0):= (blk_cell BK172.out 0).trans rfl;have hcz22_1 : w20.cell? ⟨gb172,1,none⟩ = some (.slice A0_1 l0_1.length c0_1):= (blk_cell BK172.out 1).trans rfl;have hcz22_2 : w20.cell? ⟨gb172,2,none⟩ = some (.slice A0_2 l0_2.length c0_2):= (blk_cell BK172.out 2).trans rfl;have hfz22_0:= blk_frozen BK172.out 0;have hfz22_1:= blk_frozen BK172.out 1;have hfz22_2:= blk_frozen BK172.out 2))
     go_meet
     case rel => exact ⟨_,(decide ((wrap64 ((l0_0.length : Int) + (l1_0.length : Int))) > 64)),(by first|rfl|(simp;done)|(simp [*];done)),H',⟨by first|omega|exact Nat.le_refl _⟩,⟨ub BK172.out⟩,⟨ub BK173.out⟩,⟨by repeat (first|(with_reducible first|exact HB.out|apply below_alloc|apply pw_below_drewN|apply below_drew1|refine below_set ?_ GE172.out|refine below_set ?_ GE173.out)|exact HB.out)⟩⟩
  ·replace c7:= Bool.eq_false_iff.mpr c7
   subst c7
   have H1 : (spec_IsPending.j0 k true l0_0 l0_1 l0_2 l1_0 l1_1) = some r:= by rw [if_neg (show ¬ (false = true) by decide)] at H;exact H
   clear H
   have H:= H1
   clear H1
   have H':= mk H
   clear H
   have hnb23:= NB172_173.out
   have hnc23:= NB173_172.out
   have hcz24_0 : w5.cell? ⟨gb172,0,none⟩ = some (.slice A0_0 l0_0.length c0_0):= (blk_cell BK172.out 0).trans rfl
   have hcz24_1 : w5.cell? ⟨gb172,1,none⟩ = some (.slice A0_1 l0_1.length c0_1):= (blk_cell BK172.out 1).trans rfl
   have hcz24_2 : w5.cell? ⟨gb172,2,none⟩ = some (.slice A0_2 l0_2.length c0_2):= (blk_cell BK172.out 2).trans rfl
   have hfz24_0:= blk_frozen BK172.out 0
   have hfz24_1:= blk_frozen BK172.out 1
   have hfz24_2:= blk_frozen BK172.out 2
   go_wp2_with (first|((with_reducible refine gate_callee (f:= 13) rfl ?_);refine goesL_ (some 9) rfl rfl Try.func13 (by kernel_rfl) rfl #[.agg #[.slice A0_0 l0_0.length c0_0,.slice A0_1 l0_1.length c0_1,.slice A0_2 l0_2.length c0_2]] rfl (by (try simp only [List.map_toArray,List.map_cons,List.map_nil]);first|done|rfl|(simp only [List.length_drop,List.length_take];rfl)) ?_;(with_reducible refine (spec_IsCracker.calls k _ _ l0_0 _ _ l0_1 _ _ l0_2 false _ ?side1 ?side2 ?side3 ?side4 ?side5 ?side6 A6.out).mono ?_);(case side1 => exact uc (Kd.C_below HR0_0.out HB.out));(case side2 => exact HC0_0.out);(case side3 => exact uc (Kd.C_below HR0_1.out HB.out));(case side4 => exact HC0_1.out);(case side5 => exact uc (Kd.C_below HR0_2.out HB.out));(case side6 => exact HC0_2.out);rintro e w25 ⟨rfl,hb⟩;refine ⟨_,rfl,?_⟩;have n0_:= mk (blk_below (g:= gb172) (o:= .cells #[.slice A0_0 l0_0.length c0_0,.slice A0_1 l0_1.length c0_1,.slice A0_2 l0_2.length c0_2] 30 (0,0)) (ub BK172.out) hb);have n1_:= mk (blk_below (g:= gb173) (o:= .cells #[.slice A1_0 l1_0.length c1_0,.slice A1_1 l1_1.length c1_1] 61 (0,0)) (ub BK173.out) hb);have n2_:= mk (below_step (by repeat (first|(with_reducible first|exact HB.out|apply below_alloc|apply pw_below_drewN|apply below_drew1|refine below_set ?_ GE172.out|refine below_set ?_ GE173.out)|exact HB.out)) hb);clear BK172;clear BK173;clear HB;have BK172:= n0_;have BK173:= n1_;have HB:= n2_;clear n0_ n1_ n2_;(try clear hb);(try clear hb2);(try clear hk);(try clear hi)))
   go_meet
   case rel => exact ⟨_,(true),(by first|rfl|(simp;done)|(simp [*];done)),H',⟨by first|omega|exact Nat.le_refl _⟩,⟨ub BK172.out⟩,⟨ub BK173.out⟩,⟨by repeat (first|(with_reducible first|exact HB.out|apply below_alloc|apply pw_below_drewN|apply below_drew1|refine below_set ?_ GE172.out|refine below_set ?_ GE173.out)|exact HB.out)⟩⟩
 case rest =>
  clear HC3
  try clear c1
  try clear c2
  try clear p2
  try clear c3
  try clear p6
  try clear c7
  try clear c8
  try clear c8b0
  try clear c8b1
  try clear c9
  try clear c13
  try clear c13b0
  try clear c13b1
  try clear c14
  try clear c18
  try clear c23
  try clear hcz10_0
  try clear hcz10_1
  try clear hcz10_2
  try clear hcz12_0
  try clear hcz12_1
  try clear hcz15_0
  try clear hcz15_1
  try clear hcz15_2
  try clear hcz17_0
  try clear hcz17_1
  try clear hcz19_0
  try clear hcz19_1
  try clear hcz19_2
  try clear hcz21_0
  try clear hcz21_1
  try clear hcz22_0
  try clear hcz22_1
  try clear hcz22_2
  try clear hcz24_0
  try clear hcz24_1
  try clear hcz24_2
  try clear hfz10_0
  try clear hfz10_1
  try clear hfz10_2
  try clear hfz12_0
  try clear hfz12_1
  try clear hfz15_0
  try clear hfz15_1
  try clear hfz15_2
  try clear hfz17_0
  try clear hfz17_1
  try clear hfz19_0
  try clear hfz19_1
  try clear hfz19_2
  try clear hfz21_0
  try clear hfz21_1
  try clear hfz22_0
  try clear hfz22_1
  try clear hfz22_2
  try clear hfz24_0
  try clear hfz24_1
  try clear hfz24_2
  obtain ⟨kq,x32_2,rfl,HA,HJ2,BK172,BK173,HB⟩:= hcut
  cases kq with
 |zero => exact absurd HA.out (by simp [spec_IsPending.j0])
 |succ kj2 =>
   have H:= HA.out
   clear HA
   simp only [spec_IsPending.j0] at H
   by_cases c26 : x32_2 = true
   ·subst c26
    have H1 : (some false) = some r:= by rw [if_pos rfl] at H;exact H
    clear H
    have H:= H1
    clear H1
    obtain rfl:= Option.some.inj H
    go_wp2
    go_ret
    exact ⟨by first|rfl|(simp [errW_none,errW_some] <;> rfl)|(simp [*,errW_none,errW_some] <;> rfl),by repeat (first|(with_reducible first|exact HB.out|apply below_alloc|apply pw_below_drewN|apply below_drew1|refine below_set ?_ GE172.out|refine below_set ?_ GE173.out)|exact HB.out)⟩
   ·replace c26:= Bool.eq_false_iff.mpr c26
    subst c26
    have H1 : (spec_IsPending.l0 kj2 0 l0_0 l0_1 l0_2 l1_0 l1_1) = some r:= by rw [if_neg (show ¬ (false = true) by decide)] at H;exact H
    clear H
    have H:= H1
    clear H1
    have H':= mk H
    clear H
    go_wp2
    go_loopg [5] kj2 (fun kq v5 w' => ∃ (x5_2 : Int),v5 = .int .i64 x5_2 ∧ Aside0 (spec_IsPending.l0 kq x5_2 l0_0 l0_1 l0_2 l1_0 l1_1 = some r) ∧ Aside0 (kq ≤ kj2) ∧ Aside0 (w'.heap[gb172]? = some (.cells #[(.slice A0_0 l0_0.length c0_0),(.slice A0_1 l0_1.length c0_1),(.slice A0_2 l0_2.length c0_2)] 30 (0,0))) ∧ Aside0 (w'.heap[gb173]? = some (.cells #[(.slice A1_0 l1_0.length c1_0),(.slice A1_1 l1_1.length c1_1)] 61 (0,0))) ∧ Aside0 (Below w.heap.size w w'))
    case atStart => exact ⟨(0),(by first|rfl|(simp;done)|(simp [*];done)),H',⟨Nat.le_refl _⟩,⟨ub BK172.out⟩,⟨ub BK173.out⟩,⟨by repeat (first|(with_reducible first|exact HB.out|apply below_alloc|apply pw_below_drewN|apply below_drew1|refine below_set ?_ GE172.out|refine below_set ?_ GE173.out)|exact HB.out)⟩⟩
    case round =>
     clear H'
     try clear c1
     try clear c2
     try clear p2
     try clear c3
     try clear p6
     try clear c7
     try clear c8
     try clear c8b0
     try clear c8b1
     try clear c9
     try clear c13
     try clear c13b0
     try clear c13b1
     try clear c14
     try clear c18
     try clear c23
     try clear c26
     try clear hcz10_0
     try clear hcz10_1
     try clear hcz10_2
     try clear hcz12_0
     try clear hcz12_1
     try clear hcz15_0
     try clear hcz15_1
     try clear hcz15_2
     try clear hcz17_0
     try clear hcz17_1
     try clear hcz19_0
     try clear hcz19_1
     try clear hcz19_2
     try clear hcz21_0
     try clear hcz21_1
     try clear hcz22_0
     try clear hcz22_1
     try clear hcz22_2
     try clear hcz24_0
     try clear hcz24_1
     try clear hcz24_2
     try clear hfz10_0
     try clear hfz10_1
     try clear hfz10_2
     try clear hfz12_0
     try clear hfz12_1
     try clear hfz15_0
     try clear hfz15_1
     try clear hfz15_2
     try clear hfz17_0
     try clear hfz17_1
     try clear hfz19_0
     try clear hfz19_1
     try clear hfz19_2
     try clear hfz21_0
     try clear hfz21_1
     try clear hfz22_0
     try clear hfz22_1
     try clear hfz22_2
     try clear hfz24_0
     try clear hfz24_1
     try clear hfz24_2
     try clear p2
     try clear p6
     obtain ⟨x5_2,rfl,HA,HK2,BK172,BK173,HB⟩:= hrel
     cases gk with
    |zero => exact absurd HA.out (by simp [spec_IsPending.l0])
    |succ k2 =>
      have H:= HA.out
      clear HA
      simp only [spec_IsPending.l0] at H
      by_cases c27 : x5_2 < (l1_0.length : Int)
      ·rw [if_pos c27] at H
       have c27b0 : decide (x5_2 < (l1_0.length : Int)) = true:= decide_eq_true c27
       clear c27
       by_cases c28 : 0 ≤ x5_2
       ·rw [if_pos c28] at H
        have c28b0 : decide (0 ≤ x5_2) = true:= decide_eq_true c28
        clear c28
        replace H:= Option.bind_eq_some_iff.mp H
        obtain ⟨t177,A290,H⟩:= H
        replace H : (if t177 = true then ((spec_FindRow.f k2 l0_0 l0_1 l0_2 ((rd_T96 l1_0 x5_2).f1)).bind fun t178 => (if t178 ≥ 0 then (some false) else ((spec_l11HasRow.f k2 l1_0 l1_1 ((rd_T96 l1_0 x5_2).f1)).bind fun t179 => (if t179 = x5_2 then (spec_IsPending.l0 k2 (wrap64 (x5_2 + 1)) l0_0 l0_1 l0_2 l1_0 l1_1) else (some false))))) else (some false)) = some r:= H
        have A29:= mk A290
        clear A290
        by_cases c30 : t177 = true
        ·subst c30
         have H1 : ((spec_FindRow.f k2 l0_0 l0_1 l0_2 ((rd_T96 l1_0 x5_2).f1)).bind fun t178 => (if t178 ≥ 0 then (some false) else ((spec_l11HasRow.f k2 l1_0 l1_1 ((rd_T96 l1_0 x5_2).f1)).bind fun t179 => (if t179 = x5_2 then (spec_IsPending.l0 k2 (wrap64 (x5_2 + 1)) l0_0 l0_1 l0_2 l1_0 l1_1) else (some false))))) = some r:= by rw [if_pos rfl] at H;exact H
         clear H
         have H:= H1
         clear H1
         replace H:= Option.bind_eq_some_iff.mp H
         obtain ⟨t178,A310,H⟩:= H
         replace H : (if t178 ≥ 0 then (some false) else ((spec_l11HasRow.f k2 l1_0 l1_1 ((rd_T96 l1_0 x5_2).f1)).bind fun t179 => (if t179 = x5_2 then (spec_IsPending.l0 k2 (wrap64 (x5_2 + 1)) l0_0 l0_1 l0_2 l1_0 l1_1) else (some false)))) = some r:= H
         have A31:= mk A310
         clear A310
         by_cases c32 : t178 ≥ 0
         ·rw [if_pos c32] at H
          have c32b0 : decide (0 ≤ t178) = true:= decide_eq_true c32
          clear c32
          obtain rfl:= Option.some.inj H
          have hnb33:= NB173_172.out
          have hnc33:= NB172_173.out
          have hcz34_0 : wr.cell? ⟨gb173,0,none⟩ = some (.slice A1_0 l1_0.length c1_0):= (blk_cell BK173.out 0).trans rfl
          have hcz34_1 : wr.cell? ⟨gb173,1,none⟩ = some (.slice A1_1 l1_1.length c1_1):= (blk_cell BK173.out 1).trans rfl
          have hfz34_0:= blk_frozen BK173.out 0
          have hfz34_1:= blk_frozen BK173.out 1
          have p175 : 0 ≤ (x5_2 : Int):= of_decide_eq_true (by first|(with_reducible assumption)|assumption)
          have q175 : x5_2 < (l1_0.length : Int):= of_decide_eq_true (by first|(with_reducible assumption)|assumption)
          obtain ⟨ad175,e175,hx175_0,hx175_1⟩:= at_T96 HR1_0.out x5_2 p175 q175
          cases e175
          replace hx175_0:= (HB.out.cell (World.block_lt_of_cell? w _ hx175_0)).trans hx175_0
          replace hx175_1:= (HB.out.cell (World.block_lt_of_cell? w _ hx175_1)).trans hx175_1
          replace p175:= eq_true p175
          replace q175:= eq_true q175
          go_wp2_with (first|((with_reducible refine gate_dst (N:= 6) rfl ?_);(try (refine gate_guard (by rfl) ?_;dsimp only));refine box_event ?hg (N:= 6) ?hd (cs:= #[.int .i64 0,.int .i64 0]) (t:= 96) ?hr ?_;(case hd => rfl);(case hg => rfl);(case hr => first|(go_simp;done)|(go_simp;rfl));intro gb176 hg w35 hbox hb;have n0_:= mk (blk_below (g:= gb172) (o:= .cells #[.slice A0_0 l0_0.length c0_0,.slice A0_1 l0_1.length c0_1,.slice A0_2 l0_2.length c0_2] 30 (0,0)) (ub BK172.out) hb);have n1_:= mk (blk_below (g:= gb173) (o:= .cells #[.slice (some ad175) l1_0.length c1_0,.slice A1_1 l1_1.length c1_1] 61 (0,0)) (ub BK173.out) hb);have n2_:= mk (below_step (by repeat (first|(with_reducible first|exact HB.out|apply below_alloc|apply pw_below_drewN|apply below_drew1|refine below_set ?_ GE172.out|refine below_set ?_ GE173.out)|exact HB.out)) hb);have n3_:= mk (hbox);have n4_:= mk ((by rw [hg];exact (below_size (by repeat (first|(with_reducible first|exact HB.out|apply below_alloc|apply pw_below_drewN|apply below_drew1|refine below_set ?_ GE172.out|refine below_set ?_ GE173.out)|exact HB.out))) : w.heap.size ≤ gb176));have n5_:= mk ((by rw [hg];exact (below_size (by repeat (first|(with_reducible first|exact HB.out|apply below_alloc|apply pw_below_drewN|apply below_drew1|refine below_set ?_ GE172.out|refine below_set ?_ GE173.out)|exact HB.out))) : w.heap.size ≤ gb176));have n6_:= mk ((by rw [hg];exact Nat.ne_of_lt (blk_lt (g:= gb172) (o:= .cells #[.slice A0_0 l0_0.length c0_0,.slice A0_1 l0_1.length c0_1,.slice A0_2 l0_2.length c0_2] 30 (0,0)) (ub BK172.out)) : gb172 ≠ gb176));have n7_:= mk ((by rw [hg];exact Nat.ne_of_gt (blk_lt (g:= gb172) (o:= .cells #[.slice A0_0 l0_0.length c0_0,.slice A0_1 l0_1.length c0_1,.slice A0_2 l0_2.length c0_2] 30 (0,0)) (ub BK172.out)) : gb176 ≠ gb172));have n8_:= mk ((by rw [hg];exact Nat.ne_of_lt (blk_lt (g:= gb173) (o:= .cells #[.slice (some ad175) l1_0.length c1_0,.slice A1_1 l1_1.length c1_1] 61 (0,0)) (ub BK173.out)) : gb173 ≠ gb176));have n9_:= mk ((by rw [hg];exact Nat.ne_of_gt (blk_lt (g:= gb173) (o:= .cells #[.slice (some ad175) l1_0.length c1_0,.slice A1_1 l1_1.length c1_1] 61 (0,0)) (ub BK173.out)) : gb176 ≠ gb173));clear BK172;clear BK173;clear HB;have BK172:= n0_;have BK173:= n1_;have HB:= n2_;have BK176:= n3_;have GW176:= n4_;have GE176:= n5_;have NB172_176:= n6_;have NB176_172:= n7_;have NB173_176:= n8_;have NB176_173:= n9_;clear n0_ n1_ n2_ n3_ n4_ n5_ n6_ n7_ n8_ n9_;clear hb hbox hg;have hnb36:= NB176_172.out;have hnc36:= NB172_176.out;have hnb37:= NB176_173.out;have hnc37:= NB173_176.out;have hcz38_0 : w35.cell? ⟨gb176,0,none⟩ = some (.int .i64 0):= (blk_cell BK176.out 0).trans rfl;have hcz38_1 : w35.cell? ⟨gb176,1,none⟩ = some (.int .i64 0):= (blk_cell BK176.out 1).trans rfl;have hfz38_0:= blk_frozen BK176.out 0;have hfz38_1:= blk_frozen BK176.out 1)|((with_reducible refine gate_callee (f:= 71) rfl ?_);refine goesL_ (some 46) rfl rfl Try.func71 (by kernel_rfl) rfl #[.agg #[.int .i64 ((rd_T96 l1_0 x5_2).f0),.int .i64 ((rd_T96 l1_0 x5_2).f1)]] rfl (by (try simp only [List.map_toArray,List.map_cons,List.map_nil]);first|done|rfl|(simp only [List.length_drop,List.length_take];rfl)) ?_;(with_reducible refine (spec_IsItem.calls ((rd_T96 l1_0 x5_2).f0) ((rd_T96 l1_0 x5_2).f1) true _ A29.out).mono ?_);rintro e w39 ⟨rfl,hb⟩;refine ⟨_,rfl,?_⟩;have n0_:= mk (blk_below (g:= gb172) (o:= .cells #[.slice A0_0 l0_0.length c0_0,.slice A0_1 l0_1.length c0_1,.slice A0_2 l0_2.length c0_2] 30 (0,0)) (by (with_reducible repeat (first|refine blk_drewN ?_ _|refine blk_drew ?_|refine blk_alloc ?_ _));refine blk_far ?_ NB172_176.out _;(with_reducible repeat (first|refine blk_drewN ?_ _|refine blk_drew ?_|refine blk_alloc ?_ _));refine blk_far ?_ NB172_176.out _;(with_reducible repeat (first|refine blk_drewN ?_ _|refine blk_drew ?_|refine blk_alloc ?_ _));exact BK172.out) hb);have n1_:= mk (blk_below (g:= gb173) (o:= .cells #[.slice (some ad175) l1_0.length c1_0,.slice A1_1 l1_1.length c1_1] 61 (0,0)) (by (with_reducible repeat (first|refine blk_drewN ?_ _|refine blk_drew ?_|refine blk_alloc ?_ _));refine blk_far ?_ NB173_176.out _;(with_reducible repeat (first|refine blk_drewN ?_ _|refine blk_drew ?_|refine blk_alloc ?_ _));refine blk_far ?_ NB173_176.out _;(with_reducible repeat (first|refine blk_drewN ?_ _|refine blk_drew ?_|refine blk_alloc ?_ _));exact BK173.out) hb);have n2_:= mk (blk_below (g:= gb176) (o:= .cells #[.int .i64 ((rd_T96 l1_0 x5_2).f0),.int .i64 ((rd_T96 l1_0 x5_2).f1)] 96 (0,0)) (by (with_reducible repeat (first|refine blk_drewN ?_ _|refine blk_drew ?_|refine blk_alloc ?_ _));refine blk_put (cs:= #[.int .i64 ((rd_T96 l1_0 x5_2).f0),.int .i64 0]) ?_ 1 _ rfl;(with_reducible repeat (first|refine blk_drewN ?_ _|refine blk_drew ?_|refine blk_alloc ?_ _));refine blk_put (cs:= #[.int .i64 0,.int .i64 0]) ?_ 0 _ rfl;(with_reducible repeat (first|refine blk_drewN ?_ _|refine blk_drew ?_|refine blk_alloc ?_ _));exact BK176.out) hb);have n3_:= mk (below_step (by repeat (first|(with_reducible first|exact HB.out|apply below_alloc|apply pw_below_drewN|apply below_drew1|refine below_set ?_ GE172.out|refine below_set ?_ GE173.out|refine below_set ?_ GE176.out)|exact HB.out)) hb);clear BK172;clear BK173;clear BK176;clear HB;have BK172:= n0_;have BK173:= n1_;have BK176:= n2_;have HB:= n3_;clear n0_ n1_ n2_ n3_;(try clear hb);(try clear hb2);(try clear hk);(try clear hi);have hcz40_0 : w39.cell? ⟨gb172,0,none⟩ = some (.slice A0_0 l0_0.length c0_0):= (blk_cell BK172.out 0).trans rfl;have hcz40_1 : w39.cell? ⟨gb172,1,none⟩ = some (.slice A0_1 l0_1.length c0_1):= (blk_cell BK172.out 1).trans rfl;have hcz40_2 : w39.cell? ⟨gb172,2,none⟩ = some (.slice A0_2 l0_2.length c0_2):= (blk_cell BK172.out 2).trans rfl;have hfz40_0:= blk_frozen BK172.out 0;have hfz40_1:= blk_frozen BK172.out 1;have hfz40_2:= blk_frozen BK172.out 2;have hcz41_0 : w39.cell? ⟨gb176,0,none⟩ = some (.int .i64 ((rd_T96 l1_0 x5_2).f0)):= (blk_cell BK176.out 0).trans rfl;have hcz41_1 : w39.cell? ⟨gb176,1,none⟩ = some (.int .i64 ((rd_T96 l1_0 x5_2).f1)):= (blk_cell BK176.out 1).trans rfl;have hfz41_0:= blk_frozen BK176.out 0;have hfz41_1:= blk_frozen BK176.out 1)|(go_at_call 72;(with_reducible refine (spec_FindRow.calls k2 _ _ l0_0 _ _ l0_1 _ _ l0_2 ((rd_T96 l1_0 x5_2).f1) t178 _ ?side1 ?side2 ?side3 ?side4 ?side5 ?side6 A31.out).mono ?_);(case side1 => exact uc (Kd.C_below HR0_0.out HB.out));(case side2 => exact HC0_0.out);(case side3 => exact uc (Kd.C_below HR0_1.out HB.out));(case side4 => exact HC0_1.out);(case side5 => exact uc (Kd.C_below HR0_2.out HB.out));(case side6 => exact HC0_2.out);rintro e w42 ⟨rfl,hb⟩;have n0_:= mk (blk_below (g:= gb172) (o:= .cells #[.slice A0_0 l0_0.length c0_0,.slice A0_1 l0_1.length c0_1,.slice A0_2 l0_2.length c0_2] 30 (0,0)) (ub BK172.out) hb);have n1_:= mk (blk_below (g:= gb173) (o:= .cells #[.slice (some ad175) l1_0.length c1_0,.slice A1_1 l1_1.length c1_1] 61 (0,0)) (ub BK173.out) hb);have n2_:= mk (blk_below (g:= gb176) (o:= .cells #[.int .i64 ((rd_T96 l1_0 x5_2).f0),.int .i64 ((rd_T96 l1_0 x5_2).f1)] 96 (0,0)) (ub BK176.out) hb);have n3_:= mk (below_step (by repeat (first|(with_reducible first|exact HB.out|apply below_alloc|apply pw_below_drewN|apply below_drew1|refine below_set ?_ GE172.out|refine below_set ?_ GE173.out|refine below_set ?_ GE176.out)|exact HB.out)) hb);clear BK172;clear BK173;clear BK176;clear HB;have BK172:= n0_;have BK173:= n1_;have BK176:= n2_;have HB:= n3_;clear n0_ n1_ n2_ n3_;(try clear hb);(try clear hb2);(try clear hk);(try clear hi)))
          go_ret
          exact ⟨by first|rfl|(simp [errW_none,errW_some] <;> rfl)|(simp [*,errW_none,errW_some] <;> rfl),by repeat (first|(with_reducible first|exact HB.out|apply below_alloc|apply pw_below_drewN|apply below_drew1|refine below_set ?_ GE172.out|refine below_set ?_ GE173.out|refine below_set ?_ GE176.out)|exact HB.out)⟩
         ·rw [if_neg c32] at H
          have c32b0 : decide (0 ≤ t178) = false:= decide_eq_false c32
          clear c32
          replace H:= Option.bind_eq_some_iff.mp H
          obtain ⟨t179,A430,H⟩:= H
          replace H : (if t179 = x5_2 then (spec_IsPending.l0 k2 (wrap64 (x5_2 + 1)) l0_0 l0_1 l0_2 l1_0 l1_1) else (some false)) = some r:= H
          have A43:= mk A430
          clear A430
          by_cases c44 : t179 = x5_2
          ·rw [if_pos c44] at H
           have c44b0 : (t179 == x5_2) = true:= beq_iff_eq.mpr c44
           have c44b1 : (t179 != x5_2) = false:= bne_eq_false_iff_eq.mpr c44
           clear c44
           have H':= mk H
           clear H
           have hnb45:= NB173_172.out
           have hnc45:= NB172_173.out
           have hcz46_0 : wr.cell? ⟨gb173,0,none⟩ = some (.slice A1_0 l1_0.length c1_0):= (blk_cell BK173.out 0).trans rfl
           have hcz46_1 : wr.cell? ⟨gb173,1,none⟩ = some (.slice A1_1 l1_1.length c1_1):= (blk_cell BK173.out 1).trans rfl
           have hfz46_0:= blk_frozen BK173.out 0
           have hfz46_1:= blk_frozen BK173.out 1
           have p175 : 0 ≤ (x5_2 : Int):= of_decide_eq_true (by first|(with_reducible assumption)|assumption)
           have q175 : x5_2 < (l1_0.length : Int):= of_decide_eq_true (by first|(with_reducible assumption)|assumption)
           obtain ⟨ad175,e175,hx175_0,hx175_1⟩:= at_T96 HR1_0.out x5_2 p175 q175
           cases e175
           replace hx175_0:= (HB.out.cell (World.block_lt_of_cell? w _ hx175_0)).trans hx175_0
           replace hx175_1:= (HB.out.cell (World.block_lt_of_cell? w _ hx175_1)).trans hx175_1
           replace p175:= eq_true p175
           replace q175:= eq_true q175
           go_wp2_with (first|((with_reducible refine gate_dst (N:= 6) rfl ?_);(try (refine gate_guard (by rfl) ?_;dsimp only));refine box_event ?hg (N:= 6) ?hd (cs:= #[.int .i64 0,.int .i64 0]) (t:= 96) ?hr ?_;(case hd => rfl);(case hg => rfl);(case hr => first|(go_simp;done)|(go_simp;rfl));intro gb176 hg w47 hbox hb;have n0_:= mk (blk_below (g:= gb172) (o:= .cells #[.slice A0_0 l0_0.length c0_0,.slice A0_1 l0_1.length c0_1,.slice A0_2 l0_2.length c0_2] 30 (0,0)) (ub BK172.out) hb);have n1_:= mk (blk_below (g:= gb173) (o:= .cells #[.slice (some ad175) l1_0.length c1_0,.slice A1_1 l1_1.length c1_1] 61 (0,0)) (ub BK173.out) hb);have n2_:= mk (below_step (by repeat (first|(with_reducible first|exact HB.out|apply below_alloc|apply pw_below_drewN|apply below_drew1|refine below_set ?_ GE172.out|refine below_set ?_ GE173.out)|exact HB.out)) hb);have n3_:= mk (hbox);have n4_:= mk ((by rw [hg];exact (below_size (by repeat (first|(with_reducible first|exact HB.out|apply below_alloc|apply pw_below_drewN|apply below_drew1|refine below_set ?_ GE172.out|refine below_set ?_ GE173.out)|exact HB.out))) : w.heap.size ≤ gb176));have n5_:= mk ((by rw [hg];exact (below_size (by repeat (first|(with_reducible first|exact HB.out|apply below_alloc|apply pw_below_drewN|apply below_drew1|refine below_set ?_ GE172.out|refine below_set ?_ GE173.out)|exact HB.out))) : w.heap.size ≤ gb176));have n6_:= mk ((by rw [hg];exact Nat.ne_of_lt (blk_lt (g:= gb172) (o:= .cells #[.slice A0_0 l0_0.length c0_0,.slice A0_1 l0_1.length c0_1,.slice A0_2 l0_2.length c0_2] 30 (0,0)) (ub BK172.out)) : gb172 ≠ gb176));have n7_:= mk ((by rw [hg];exact Nat.ne_of_gt (blk_lt (g:= gb172) (o:= .cells #[.slice A0_0 l0_0.length c0_0,.slice A0_1 l0_1.length c0_1,.slice A0_2 l0_2.length c0_2] 30 (0,0)) (ub BK172.out)) : gb176 ≠ gb172));have n8_:= mk ((by rw [hg];exact Nat.ne_of_lt (blk_lt (g:= gb173) (o:= .cells #[.slice (some ad175) l1_0.length c1_0,.slice A1_1 l1_1.length c1_1] 61 (0,0)) (ub BK173.out)) : gb173 ≠ gb176));have n9_:= mk ((by rw [hg];exact Nat.ne_of_gt (blk_lt (g:= gb173) (o:= .cells #[.slice (some ad175) l1_0.length c1_0,.slice A1_1 l1_1.length c1_1] 61 (0,0)) (ub BK173.out)) : gb176 ≠ gb173));clear BK172;clear BK173;clear HB;have BK172:= n0_;have BK173:= n1_;have HB:= n2_;have BK176:= n3_;have GW176:= n4_;have GE176:= n5_;have NB172_176:= n6_;have NB176_172:= n7_;have NB173_176:= n8_;have NB176_173:= n9_;clear n0_ n1_ n2_ n3_ n4_ n5_ n6_ n7_ n8_ n9_;clear hb hbox hg;have hnb48:= NB176_172.out;have hnc48:= NB172_176.out;have hnb49:= NB176_173.out;have hnc49:= NB173_176.out;have hcz50_0 : w47.cell? ⟨gb176,0,none⟩ = some (.int .i64 0):= (blk_cell BK176.out 0).trans rfl;have hcz50_1 : w47.cell? ⟨gb176,1,none⟩ = some (.int .i64 0):= (blk_cell BK176.out 1).trans rfl;have hfz50_0:= blk_frozen BK176.out 0;have hfz50_1:= blk_frozen BK176.out 1)|((with_reducible refine gate_callee (f:= 71) rfl ?_);refine goesL_ (some 46) rfl rfl Try.func71 (by kernel_rfl) rfl #[.agg #[.int .i64 ((rd_T96 l1_0 x5_2).f0),.int .i64 ((rd_T96 l1_0 x5_2).f1)]] rfl (by (try simp only [List.map_toArray,List.map_cons,List.map_nil]);first|done|rfl|(simp only [List.length_drop,List.length_take];rfl)) ?_;(with_reducible refine (spec_IsItem.calls ((rd_T96 l1_0 x5_2).f0) ((rd_T96 l1_0 x5_2).f1) true _ A29.out).mono ?_);rintro e w51 ⟨rfl,hb⟩;refine ⟨_,rfl,?_⟩;have n0_:= mk (blk_below (g:= gb172) (o:= .cells #[.slice A0_0 l0_0.length c0_0,.slice A0_1 l0_1.length c0_1,.slice A0_2 l0_2.length c0_2] 30 (0,0)) (by (with_reducible repeat (first|refine blk_drewN ?_ _|refine blk_drew ?_|refine blk_alloc ?_ _));refine blk_far ?_ NB172_176.out _;(with_reducible repeat (first|refine blk_drewN ?_ _|refine blk_drew ?_|refine blk_alloc ?_ _));refine blk_far ?_ NB172_176.out _;(with_reducible repeat (first|refine blk_drewN ?_ _|refine blk_drew ?_|refine blk_alloc ?_ _));exact BK172.out) hb);have n1_:= mk (blk_below (g:= gb173) (o:= .cells #[.slice (some ad175) l1_0.length c1_0,.slice A1_1 l1_1.length c1_1] 61 (0,0)) (by (with_reducible repeat (first|refine blk_drewN ?_ _|refine blk_drew ?_|refine blk_alloc ?_ _));refine blk_far ?_ NB173_176.out _;(with_reducible repeat (first|refine blk_drewN ?_ _|refine blk_drew ?_|refine blk_alloc ?_ _));refine blk_far ?_ NB173_176.out _;(with_reducible repeat (first|refine blk_drewN ?_ _|refine blk_drew ?_|refine blk_alloc ?_ _));exact BK173.out) hb);have n2_:= mk (blk_below (g:= gb176) (o:= .cells #[.int .i64 ((rd_T96 l1_0 x5_2).f0),.int .i64 ((rd_T96 l1_0 x5_2).f1)] 96 (0,0)) (by (with_reducible repeat (first|refine blk_drewN ?_ _|refine blk_drew ?_|refine blk_alloc ?_ _));refine blk_put (cs:= #[.int .i64 ((rd_T96 l1_0 x5_2).f0),.int .i64 0]) ?_ 1 _ rfl;(with_reducible repeat (first|refine blk_drewN ?_ _|refine blk_drew ?_|refine blk_alloc ?_ _));refine blk_put (cs:= #[.int .i64 0,.int .i64 0]) ?_ 0 _ rfl;(with_reducible repeat (first|refine blk_drewN ?_ _|refine blk_drew ?_|refine blk_alloc ?_ _));exact BK176.out) hb);have n3_:= mk (below_step (by repeat (first|(with_reducible first|exact HB.out|apply below_alloc|apply pw_below_drewN|apply below_drew1|refine below_set ?_ GE172.out|refine below_set ?_ GE173.out|refine below_set ?_ GE176.out)|exact HB.out)) hb);clear BK172;clear BK173;clear BK176;clear HB;have BK172:= n0_;have BK173:= n1_;have BK176:= n2_;have HB:= n3_;clear n0_ n1_ n2_ n3_;(try clear hb);(try clear hb2);(try clear hk);(try clear hi);have hcz52_0 : w51.cell? ⟨gb172,0,none⟩ = some (.slice A0_0 l0_0.length c0_0):= (blk_cell BK172.out 0).trans rfl;have hcz52_1 : w51.cell? ⟨gb172,1,none⟩ = some (.slice A0_1 l0_1.length c0_1):= (blk_cell BK172.out 1).trans rfl;have hcz52_2 : w51.cell? ⟨gb172,2,none⟩ = some (.slice A0_2 l0_2.length c0_2):= (blk_cell BK172.out 2).trans rfl;have hfz52_0:= blk_frozen BK172.out 0;have hfz52_1:= blk_frozen BK172.out 1;have hfz52_2:= blk_frozen BK172.out 2;have hcz53_0 : w51.cell? ⟨gb176,0,none⟩ = some (.int .i64 ((rd_T96 l1_0 x5_2).f0)):= (blk_cell BK176.out 0).trans rfl;have hcz53_1 : w51.cell? ⟨gb176,1,none⟩ = some (.int .i64 ((rd_T96 l1_0 x5_2).f1)):= (blk_cell BK176.out 1).trans rfl;have hfz53_0:= blk_frozen BK176.out 0;have hfz53_1:= blk_frozen BK176.out 1)|(go_at_call 72;(with_reducible refine (spec_FindRow.calls k2 _ _ l0_0 _ _ l0_1 _ _ l0_2 ((rd_T96 l1_0 x5_2).f1) t178 _ ?side1 ?side2 ?side3 ?side4 ?side5 ?side6 A31.out).mono ?_);(case side1 => exact uc (Kd.C_below HR0_0.out HB.out));(case side2 => exact HC0_0.out);(case side3 => exact uc (Kd.C_below HR0_1.out HB.out));(case side4 => exact HC0_1.out);(case side5 => exact uc (Kd.C_below HR0_2.out HB.out));(case side6 => exact HC0_2.out);rintro e w54 ⟨rfl,hb⟩;have n0_:= mk (blk_below (g:= gb172) (o:= .cells #[.slice A0_0 l0_0.length c0_0,.slice A0_1 l0_1.length c0_1,.slice A0_2 l0_2.length c0_2] 30 (0,0)) (ub BK172.out) hb);have n1_:= mk (blk_below (g:= gb173) (o:= .cells #[.slice (some ad175) l1_0.length c1_0,.slice A1_1 l1_1.length c1_1] 61 (0,0)) (ub BK173.out) hb);have n2_:= mk (blk_below (g:= gb176) (o:= .cells #[.int .i64 ((rd_T96 l1_0 x5_2).f0),.int .i64 ((rd_T96 l1_0 x5_2).f1)] 96 (0,0)) (ub BK176.out) hb);have n3_:= mk (below_step (by repeat (first|(with_reducible first|exact HB.out|apply below_alloc|apply pw_below_drewN|apply below_drew1|refine below_set ?_ GE172.out|refine below_set ?_ GE173.out|refine below_set ?_ GE176.out)|exact HB.out)) hb);clear BK172;clear BK173;clear BK176;clear HB;have BK172:= n0_;have BK173:= n1_;have BK176:= n2_;have HB:= n3_;clear n0_ n1_ n2_ n3_;(try clear hb);(try clear hb2);(try clear hk);(try clear hi);have hcz55_0 : w54.cell? ⟨gb173,0,none⟩ = some (.slice (some ad175) l1_0.length c1_0):= (blk_cell BK173.out 0).trans rfl;have hcz55_1 : w54.cell? ⟨gb173,1,none⟩ = some (.slice A1_1 l1_1.length c1_1):= (blk_cell BK173.out 1).trans rfl;have hfz55_0:= blk_frozen BK173.out 0;have hfz55_1:= blk_frozen BK173.out 1;have hcz56_0 : w54.cell? ⟨gb176,0,none⟩ = some (.int .i64 ((rd_T96 l1_0 x5_2).f0)):= (blk_cell BK176.out 0).trans rfl;have hcz56_1 : w54.cell? ⟨gb176,1,none⟩ = some (.int .i64 ((rd_T96 l1_0 x5_2).f1)):= (blk_cell BK176.out 1).trans rfl;have hfz56_0:= blk_frozen BK176.out 0;have hfz56_1:= blk_frozen BK176.out 1)|(go_at_call 73;(with_reducible refine (spec_l11HasRow.calls k2 _ _ l1_0 _ _ l1_1 ((rd_T96 l1_0 x5_2).f1) t179 _ ?side1 ?side2 ?side3 ?side4 A43.out).mono ?_);(case side1 => exact uc (Kd.C_below HR1_0.out HB.out));(case side2 => exact HC1_0.out);(case side3 => exact uc (Kd.C_below HR1_1.out HB.out));(case side4 => exact HC1_1.out);rintro e w57 ⟨rfl,hb⟩;have n0_:= mk (blk_below (g:= gb172) (o:= .cells #[.slice A0_0 l0_0.length c0_0,.slice A0_1 l0_1.length c0_1,.slice A0_2 l0_2.length c0_2] 30 (0,0)) (ub BK172.out) hb);have n1_:= mk (blk_below (g:= gb173) (o:= .cells #[.slice (some ad175) l1_0.length c1_0,.slice A1_1 l1_1.length c1_1] 61 (0,0)) (ub BK173.out) hb);have n2_:= mk (blk_below (g:= gb176) (o:= .cells #[.int .i64 ((rd_T96 l1_0 x5_2).f0),.int .i64 ((rd_T96 l1_0 x5_2).f1)] 96 (0,0)) (ub BK176.out) hb);have n3_:= mk (below_step (by repeat (first|(with_reducible first|exact HB.out|apply below_alloc|apply pw_below_drewN|apply below_drew1|refine below_set ?_ GE172.out|refine below_set ?_ GE173.out|refine below_set ?_ GE176.out)|exact HB.out)) hb);clear BK172;clear BK173;clear BK176;clear HB;have BK172:= n0_;have BK173:= n1_;have BK176:= n2_;have HB:= n3_;clear n0_ n1_ n2_ n3_;(try clear hb);(try clear hb2);(try clear hk);(try clear hi)))
           go_roundg k2
           case measure => have:= HJ2.out;have:= HK2.out;omega
           case rel => exact ⟨(wrap64 (x5_2 + 1)),(by first|rfl|(simp;done)|(simp [*];done)),H',⟨by have:= HJ2.out;have:= HK2.out;omega⟩,⟨ub BK172.out⟩,⟨ub BK173.out⟩,⟨by repeat (first|(with_reducible first|exact HB.out|apply below_alloc|apply pw_below_drewN|apply below_drew1|refine below_set ?_ GE172.out|refine below_set ?_ GE173.out|refine below_set ?_ GE176.out)|exact HB.out)⟩⟩
          ·rw [if_neg c44] at H
           have c44b0 : (t179 == x5_2) = false:= beq_eq_false_iff_ne.mpr c44
           have c44b1 : (t179 != x5_2) = true:= bne_iff_ne.mpr c44
           obtain rfl:= Option.some.inj H
           have hnb58:= NB173_172.out
           have hnc58:= NB172_173.out
           have hcz59_0 : wr.cell? ⟨gb173,0,none⟩ = some (.slice A1_0 l1_0.length c1_0):= (blk_cell BK173.out 0).trans rfl
           have hcz59_1 : wr.cell? ⟨gb173,1,none⟩ = some (.slice A1_1 l1_1.length c1_1):= (blk_cell BK173.out 1).trans rfl
           have hfz59_0:= blk_frozen BK173.out 0
           have hfz59_1:= blk_frozen BK173.out 1
           have p175 : 0 ≤ (x5_2 : Int):= of_decide_eq_true (by first|(with_reducible assumption)|assumption)
           have q175 : x5_2 < (l1_0.length : Int):= of_decide_eq_true (by first|(with_reducible assumption)|assumption)
           obtain ⟨ad175,e175,hx175_0,hx175_1⟩:= at_T96 HR1_0.out x5_2 p175 q175
           cases e175
           replace hx175_0:= (HB.out.cell (World.block_lt_of_cell? w _ hx175_0)).trans hx175_0
           replace hx175_1:= (HB.out.cell (World.block_lt_of_cell? w _ hx175_1)).trans hx175_1
           replace p175:= eq_true p175
           replace q175:= eq_true q175
           go_wp2_with (first|((with_reducible refine gate_dst (N:= 6) rfl ?_);(try (refine gate_guard (by rfl) ?_;dsimp only));refine box_event ?hg (N:= 6) ?hd (cs:= #[.int .i64 0,.int .i64 0]) (t:= 96) ?hr ?_;(case hd => rfl);(case hg => rfl);(case hr => first|(go_simp;done)|(go_simp;rfl));intro gb176 hg w60 hbox hb;have n0_:= mk (blk_below (g:= gb172) (o:= .cells #[.slice A0_0 l0_0.length c0_0,.slice A0_1 l0_1.length c0_1,.slice A0_2 l0_2.length c0_2] 30 (0,0)) (ub BK172.out) hb);have n1_:= mk (blk_below (g:= gb173) (o:= .cells #[.slice (some ad175) l1_0.length c1_0,.slice A1_1 l1_1.length c1_1] 61 (0,0)) (ub BK173.out) hb);have n2_:= mk (below_step (by repeat (first|(with_reducible first|exact HB.out|apply below_alloc|apply pw_below_drewN|apply below_drew1|refine below_set ?_ GE172.out|refine below_set ?_ GE173.out)|exact HB.out)) hb);have n3_:= mk (hbox);have n4_:= mk ((by rw [hg];exact (below_size (by repeat (first|(with_reducible first|exact HB.out|apply below_alloc|apply pw_below_drewN|apply below_drew1|refine below_set ?_ GE172.out|refine below_set ?_ GE173.out)|exact HB.out))) : w.heap.size ≤ gb176));have n5_:= mk ((by rw [hg];exact (below_size (by repeat (first|(with_reducible first|exact HB.out|apply below_alloc|apply pw_below_drewN|apply below_drew1|refine below_set ?_ GE172.out|refine below_set ?_ GE173.out)|exact HB.out))) : w.heap.size ≤ gb176));have n6_:= mk ((by rw [hg];exact Nat.ne_of_lt (blk_lt (g:= gb172) (o:= .cells #[.slice A0_0 l0_0.length c0_0,.slice A0_1 l0_1.length c0_1,.slice A0_2 l0_2.length c0_2] 30 (0,0)) (ub BK172.out)) : gb172 ≠ gb176));have n7_:= mk ((by rw [hg];exact Nat.ne_of_gt (blk_lt (g:= gb172) (o:= .cells #[.slice A0_0 l0_0.length c0_0,.slice A0_1 l0_1.length c0_1,.slice A0_2 l0_2.length c0_2] 30 (0,0)) (ub BK172.out)) : gb176 ≠ gb172));have n8_:= mk ((by rw [hg];exact Nat.ne_of_lt (blk_lt (g:= gb173) (o:= .cells #[.slice (some ad175) l1_0.length c1_0,.slice A1_1 l1_1.length c1_1] 61 (0,0)) (ub BK173.out)) : gb173 ≠ gb176));have n9_:= mk ((by rw [hg];exact Nat.ne_of_gt (blk_lt (g:= gb173) (o:= .cells #[.slice (some ad175) l1_0.length c1_0,.slice A1_1 l1_1.length c1_1] 61 (0,0)) (ub BK173.out)) : gb176 ≠ gb173));clear BK172;clear BK173;clear HB;have BK172:= n0_;have BK173:= n1_;have HB:= n2_;have BK176:= n3_;have GW176:= n4_;have GE176:= n5_;have NB172_176:= n6_;have NB176_172:= n7_;have NB173_176:= n8_;have NB176_173:= n9_;clear n0_ n1_ n2_ n3_ n4_ n5_ n6_ n7_ n8_ n9_;clear hb hbox hg;have hnb61:= NB176_172.out;have hnc61:= NB172_176.out;have hnb62:= NB176_173.out;have hnc62:= NB173_176.out;have hcz63_0 : w60.cell? ⟨gb176,0,none⟩ = some (.int .i64 0):= (blk_cell BK176.out 0).trans rfl;have hcz63_1 : w60.cell? ⟨gb176,1,none⟩ = some (.int .i64 0):= (blk_cell BK176.out 1).trans rfl;have hfz63_0:= blk_frozen BK176.out 0;have hfz63_1:= blk_frozen BK176.out 1)|((with_reducible refine gate_callee (f:= 71) rfl ?_);refine goesL_ (some 46) rfl rfl Try.func71 (by kernel_rfl) rfl #[.agg #[.int .i64 ((rd_T96 l1_0 x5_2).f0),.int .i64 ((rd_T96 l1_0 x5_2).f1)]] rfl (by (try simp only [List.map_toArray,List.map_cons,List.map_nil]);first|done|rfl|(simp only [List.length_drop,List.length_take];rfl)) ?_;(with_reducible refine (spec_IsItem.calls ((rd_T96 l1_0 x5_2).f0) ((rd_T96 l1_0 x5_2).f1) true _ A29.out).mono ?_);rintro e w64 ⟨rfl,hb⟩;refine ⟨_,rfl,?_⟩;have n0_:= mk (blk_below (g:= gb172) (o:= .cells #[.slice A0_0 l0_0.length c0_0,.slice A0_1 l0_1.length c0_1,.slice A0_2 l0_2.length c0_2] 30 (0,0)) (by (with_reducible repeat (first|refine blk_drewN ?_ _|refine blk_drew ?_|refine blk_alloc ?_ _));refine blk_far ?_ NB172_176.out _;(with_reducible repeat (first|refine blk_drewN ?_ _|refine blk_drew ?_|refine blk_alloc ?_ _));refine blk_far ?_ NB172_176.out _;(with_reducible repeat (first|refine blk_drewN ?_ _|refine blk_drew ?_|refine blk_alloc ?_ _));exact BK172.out) hb);have n1_:= mk (blk_below (g:= gb173) (o:= .cells #[.slice (some ad175) l1_0.length c1_0,.slice A1_1 l1_1.length c1_1] 61 (0,0)) (by (with_reducible repeat (first|refine blk_drewN ?_ _|refine blk_drew ?_|refine blk_alloc ?_ _));refine blk_far ?_ NB173_176.out _;(with_reducible repeat (first|refine blk_drewN ?_ _|refine blk_drew ?_|refine blk_alloc ?_ _));refine blk_far ?_ NB173_176.out _;(with_reducible repeat (first|refine blk_drewN ?_ _|refine blk_drew ?_|refine blk_alloc ?_ _));exact BK173.out) hb);have n2_:= mk (blk_below (g:= gb176) (o:= .cells #[.int .i64 ((rd_T96 l1_0 x5_2).f0),.int .i64 ((rd_T96 l1_0 x5_2).f1)] 96 (0,0)) (by (with_reducible repeat (first|refine blk_drewN ?_ _|refine blk_drew ?_|refine blk_alloc ?_ _));refine blk_put (cs:= #[.int .i64 ((rd_T96 l1_0 x5_2).f0),.int .i64 0]) ?_ 1 _ rfl;(with_reducible repeat (first|refine blk_drewN ?_ _|refine blk_drew ?_|refine blk_alloc ?_ _));refine blk_put (cs:= #[.int .i64 0,.int .i64 0]) ?_ 0 _ rfl;(with_reducible repeat (first|refine blk_drewN ?_ _|refine blk_drew ?_|refine blk_alloc ?_ _));exact BK176.out) hb);have n3_:= mk (below_step (by repeat (first|(with_reducible first|exact HB.out|apply below_alloc|apply pw_below_drewN|apply below_drew1|refine below_set ?_ GE172.out|refine below_set ?_ GE173.out|refine below_set ?_ GE176.out)|exact HB.out)) hb);clear BK172;clear BK173;clear BK176;clear HB;have BK172:= n0_;have BK173:= n1_;have BK176:= n2_;have HB:= n3_;clear n0_ n1_ n2_ n3_;(try clear hb);(try clear hb2);(try clear hk);(try clear hi);have hcz65_0 : w64.cell? ⟨gb172,0,none⟩ = some (.slice A0_0 l0_0.length c0_0):= (blk_cell BK172.out 0).trans rfl;have hcz65_1 : w64.cell? ⟨gb172,1,none⟩ = some (.slice A0_1 l0_1.length c0_1):= (blk_cell BK172.out 1).trans rfl;have hcz65_2 : w64.cell? ⟨gb172,2,none⟩ = some (.slice A0_2 l0_2.length c0_2):= (blk_cell BK172.out 2).trans rfl;have hfz65_0:= blk_frozen BK172.out 0;have hfz65_1:= blk_frozen BK172.out 1;have hfz65_2:= blk_frozen BK172.out 2;have hcz66_0 : w64.cell? ⟨gb176,0,none⟩ = some (.int .i64 ((rd_T96 l1_0 x5_2).f0)):= (blk_cell BK176.out 0).trans rfl;have hcz66_1 : w64.cell? ⟨gb176,1,none⟩ = some (.int .i64 ((rd_T96 l1_0 x5_2).f1)):= (blk_cell BK176.out 1).trans rfl;have hfz66_0:= blk_frozen BK176.out 0;have hfz66_1:= blk_frozen BK176.out 1)|(go_at_call 72;(with_reducible refine (spec_FindRow.calls k2 _ _ l0_0 _ _ l0_1 _ _ l0_2 ((rd_T96 l1_0 x5_2).f1) t178 _ ?side1 ?side2 ?side3 ?side4 ?side5 ?side6 A31.out).mono ?_);(case side1 => exact uc (Kd.C_below HR0_0.out HB.out));(case side2 => exact HC0_0.out);(case side3 => exact uc (Kd.C_below HR0_1.out HB.out));(case side4 => exact HC0_1.out);(case side5 => exact uc (Kd.C_below HR0_2.out HB.out));(case side6 => exact HC0_2.out);rintro e w67 ⟨rfl,hb⟩;have n0_:= mk (blk_below (g:= gb172) (o:= .cells #[.slice A0_0 l0_0.length c0_0,.slice A0_1 l0_1.length c0_1,.slice A0_2 l0_2.length c0_2] 30 (0,0)) (ub BK172.out) hb);have n1_:= mk (blk_below (g:= gb173) (o:= .cells #[.slice (some ad175) l1_0.length c1_0,.slice A1_1 l1_1.length c1_1] 61 (0,0)) (ub BK173.out) hb);have n2_:= mk (blk_below (g:= gb176) (o:= .cells #[.int .i64 ((rd_T96 l1_0 x5_2).f0),.int .i64 ((rd_T96 l1_0 x5_2).f1)] 96 (0,0)) (ub BK176.out) hb);have n3_:= mk (below_step (by repeat (first|(with_reducible first|exact HB.out|apply below_alloc|apply pw_below_drewN|apply below_drew1|refine below_set ?_ GE172.out|refine below_set ?_ GE173.out|refine below_set ?_ GE176.out)|exact HB.out)) hb);clear BK172;clear BK173;clear BK176;clear HB;have BK172:= n0_;have BK173:= n1_;have BK176:= n2_;have HB:= n3_;clear n0_ n1_ n2_ n3_;(try clear hb);(try clear hb2);(try clear hk);(try clear hi);have hcz68_0 : w67.cell? ⟨gb173,0,none⟩ = some (.slice (some ad175) l1_0.length c1_0):= (blk_cell BK173.out 0).trans rfl;have hcz68_1 : w67.cell? ⟨gb173,1,none⟩ = some (.slice A1_1 l1_1.length c1_1):= (blk_cell BK173.out 1).trans rfl;have hfz68_0:= blk_frozen BK173.out 0;have hfz68_1:= blk_frozen BK173.out 1;have hcz69_0 : w67.cell? ⟨gb176,0,none⟩ = some (.int .i64 ((rd_T96 l1_0 x5_2).f0)):= (blk_cell BK176.out 0).trans rfl;have hcz69_1 : w67.cell? ⟨gb176,1,none⟩ = some (.int .i64 ((rd_T96 l1_0 x5_2).f1)):= (blk_cell BK176.out 1).trans rfl;have hfz69_0:= blk_frozen BK176.out 0;have hfz69_1:= blk_frozen BK176.out 1)|(go_at_call 73;(with_reducible refine (spec_l11HasRow.calls k2 _ _ l1_0 _ _ l1_1 ((rd_T96 l1_0 x5_2).f1) t179 _ ?side1 ?side2 ?side3 ?side4 A43.out).mono ?_);(case side1 => exact uc (Kd.C_below HR1_0.out HB.out));(case side2 => exact HC1_0.out);(case side3 => exact uc (Kd.C_below HR1_1.out HB.out));(case side4 => exact HC1_1.out);rintro e w70 ⟨rfl,hb⟩;have n0_:= mk (blk_below (g:= gb172) (o:= .cells #[.slice A0_0 l0_0.length c0_0,.slice A0_1 l0_1.length c0_1,.slice A0_2 l0_2.length c0_2] 30 (0,0)) (ub BK172.out) hb);have n1_:= mk (blk_below (g:= gb173) (o:= .cells #[.slice (some ad175) l1_0.length c1_0,.slice A1_1 l1_1.length c1_1] 61 (0,0)) (ub BK173.out) hb);have n2_:= mk (blk_below (g:= gb176) (o:= .cells #[.int .i64 ((rd_T96 l1_0 x5_2).f0),.int .i64 ((rd_T96 l1_0 x5_2).f1)] 96 (0,0)) (ub BK176.out) hb);have n3_:= mk (below_step (by repeat (first|(with_reducible first|exact HB.out|apply below_alloc|apply pw_below_drewN|apply below_drew1|refine below_set ?_ GE172.out|refine below_set ?_ GE173.out|refine below_set ?_ GE176.out)|exact HB.out)) hb);clear BK172;clear BK173;clear BK176;clear HB;have BK172:= n0_;have BK173:= n1_;have BK176:= n2_;have HB:= n3_;clear n0_ n1_ n2_ n3_;(try clear hb);(try clear hb2);(try clear hk);(try clear hi)))
           go_ret
           exact ⟨by first|rfl|(simp [errW_none,errW_some] <;> rfl)|(simp [*,errW_none,errW_some] <;> rfl),by repeat (first|(with_reducible first|exact HB.out|apply below_alloc|apply pw_below_drewN|apply below_drew1|refine below_set ?_ GE172.out|refine below_set ?_ GE173.out|refine below_set ?_ GE176.out)|exact HB.out)⟩
        ·replace c30:= Bool.eq_false_iff.mpr c30
         subst c30
         have H1 : (some false) = some r:= by rw [if_neg (show ¬ (false = true) by decide)] at H;exact H
         clear H
         have H:= H1
         clear H1
         obtain rfl:= Option.some.inj H
         have hnb71:= NB173_172.out
         have hnc71:= NB172_173.out
         have hcz72_0 : wr.cell? ⟨gb173,0,none⟩ = some (.slice A1_0 l1_0.length c1_0):= (blk_cell BK173.out 0).trans rfl
         have hcz72_1 : wr.cell? ⟨gb173,1,none⟩ = some (.slice A1_1 l1_1.length c1_1):= (blk_cell BK173.out 1).trans rfl
         have hfz72_0:= blk_frozen BK173.out 0
         have hfz72_1:= blk_frozen BK173.out 1
         have p175 : 0 ≤ (x5_2 : Int):= of_decide_eq_true (by first|(with_reducible assumption)|assumption)
         have q175 : x5_2 < (l1_0.length : Int):= of_decide_eq_true (by first|(with_reducible assumption)|assumption)
         obtain ⟨ad175,e175,hx175_0,hx175_1⟩:= at_T96 HR1_0.out x5_2 p175 q175
         cases e175
         replace hx175_0:= (HB.out.cell (World.block_lt_of_cell? w _ hx175_0)).trans hx175_0
         replace hx175_1:= (HB.out.cell (World.block_lt_of_cell? w _ hx175_1)).trans hx175_1
         replace p175:= eq_true p175
         replace q175:= eq_true q175
         go_wp2_with (first|((with_reducible refine gate_dst (N:= 6) rfl ?_);(try (refine gate_guard (by rfl) ?_;dsimp only));refine box_event ?hg (N:= 6) ?hd (cs:= #[.int .i64 0,.int .i64 0]) (t:= 96) ?hr ?_;(case hd => rfl);(case hg => rfl);(case hr => first|(go_simp;done)|(go_simp;rfl));intro gb176 hg w73 hbox hb;have n0_:= mk (blk_below (g:= gb172) (o:= .cells #[.slice A0_0 l0_0.length c0_0,.slice A0_1 l0_1.length c0_1,.slice A0_2 l0_2.length c0_2] 30 (0,0)) (ub BK172.out) hb);have n1_:= mk (blk_below (g:= gb173) (o:= .cells #[.slice (some ad175) l1_0.length c1_0,.slice A1_1 l1_1.length c1_1] 61 (0,0)) (ub BK173.out) hb);have n2_:= mk (below_step (by repeat (first|(with_reducible first|exact HB.out|apply below_alloc|apply pw_below_drewN|apply below_drew1|refine below_set ?_ GE172.out|refine below_set ?_ GE173.out)|exact HB.out)) hb);have n3_:= mk (hbox);have n4_:= mk ((by rw [hg];exact (below_size (by repeat (first|(with_reducible first|exact HB.out|apply below_alloc|apply pw_below_drewN|apply below_drew1|refine below_set ?_ GE172.out|refine below_set ?_ GE173.out)|exact HB.out))) : w.heap.size ≤ gb176));have n5_:= mk ((by rw [hg];exact (below_size (by repeat (first|(with_reducible first|exact HB.out|apply below_alloc|apply pw_below_drewN|apply below_drew1|refine below_set ?_ GE172.out|refine below_set ?_ GE173.out)|exact HB.out))) : w.heap.size ≤ gb176));have n6_:= mk ((by rw [hg];exact Nat.ne_of_lt (blk_lt (g:= gb172) (o:= .cells #[.slice A0_0 l0_0.length c0_0,.slice A0_1 l0_1.length c0_1,.slice A0_2 l0_2.length c0_2] 30 (0,0)) (ub BK172.out)) : gb172 ≠ gb176));have n7_:= mk ((by rw [hg];exact Nat.ne_of_gt (blk_lt (g:= gb172) (o:= .cells #[.slice A0_0 l0_0.length c0_0,.slice A0_1 l0_1.length c0_1,.slice A0_2 l0_2.length c0_2] 30 (0,0)) (ub BK172.out)) : gb176 ≠ gb172));have n8_:= mk ((by rw [hg];exact Nat.ne_of_lt (blk_lt (g:= gb173) (o:= .cells #[.slice (some ad175) l1_0.length c1_0,.slice A1_1 l1_1.length c1_1] 61 (0,0)) (ub BK173.out)) : gb173 ≠ gb176));have n9_:= mk ((by rw [hg];exact Nat.ne_of_gt (blk_lt (g:= gb173) (o:= .cells #[.slice (some ad175) l1_0.length c1_0,.slice A1_1 l1_1.length c1_1] 61 (0,0)) (ub BK173.out)) : gb176 ≠ gb173));clear BK172;clear BK173;clear HB;have BK172:= n0_;have BK173:= n1_;have HB:= n2_;have BK176:= n3_;have GW176:= n4_;have GE176:= n5_;have NB172_176:= n6_;have NB176_172:= n7_;have NB173_176:= n8_;have NB176_173:= n9_;clear n0_ n1_ n2_ n3_ n4_ n5_ n6_ n7_ n8_ n9_;clear hb hbox hg;have hnb74:= NB176_172.out;have hnc74:= NB172_176.out;have hnb75:= NB176_173.out;have hnc75:= NB173_176.out;have hcz76_0 : w73.cell? ⟨gb176,0,none⟩ = some (.int .i64 0):= (blk_cell BK176.out 0).trans rfl;have hcz76_1 : w73.cell? ⟨gb176,1,none⟩ = some (.int .i64 0):= (blk_cell BK176.out 1).trans rfl;have hfz76_0:= blk_frozen BK176.out 0;have hfz76_1:= blk_frozen BK176.out 1)|((with_reducible refine gate_callee (f:= 71) rfl ?_);refine goesL_ (some 46) rfl rfl Try.func71 (by kernel_rfl) rfl #[.agg #[.int .i64 ((rd_T96 l1_0 x5_2).f0),.int .i64 ((rd_T96 l1_0 x5_2).f1)]] rfl (by (try simp only [List.map_toArray,List.map_cons,List.map_nil]);first|done|rfl|(simp only [List.length_drop,List.length_take];rfl)) ?_;(with_reducible refine (spec_IsItem.calls ((rd_T96 l1_0 x5_2).f0) ((rd_T96 l1_0 x5_2).f1) false _ A29.out).mono ?_);rintro e w77 ⟨rfl,hb⟩;refine ⟨_,rfl,?_⟩;have n0_:= mk (blk_below (g:= gb172) (o:= .cells #[.slice A0_0 l0_0.length c0_0,.slice A0_1 l0_1.length c0_1,.slice A0_2 l0_2.length c0_2] 30 (0,0)) (by (with_reducible repeat (first|refine blk_drewN ?_ _|refine blk_drew ?_|refine blk_alloc ?_ _));refine blk_far ?_ NB172_176.out _;(with_reducible repeat (first|refine blk_drewN ?_ _|refine blk_drew ?_|refine blk_alloc ?_ _));refine blk_far ?_ NB172_176.out _;(with_reducible repeat (first|refine blk_drewN ?_ _|refine blk_drew ?_|refine blk_alloc ?_ _));exact BK172.out) hb);have n1_:= mk (blk_below (g:= gb173) (o:= .cells #[.slice (some ad175) l1_0.length c1_0,.slice A1_1 l1_1.length c1_1] 61 (0,0)) (by (with_reducible repeat (first|refine blk_drewN ?_ _|refine blk_drew ?_|refine blk_alloc ?_ _));refine blk_far ?_ NB173_176.out _;(with_reducible repeat (first|refine blk_drewN ?_ _|refine blk_drew ?_|refine blk_alloc ?_ _));refine blk_far ?_ NB173_176.out _;(with_reducible repeat (first|refine blk_drewN ?_ _|refine blk_drew ?_|refine blk_alloc ?_ _));exact BK173.out) hb);have n2_:= mk (blk_below (g:= gb176) (o:= .cells #[.int .i64 ((rd_T96 l1_0 x5_2).f0),.int .i64 ((rd_T96 l1_0 x5_2).f1)] 96 (0,0)) (by (with_reducible repeat (first|refine blk_drewN ?_ _|refine blk_drew ?_|refine blk_alloc ?_ _));refine blk_put (cs:= #[.int .i64 ((rd_T96 l1_0 x5_2).f0),.int .i64 0]) ?_ 1 _ rfl;(with_reducible repeat (first|refine blk_drewN ?_ _|refine blk_drew ?_|refine blk_alloc ?_ _));refine blk_put (cs:= #[.int .i64 0,.int .i64 0]) ?_ 0 _ rfl;(with_reducible repeat (first|refine blk_drewN ?_ _|refine blk_drew ?_|refine blk_alloc ?_ _));exact BK176.out) hb);have n3_:= mk (below_step (by repeat (first|(with_reducible first|exact HB.out|apply below_alloc|apply pw_below_drewN|apply below_drew1|refine below_set ?_ GE172.out|refine below_set ?_ GE173.out|refine below_set ?_ GE176.out)|exact HB.out)) hb);clear BK172;clear BK173;clear BK176;clear HB;have BK172:= n0_;have BK173:= n1_;have BK176:= n2_;have HB:= n3_;clear n0_ n1_ n2_ n3_;(try clear hb);(try clear hb2);(try clear hk);(try clear hi)))
         go_ret
         exact ⟨by first|rfl|(simp [errW_none,errW_some] <;> rfl)|(simp [*,errW_none,errW_some] <;> rfl),by repeat (first|(with_reducible first|exact HB.out|apply below_alloc|apply pw_below_drewN|apply below_drew1|refine below_set ?_ GE172.out|refine below_set ?_ GE173.out|refine below_set ?_ GE176.out)|exact HB.out)⟩
       ·rw [if_neg c28] at H
        exact absurd H (by simp)
      ·rw [if_neg c27] at H
       have c27b0 : decide (x5_2 < (l1_0.length : Int)) = false:= decide_eq_false c27
       clear c27
       have H':= mk H
       clear H
       have hnb78:= NB173_172.out
       have hnc78:= NB172_173.out
       have hcz79_0 : wr.cell? ⟨gb173,0,none⟩ = some (.slice A1_0 l1_0.length c1_0):= (blk_cell BK173.out 0).trans rfl
       have hcz79_1 : wr.cell? ⟨gb173,1,none⟩ = some (.slice A1_1 l1_1.length c1_1):= (blk_cell BK173.out 1).trans rfl
       have hfz79_0:= blk_frozen BK173.out 0
       have hfz79_1:= blk_frozen BK173.out 1
       go_wp2
       go_loopg [7] k2 (fun kq v7 w' => ∃ (x7_3 : Int),v7 = .int .i64 x7_3 ∧ Aside0 (spec_IsPending.l1 kq x7_3 l0_0 l0_1 l0_2 l1_0 l1_1 = some r) ∧ Aside0 (kq ≤ k2) ∧ Aside0 (w'.heap[gb172]? = some (.cells #[(.slice A0_0 l0_0.length c0_0),(.slice A0_1 l0_1.length c0_1),(.slice A0_2 l0_2.length c0_2)] 30 (0,0))) ∧ Aside0 (w'.heap[gb173]? = some (.cells #[(.slice A1_0 l1_0.length c1_0),(.slice A1_1 l1_1.length c1_1)] 61 (0,0))) ∧ Aside0 (Below w.heap.size w w'))
       case atStart => exact ⟨(0),(by first|rfl|(simp;done)|(simp [*];done)),H',⟨Nat.le_refl _⟩,⟨ub BK172.out⟩,⟨ub BK173.out⟩,⟨by repeat (first|(with_reducible first|exact HB.out|apply below_alloc|apply pw_below_drewN|apply below_drew1|refine below_set ?_ GE172.out|refine below_set ?_ GE173.out)|exact HB.out)⟩⟩
       case round =>
        clear H'
        try clear c1
        try clear p1
        try clear q1
        try clear hx1
        try clear c2
        try clear p2
        try clear c3
        try clear c4
        try clear c5
        try clear c6
        try clear p6
        try clear c7
        try clear c8
        try clear c8b0
        try clear c8b1
        try clear c9
        try clear c13
        try clear c13b0
        try clear c13b1
        try clear c14
        try clear p17
        try clear q17
        try clear hx17
        try clear c18
        try clear c23
        try clear c26
        try clear c27
        try clear c27b0
        try clear c28
        try clear c28b0
        try clear c30
        try clear c32
        try clear c32b0
        try clear c33
        try clear c36
        try clear c37
        try clear c44
        try clear c44b0
        try clear c44b1
        try clear c45
        try clear c48
        try clear c49
        try clear c58
        try clear c61
        try clear c62
        try clear p64
        try clear c71
        try clear c74
        try clear c75
        try clear c78
        try clear hcz10_0
        try clear hcz10_1
        try clear hcz10_2
        try clear hcz12_0
        try clear hcz12_1
        try clear hcz15_0
        try clear hcz15_1
        try clear hcz15_2
        try clear hcz17_0
        try clear hcz17_1
        try clear hcz19_0
        try clear hcz19_1
        try clear hcz19_2
        try clear hcz21_0
        try clear hcz21_1
        try clear hcz22_0
        try clear hcz22_1
        try clear hcz22_2
        try clear hcz24_0
        try clear hcz24_1
        try clear hcz24_2
        try clear hcz34_0
        try clear hcz34_1
        try clear hcz38_0
        try clear hcz38_1
        try clear hcz40_0
        try clear hcz40_1
        try clear hcz40_2
        try clear hcz41_0
        try clear hcz41_1
        try clear hcz46_0
        try clear hcz46_1
        try clear hcz50_0
        try clear hcz50_1
        try clear hcz52_0
        try clear hcz52_1
        try clear hcz52_2
        try clear hcz53_0
        try clear hcz53_1
        try clear hcz55_0
        try clear hcz55_1
        try clear hcz56_0
        try clear hcz56_1
        try clear hcz59_0
        try clear hcz59_1
        try clear hcz63_0
        try clear hcz63_1
        try clear hcz65_0
        try clear hcz65_1
        try clear hcz65_2
        try clear hcz66_0
        try clear hcz66_1
        try clear hcz68_0
        try clear hcz68_1
        try clear hcz69_0
        try clear hcz69_1
        try clear hcz72_0
        try clear hcz72_1
        try clear hcz76_0
        try clear hcz76_1
        try clear hcz79_0
        try clear hcz79_1
        try clear hfz10_0
        try clear hfz10_1
        try clear hfz10_2
        try clear hfz12_0
        try clear hfz12_1
        try clear hfz15_0
        try clear hfz15_1
        try clear hfz15_2
        try clear hfz17_0
        try clear hfz17_1
        try clear hfz19_0
        try clear hfz19_1
        try clear hfz19_2
        try clear hfz21_0
        try clear hfz21_1
        try clear hfz22_0
        try clear hfz22_1
        try clear hfz22_2
        try clear hfz24_0
        try clear hfz24_1
        try clear hfz24_2
        try clear hfz34_0
        try clear hfz34_1
        try clear hfz38_0
        try clear hfz38_1
        try clear hfz40_0
        try clear hfz40_1
        try clear hfz40_2
        try clear hfz41_0
        try clear hfz41_1
        try clear hfz46_0
        try clear hfz46_1
        try clear hfz50_0
        try clear hfz50_1
        try clear hfz52_0
        try clear hfz52_1
        try clear hfz52_2
        try clear hfz53_0
        try clear hfz53_1
        try clear hfz55_0
        try clear hfz55_1
        try clear hfz56_0
        try clear hfz56_1
        try clear hfz59_0
        try clear hfz59_1
        try clear hfz63_0
        try clear hfz63_1
        try clear hfz65_0
        try clear hfz65_1
        try clear hfz65_2
        try clear hfz66_0
        try clear hfz66_1
        try clear hfz68_0
        try clear hfz68_1
        try clear hfz69_0
        try clear hfz69_1
        try clear hfz72_0
        try clear hfz72_1
        try clear hfz76_0
        try clear hfz76_1
        try clear hfz79_0
        try clear hfz79_1
        try clear hx175_0
        try clear hx175_1
        try clear p175
        try clear p2
        try clear p6
        try clear q175
        obtain ⟨x7_3,rfl,HA,HK3,BK172,BK173,HB⟩:= hrel
        cases gk with
       |zero => exact absurd HA.out (by simp [spec_IsPending.l1])
       |succ k3 =>
         have H:= HA.out
         clear HA
         simp only [spec_IsPending.l1] at H
         by_cases c80 : x7_3 < (l1_1.length : Int)
         ·rw [if_pos c80] at H
          have c80b0 : decide (x7_3 < (l1_1.length : Int)) = true:= decide_eq_true c80
          clear c80
          by_cases c81 : 0 ≤ x7_3
          ·rw [if_pos c81] at H
           have c81b0 : decide (0 ≤ x7_3) = true:= decide_eq_true c81
           clear c81
           replace H:= Option.bind_eq_some_iff.mp H
           obtain ⟨t181,A820,H⟩:= H
           replace H : (if t181 < 0 then (some false) else (if x7_3 ≤ (l1_1.length : Int) then ((spec_l4Has.f k3 (l1_1.take (x7_3 : Int).toNat) (rd l1_1 x7_3)).bind fun t184 => (if t184 = true then (some false) else (spec_IsPending.l1 k3 (wrap64 (x7_3 + 1)) l0_0 l0_1 l0_2 l1_0 l1_1))) else (none))) = some r:= H
           have A82:= mk A820
           clear A820
           by_cases c83 : t181 < 0
           ·rw [if_pos c83] at H
            have c83b0 : decide (t181 < 0) = true:= decide_eq_true c83
            clear c83
            obtain rfl:= Option.some.inj H
            have hnb84:= NB173_172.out
            have hnc84:= NB172_173.out
            have hcz85_0 : wr.cell? ⟨gb173,0,none⟩ = some (.slice A1_0 l1_0.length c1_0):= (blk_cell BK173.out 0).trans rfl
            have hcz85_1 : wr.cell? ⟨gb173,1,none⟩ = some (.slice A1_1 l1_1.length c1_1):= (blk_cell BK173.out 1).trans rfl
            have hfz85_0:= blk_frozen BK173.out 0
            have hfz85_1:= blk_frozen BK173.out 1
            try go_wp2
            have n0_:= mk (blk_drew BK172.out)
            have n1_:= mk (blk_drew BK173.out)
            have n2_:= mk (below_drew1 HB.out)
            clear BK172
            clear BK173
            clear HB
            have BK172:= n0_
            have BK173:= n1_
            have HB:= n2_
            clear n0_ n1_ n2_
            have p180 : 0 ≤ (x7_3 : Int):= of_decide_eq_true (by first|(with_reducible assumption)|assumption)
            have q180 : x7_3 < (l1_1.length : Int):= of_decide_eq_true (by first|(with_reducible assumption)|assumption)
            obtain ⟨ad180,e180,hx180_0⟩:= Kd.at_int HR1_1.out x7_3 p180 q180
            have hw180_0:= hx180_0
            cases e180
            replace hx180_0:= (HB.out.cell (World.block_lt_of_cell? w _ hx180_0)).trans hx180_0
            replace p180:= eq_true p180
            replace q180:= eq_true q180
            refine start_ (n:= 20) (S:= fun w' => w'.cell? ⟨gb172,0,none⟩ = some (.slice A0_0 l0_0.length c0_0) ∧ w'.cell? ⟨gb172,1,none⟩ = some (.slice A0_1 l0_1.length c0_1) ∧ w'.cell? ⟨gb172,2,none⟩ = some (.slice A0_2 l0_2.length c0_2) ∧ w'.cell? ⟨gb173,0,none⟩ = some (.slice A1_0 l1_0.length c1_0) ∧ w'.cell? ⟨gb173,1,none⟩ = some (.slice (some ad180) l1_1.length c1_1) ∧ w'.cell? (ad180.add (x7_3).toNat) = some (.int .i64 (rd l1_1 x7_3))) (ds:= []) #[F_,F_,F_,F_,F_,F_,F_,F_,F_,F_,F_,F_,F_,F_,F_,F_,F_,F_,F_,F_] (by kernel_rfl) rfl rfl ⟨(blk_cell BK172.out 0).trans rfl,(blk_cell BK172.out 1).trans rfl,(blk_cell BK172.out 2).trans rfl,(blk_cell BK173.out 0).trans rfl,(blk_cell BK173.out 1).trans rfl,((HB.out.cell (World.block_lt_of_cell? w _ hw180_0)).trans hw180_0)⟩ (fun hHeld => ?_);refine with_tabW spec_IsPending.tab12 spec_IsPending.bits12 (fun HT_ HW_ => ?_)
            generalize wr.drew = w86 at BK172 BK173 HB hx180_0 hHeld ⊢
            refine pure_ (i:= 1) (N:= some 71) (v:= ?_) (a':= ?_) #[F_,T_,F_,F_,F_,F_,F_,F_,F_,F_,F_,F_,F_,F_,F_,F_,F_,F_,F_,F_] rfl rfl (any_of HT_.out (by kernel_rfl)) (fun _ _ _ h => h) (Or.inl ⟨by rfl,?_⟩) ?_ ?_
            rotate_left
            ·intro w'
             go_simp
             with_reducible rfl
            rotate_left
            ·simp only [Act.put,List.setIfInBounds_toArray,List.set_cons_zero,List.set_cons_succ,i64_w,i32_w]
             rfl
            refine pure_ (i:= 3) (N:= some 73) (v:= ?_) (a':= ?_) #[F_,T_,F_,T_,F_,F_,F_,F_,F_,F_,F_,F_,F_,F_,F_,F_,F_,F_,F_,F_] rfl rfl (any_of HT_.out (by kernel_rfl)) (fun _ _ _ h => h) (Or.inl ⟨by rfl,?_⟩) ?_ ?_
            rotate_left
            ·intro w'
             go_simp
             with_reducible rfl
            rotate_left
            ·simp only [Act.put,List.setIfInBounds_toArray,List.set_cons_zero,List.set_cons_succ,i64_w,i32_w]
             rfl
            refine take_ (i:= 0) (N:= some 70) (v:= ?_) (a':= ?_) #[T_,T_,F_,T_,F_,F_,F_,F_,F_,F_,F_,F_,F_,F_,F_,F_,F_,F_,F_,F_] rfl rfl (take_ofW HT_.out HW_.out (by kernel_rfl)) (fun _ _ _ h => h) (Or.inl ⟨by rfl,?_⟩) hHeld ?_ ?_
            rotate_left
            ·rintro w' ⟨s0,s1,s2,s3,s4,s5⟩
             go_simp
             with_reducible rfl
            rotate_left
            ·simp only [Act.put,List.setIfInBounds_toArray,List.set_cons_zero,List.set_cons_succ,i64_w,i32_w]
             rfl
            refine take_ (i:= 2) (N:= some 72) (v:= ?_) (a':= ?_) #[T_,T_,T_,T_,F_,F_,F_,F_,F_,F_,F_,F_,F_,F_,F_,F_,F_,F_,F_,F_] rfl rfl (take_ofW HT_.out HW_.out (by kernel_rfl)) (fun _ _ _ h => h) (Or.inl ⟨by rfl,?_⟩) hHeld ?_ ?_
            rotate_left
            ·rintro w' ⟨s0,s1,s2,s3,s4,s5⟩
             go_simp
             with_reducible rfl
            rotate_left
            ·simp only [Act.put,List.setIfInBounds_toArray,List.set_cons_zero,List.set_cons_succ,i64_w,i32_w]
             rfl
            refine pure_ (i:= 4) (N:= some 74) (v:= ?_) (a':= ?_) #[T_,T_,T_,T_,T_,F_,F_,F_,F_,F_,F_,F_,F_,F_,F_,F_,F_,F_,F_,F_] rfl rfl (any_of HT_.out (by kernel_rfl)) (fun _ _ _ h => h) (Or.inl ⟨by rfl,?_⟩) ?_ ?_
            rotate_left
            ·intro w'
             go_simp
             with_reducible rfl
            rotate_left
            ·simp only [Act.put,List.setIfInBounds_toArray,List.set_cons_zero,List.set_cons_succ,i64_w,i32_w]
             rfl
            refine take_ (i:= 5) (N:= some 75) (v:= ?_) (a':= ?_) #[T_,T_,T_,T_,T_,T_,F_,F_,F_,F_,F_,F_,F_,F_,F_,F_,F_,F_,F_,F_] rfl rfl (take_ofW HT_.out HW_.out (by kernel_rfl)) (fun _ _ _ h => h) (Or.inl ⟨by rfl,?_⟩) hHeld ?_ ?_
            rotate_left
            ·rintro w' ⟨s0,s1,s2,s3,s4,s5⟩
             go_simp
             with_reducible rfl
            rotate_left
            ·simp only [Act.put,List.setIfInBounds_toArray,List.set_cons_zero,List.set_cons_succ,i64_w,i32_w]
             rfl
            refine one_ (i:= 6) (N:= some 76) #[T_,T_,T_,T_,T_,T_,T_,F_,F_,F_,F_,F_,F_,F_,F_,F_,F_,F_,F_,F_] rfl rfl (one_of HT_.out (by kernel_rfl)) (by decide) (fun K hK => ?_)
            refine goes_ Try.func72 (by kernel_rfl) rfl #[.agg #[.slice A0_0 l0_0.length c0_0,.slice A0_1 l0_1.length c0_1,.slice A0_2 l0_2.length c0_2],.int .i64 (rd l1_1 x7_3)] (by rfl) rfl rfl (by (try simp only [List.map_toArray,List.map_cons,List.map_nil]);first|done|rfl|(simp only [List.length_drop,List.length_take];rfl)) ?_
            with_reducible refine (spec_FindRow.calls k3 _ _ l0_0 _ _ l0_1 _ _ l0_2 (rd l1_1 x7_3) t181 _ ?side1 ?side2 ?side3 ?side4 ?side5 ?side6 A82.out).mono ?_
            (case side1 => exact uc (Kd.C_below HR0_0.out HB.out))
            (case side2 => exact HC0_0.out)
            (case side3 => exact uc (Kd.C_below HR0_1.out HB.out))
            (case side4 => exact HC0_1.out)
            (case side5 => exact uc (Kd.C_below HR0_2.out HB.out))
            (case side6 => exact HC0_2.out)
            rintro e w87 ⟨rfl,hb⟩
            refine ⟨_,rfl,?_⟩
            have n0_:= mk (blk_below (g:= gb172) (o:= .cells #[.slice A0_0 l0_0.length c0_0,.slice A0_1 l0_1.length c0_1,.slice A0_2 l0_2.length c0_2] 30 (0,0)) (ub BK172.out) hb)
            have n1_:= mk (blk_below (g:= gb173) (o:= .cells #[.slice A1_0 l1_0.length c1_0,.slice (some ad180) l1_1.length c1_1] 61 (0,0)) (ub BK173.out) hb)
            have n2_:= mk (below_step (by repeat (first|(with_reducible first|exact HB.out|apply below_alloc|apply pw_below_drewN|apply below_drew1|refine below_set ?_ GE172.out|refine below_set ?_ GE173.out)|exact HB.out)) hb)
            clear BK172
            clear BK173
            clear HB
            have BK172:= n0_
            have BK173:= n1_
            have HB:= n2_
            clear n0_ n1_ n2_
            (try clear hb)
            (try clear hb2)
            (try clear hk)
            (try clear hi)
            refine hK.out _ _ ⟨(blk_cell BK172.out 0).trans rfl,(blk_cell BK172.out 1).trans rfl,(blk_cell BK172.out 2).trans rfl,(blk_cell BK173.out 0).trans rfl,(blk_cell BK173.out 1).trans rfl,((HB.out.cell (World.block_lt_of_cell? w _ hw180_0)).trans hw180_0)⟩ (fun hHeld => ?_)
            clear hK K
            refine norm_ (a':= ?_) ?_ ?_
            rotate_left
            ·show Act.put _ (some 76) _ = _
             simp only [Act.put,List.setIfInBounds_toArray,List.set_cons_zero,List.set_cons_succ,i64_w,i32_w]
             rfl
            refine pure_ (i:= 7) (N:= some 77) (v:= ?_) (a':= ?_) #[T_,T_,T_,T_,T_,T_,T_,T_,F_,F_,F_,F_,F_,F_,F_,F_,F_,F_,F_,F_] rfl rfl (any_of HT_.out (by kernel_rfl)) (fun _ _ _ h => h) (Or.inl ⟨by rfl,?_⟩) ?_ ?_
            rotate_left
            ·intro w'
             go_simp
             with_reducible rfl
            rotate_left
            ·simp only [Act.put,List.setIfInBounds_toArray,List.set_cons_zero,List.set_cons_succ,i64_w,i32_w]
             rfl
            refine pure_ (i:= 8) (N:= some 78) (v:= ?_) (a':= ?_) #[T_,T_,T_,T_,T_,T_,T_,T_,T_,F_,F_,F_,F_,F_,F_,F_,F_,F_,F_,F_] rfl rfl (any_of HT_.out (by kernel_rfl)) (fun _ _ _ h => h) (Or.inl ⟨by rfl,?_⟩) ?_ ?_
            rotate_left
            ·intro w'
             go_simp
             with_reducible rfl
            rotate_left
            ·simp only [Act.put,List.setIfInBounds_toArray,List.set_cons_zero,List.set_cons_succ,i64_w,i32_w]
             rfl
            refine pure_ (i:= 9) (N:= some 79) (v:= undef) (a':= ?_) #[T_,T_,T_,T_,T_,T_,T_,T_,T_,T_,F_,F_,F_,F_,F_,F_,F_,F_,F_,F_] rfl rfl (any_of HT_.out (by kernel_rfl)) (fun _ _ _ h => h) (Or.inr ⟨by rfl,rfl⟩) ?_ ?_
            rotate_left
            ·simp only [Act.put,List.setIfInBounds_toArray,List.set_cons_zero,List.set_cons_succ,i64_w,i32_w]
             rfl
            refine pure_ (i:= 10) (N:= some 80) (v:= undef) (a':= ?_) #[T_,T_,T_,T_,T_,T_,T_,T_,T_,T_,T_,F_,F_,F_,F_,F_,F_,F_,F_,F_] rfl rfl (any_of HT_.out (by kernel_rfl)) (fun _ _ _ h => h) (Or.inr ⟨by rfl,rfl⟩) ?_ ?_
            rotate_left
            ·simp only [Act.put,List.setIfInBounds_toArray,List.set_cons_zero,List.set_cons_succ,i64_w,i32_w]
             rfl
            refine pure_ (i:= 11) (N:= some 81) (v:= undef) (a':= ?_) #[T_,T_,T_,T_,T_,T_,T_,T_,T_,T_,T_,T_,F_,F_,F_,F_,F_,F_,F_,F_] rfl rfl (any_of HT_.out (by kernel_rfl)) (fun _ _ _ h => h) (Or.inr ⟨by rfl,rfl⟩) ?_ ?_
            rotate_left
            ·simp only [Act.put,List.setIfInBounds_toArray,List.set_cons_zero,List.set_cons_succ,i64_w,i32_w]
             rfl
            refine pure_ (i:= 12) (N:= some 82) (v:= undef) (a':= ?_) #[T_,T_,T_,T_,T_,T_,T_,T_,T_,T_,T_,T_,T_,F_,F_,F_,F_,F_,F_,F_] rfl rfl (any_of HT_.out (by kernel_rfl)) (fun _ _ _ h => h) (Or.inr ⟨by rfl,rfl⟩) ?_ ?_
            rotate_left
            ·simp only [Act.put,List.setIfInBounds_toArray,List.set_cons_zero,List.set_cons_succ,i64_w,i32_w]
             rfl
            refine pure_ (i:= 13) (N:= some 83) (v:= undef) (a':= ?_) #[T_,T_,T_,T_,T_,T_,T_,T_,T_,T_,T_,T_,T_,T_,F_,F_,F_,F_,F_,F_] rfl rfl (any_of HT_.out (by kernel_rfl)) (fun _ _ _ h => h) (Or.inr ⟨by rfl,rfl⟩) ?_ ?_
            rotate_left
            ·simp only [Act.put,List.setIfInBounds_toArray,List.set_cons_zero,List.set_cons_succ,i64_w,i32_w]
             rfl
            refine pure_ (i:= 14) (N:= some 84) (v:= undef) (a':= ?_) #[T_,T_,T_,T_,T_,T_,T_,T_,T_,T_,T_,T_,T_,T_,T_,F_,F_,F_,F_,F_] rfl rfl (any_of HT_.out (by kernel_rfl)) (fun _ _ _ h => h) (Or.inr ⟨by rfl,rfl⟩) ?_ ?_
            rotate_left
            ·simp only [Act.put,List.setIfInBounds_toArray,List.set_cons_zero,List.set_cons_succ,i64_w,i32_w]
             rfl
            refine pure_ (i:= 15) (N:= some 85) (v:= undef) (a':= ?_) #[T_,T_,T_,T_,T_,T_,T_,T_,T_,T_,T_,T_,T_,T_,T_,T_,F_,F_,F_,F_] rfl rfl (any_of HT_.out (by kernel_rfl)) (fun _ _ _ h => h) (Or.inr ⟨by rfl,rfl⟩) ?_ ?_
            rotate_left
            ·simp only [Act.put,List.setIfInBounds_toArray,List.set_cons_zero,List.set_cons_succ,i64_w,i32_w]
             rfl
            refine pure_ (i:= 16) (N:= some 86) (v:= undef) (a':= ?_) #[T_,T_,T_,T_,T_,T_,T_,T_,T_,T_,T_,T_,T_,T_,T_,T_,T_,F_,F_,F_] rfl rfl (any_of HT_.out (by kernel_rfl)) (fun _ _ _ h => h) (Or.inr ⟨by rfl,rfl⟩) ?_ ?_
            rotate_left
            ·simp only [Act.put,List.setIfInBounds_toArray,List.set_cons_zero,List.set_cons_succ,i64_w,i32_w]
             rfl
            refine pure_ (i:= 17) (N:= some 87) (v:= undef) (a':= ?_) #[T_,T_,T_,T_,T_,T_,T_,T_,T_,T_,T_,T_,T_,T_,T_,T_,T_,T_,F_,F_] rfl rfl (any_of HT_.out (by kernel_rfl)) (fun _ _ _ h => h) (Or.inr ⟨by rfl,rfl⟩) ?_ ?_
            rotate_left
            ·simp only [Act.put,List.setIfInBounds_toArray,List.set_cons_zero,List.set_cons_succ,i64_w,i32_w]
             rfl
            refine pure_ (i:= 18) (N:= some 88) (v:= undef) (a':= ?_) #[T_,T_,T_,T_,T_,T_,T_,T_,T_,T_,T_,T_,T_,T_,T_,T_,T_,T_,T_,F_] rfl rfl (any_of HT_.out (by kernel_rfl)) (fun _ _ _ h => h) (Or.inr ⟨by rfl,rfl⟩) ?_ ?_
            rotate_left
            ·simp only [Act.put,List.setIfInBounds_toArray,List.set_cons_zero,List.set_cons_succ,i64_w,i32_w]
             rfl
            refine pure_ (i:= 19) (N:= some 89) (v:= ?_) (a':= ?_) #[T_,T_,T_,T_,T_,T_,T_,T_,T_,T_,T_,T_,T_,T_,T_,T_,T_,T_,T_,T_] rfl rfl (any_of HT_.out (by kernel_rfl)) (fun _ _ _ h => h) (Or.inl ⟨by rfl,?_⟩) ?_ ?_
            rotate_left
            ·intro w'
             go_simp
             with_reducible rfl
            rotate_left
            ·simp only [Act.put,List.setIfInBounds_toArray,List.set_cons_zero,List.set_cons_succ,i64_w,i32_w]
             rfl
            refine done_ (done_of HT_.out (by kernel_rfl)) ?_
            try go_wp2
            go_ret
            exact ⟨by first|rfl|(simp [errW_none,errW_some] <;> rfl)|(simp [*,errW_none,errW_some] <;> rfl),by repeat (first|(with_reducible first|exact HB.out|apply below_alloc|apply pw_below_drewN|apply below_drew1|refine below_set ?_ GE172.out|refine below_set ?_ GE173.out)|exact HB.out)⟩
           ·rw [if_neg c83] at H
            have c83b0 : decide (t181 < 0) = false:= decide_eq_false c83
            clear c83
            have c88b0:= eq_true (of_decide_eq_true (by first|(with_reducible assumption)|assumption) : 0 ≤ x7_3)
            by_cases c89 : x7_3 ≤ (l1_1.length : Int)
            ·rw [if_pos c89] at H
             have c89b0:= eq_true c89
             have c89b1 : decide (x7_3 ≤ (l1_1.length : Int)) = true:= decide_eq_true c89
             clear c89
             replace H:= Option.bind_eq_some_iff.mp H
             obtain ⟨t184,A900,H⟩:= H
             replace H : (if t184 = true then (some false) else (spec_IsPending.l1 k3 (wrap64 (x7_3 + 1)) l0_0 l0_1 l0_2 l1_0 l1_1)) = some r:= H
             have A90:= mk A900
             clear A900
             by_cases c91 : t184 = true
             ·subst c91
              have H1 : (some false) = some r:= by rw [if_pos rfl] at H;exact H
              clear H
              have H:= H1
              clear H1
              obtain rfl:= Option.some.inj H
              have hnb92:= NB173_172.out
              have hnc92:= NB172_173.out
              have hcz93_0 : wr.cell? ⟨gb173,0,none⟩ = some (.slice A1_0 l1_0.length c1_0):= (blk_cell BK173.out 0).trans rfl
              have hcz93_1 : wr.cell? ⟨gb173,1,none⟩ = some (.slice A1_1 l1_1.length c1_1):= (blk_cell BK173.out 1).trans rfl
              have hfz93_0:= blk_frozen BK173.out 0
              have hfz93_1:= blk_frozen BK173.out 1
              try go_wp2
              have n0_:= mk (blk_drew BK172.out)
              have n1_:= mk (blk_drew BK173.out)
              have n2_:= mk (below_drew1 HB.out)
              clear BK172
              clear BK173
              clear HB
              have BK172:= n0_
              have BK173:= n1_
              have HB:= n2_
              clear n0_ n1_ n2_
              have p180 : 0 ≤ (x7_3 : Int):= of_decide_eq_true (by first|(with_reducible assumption)|assumption)
              have q180 : x7_3 < (l1_1.length : Int):= of_decide_eq_true (by first|(with_reducible assumption)|assumption)
              obtain ⟨ad180,e180,hx180_0⟩:= Kd.at_int HR1_1.out x7_3 p180 q180
              have hw180_0:= hx180_0
              cases e180
              replace hx180_0:= (HB.out.cell (World.block_lt_of_cell? w _ hx180_0)).trans hx180_0
              replace p180:= eq_true p180
              replace q180:= eq_true q180
              have p183 : 0 ≤ (x7_3 : Int):= of_decide_eq_true (by first|(with_reducible assumption)|assumption)
              have q183 : x7_3 < (l1_1.length : Int):= of_decide_eq_true (by first|(with_reducible assumption)|assumption)
              obtain ⟨ad183,e183,hx183_0⟩:= Kd.at_int HR1_1.out x7_3 p183 q183
              have hw183_0:= hx183_0
              obtain rfl : ad180 = ad183:= (by injection e183)
              replace hx183_0:= (HB.out.cell (World.block_lt_of_cell? w _ hx183_0)).trans hx183_0
              replace p183:= eq_true p183
              replace q183:= eq_true q183
              refine start_ (n:= 20) (S:= fun w' => w'.cell? ⟨gb172,0,none⟩ = some (.slice A0_0 l0_0.length c0_0) ∧ w'.cell? ⟨gb172,1,none⟩ = some (.slice A0_1 l0_1.length c0_1) ∧ w'.cell? ⟨gb172,2,none⟩ = some (.slice A0_2 l0_2.length c0_2) ∧ w'.cell? ⟨gb173,0,none⟩ = some (.slice A1_0 l1_0.length c1_0) ∧ w'.cell? ⟨gb173,1,none⟩ = some (.slice (some ad180) l1_1.length c1_1) ∧ w'.cell? (ad180.add (x7_3).toNat) = some (.int .i64 (rd l1_1 x7_3)) ∧ w'.cell? (ad180.add (x7_3).toNat) = some (.int .i64 (rd l1_1 x7_3))) (ds:= []) #[F_,F_,F_,F_,F_,F_,F_,F_,F_,F_,F_,F_,F_,F_,F_,F_,F_,F_,F_,F_] (by kernel_rfl) rfl rfl ⟨(blk_cell BK172.out 0).trans rfl,(blk_cell BK172.out 1).trans rfl,(blk_cell BK172.out 2).trans rfl,(blk_cell BK173.out 0).trans rfl,(blk_cell BK173.out 1).trans rfl,((HB.out.cell (World.block_lt_of_cell? w _ hw180_0)).trans hw180_0),((HB.out.cell (World.block_lt_of_cell? w _ hw183_0)).trans hw183_0)⟩ (fun hHeld => ?_);refine with_tabW spec_IsPending.tab12 spec_IsPending.bits12 (fun HT_ HW_ => ?_)
              generalize wr.drew = w94 at BK172 BK173 HB hx180_0 hx183_0 hHeld ⊢
              refine pure_ (i:= 1) (N:= some 71) (v:= ?_) (a':= ?_) #[F_,T_,F_,F_,F_,F_,F_,F_,F_,F_,F_,F_,F_,F_,F_,F_,F_,F_,F_,F_] rfl rfl (any_of HT_.out (by kernel_rfl)) (fun _ _ _ h => h) (Or.inl ⟨by rfl,?_⟩) ?_ ?_
              rotate_left
              ·intro w'
               go_simp
               with_reducible rfl
              rotate_left
              ·simp only [Act.put,List.setIfInBounds_toArray,List.set_cons_zero,List.set_cons_succ,i64_w,i32_w]
               rfl
              refine pure_ (i:= 3) (N:= some 73) (v:= ?_) (a':= ?_) #[F_,T_,F_,T_,F_,F_,F_,F_,F_,F_,F_,F_,F_,F_,F_,F_,F_,F_,F_,F_] rfl rfl (any_of HT_.out (by kernel_rfl)) (fun _ _ _ h => h) (Or.inl ⟨by rfl,?_⟩) ?_ ?_
              rotate_left
              ·intro w'
               go_simp
               with_reducible rfl
              rotate_left
              ·simp only [Act.put,List.setIfInBounds_toArray,List.set_cons_zero,List.set_cons_succ,i64_w,i32_w]
               rfl
              refine take_ (i:= 0) (N:= some 70) (v:= ?_) (a':= ?_) #[T_,T_,F_,T_,F_,F_,F_,F_,F_,F_,F_,F_,F_,F_,F_,F_,F_,F_,F_,F_] rfl rfl (take_ofW HT_.out HW_.out (by kernel_rfl)) (fun _ _ _ h => h) (Or.inl ⟨by rfl,?_⟩) hHeld ?_ ?_
              rotate_left
              ·rintro w' ⟨s0,s1,s2,s3,s4,s5,s6⟩
               go_simp
               with_reducible rfl
              rotate_left
              ·simp only [Act.put,List.setIfInBounds_toArray,List.set_cons_zero,List.set_cons_succ,i64_w,i32_w]
               rfl
              refine take_ (i:= 2) (N:= some 72) (v:= ?_) (a':= ?_) #[T_,T_,T_,T_,F_,F_,F_,F_,F_,F_,F_,F_,F_,F_,F_,F_,F_,F_,F_,F_] rfl rfl (take_ofW HT_.out HW_.out (by kernel_rfl)) (fun _ _ _ h => h) (Or.inl ⟨by rfl,?_⟩) hHeld ?_ ?_
              rotate_left
              ·rintro w' ⟨s0,s1,s2,s3,s4,s5,s6⟩
               go_simp
               with_reducible rfl
              rotate_left
              ·simp only [Act.put,List.setIfInBounds_toArray,List.set_cons_zero,List.set_cons_succ,i64_w,i32_w]
               rfl
              refine pure_ (i:= 4) (N:= some 74) (v:= ?_) (a':= ?_) #[T_,T_,T_,T_,T_,F_,F_,F_,F_,F_,F_,F_,F_,F_,F_,F_,F_,F_,F_,F_] rfl rfl (any_of HT_.out (by kernel_rfl)) (fun _ _ _ h => h) (Or.inl ⟨by rfl,?_⟩) ?_ ?_
              rotate_left
              ·intro w'
               go_simp
               with_reducible rfl
              rotate_left
              ·simp only [Act.put,List.setIfInBounds_toArray,List.set_cons_zero,List.set_cons_succ,i64_w,i32_w]
               rfl
              refine take_ (i:= 5) (N:= some 75) (v:= ?_) (a':= ?_) #[T_,T_,T_,T_,T_,T_,F_,F_,F_,F_,F_,F_,F_,F_,F_,F_,F_,F_,F_,F_] rfl rfl (take_ofW HT_.out HW_.out (by kernel_rfl)) (fun _ _ _ h => h) (Or.inl ⟨by rfl,?_⟩) hHeld ?_ ?_
              rotate_left
              ·rintro w' ⟨s0,s1,s2,s3,s4,s5,s6⟩
               go_simp
               with_reducible rfl
              rotate_left
              ·simp only [Act.put,List.setIfInBounds_toArray,List.set_cons_zero,List.set_cons_succ,i64_w,i32_w]
               rfl
              refine one_ (i:= 6) (N:= some 76) #[T_,T_,T_,T_,T_,T_,T_,F_,F_,F_,F_,F_,F_,F_,F_,F_,F_,F_,F_,F_] rfl rfl (one_of HT_.out (by kernel_rfl)) (by decide) (fun K hK => ?_)
              refine goes_ Try.func72 (by kernel_rfl) rfl #[.agg #[.slice A0_0 l0_0.length c0_0,.slice A0_1 l0_1.length c0_1,.slice A0_2 l0_2.length c0_2],.int .i64 (rd l1_1 x7_3)] (by rfl) rfl rfl (by (try simp only [List.map_toArray,List.map_cons,List.map_nil]);first|done|rfl|(simp only [List.length_drop,List.length_take];rfl)) ?_
              with_reducible refine (spec_FindRow.calls k3 _ _ l0_0 _ _ l0_1 _ _ l0_2 (rd l1_1 x7_3) t181 _ ?side1 ?side2 ?side3 ?side4 ?side5 ?side6 A82.out).mono ?_
              (case side1 => exact uc (Kd.C_below HR0_0.out HB.out))
              (case side2 => exact HC0_0.out)
              (case side3 => exact uc (Kd.C_below HR0_1.out HB.out))
              (case side4 => exact HC0_1.out)
              (case side5 => exact uc (Kd.C_below HR0_2.out HB.out))
              (case side6 => exact HC0_2.out)
              rintro e w95 ⟨rfl,hb⟩
              refine ⟨_,rfl,?_⟩
              have n0_:= mk (blk_below (g:= gb172) (o:= .cells #[.slice A0_0 l0_0.length c0_0,.slice A0_1 l0_1.length c0_1,.slice A0_2 l0_2.length c0_2] 30 (0,0)) (ub BK172.out) hb)
              have n1_:= mk (blk_below (g:= gb173) (o:= .cells #[.slice A1_0 l1_0.length c1_0,.slice (some ad180) l1_1.length c1_1] 61 (0,0)) (ub BK173.out) hb)
              have n2_:= mk (below_step (by repeat (first|(with_reducible first|exact HB.out|apply below_alloc|apply pw_below_drewN|apply below_drew1|refine below_set ?_ GE172.out|refine below_set ?_ GE173.out)|exact HB.out)) hb)
              clear BK172
              clear BK173
              clear HB
              have BK172:= n0_
              have BK173:= n1_
              have HB:= n2_
              clear n0_ n1_ n2_
              (try clear hb)
              (try clear hb2)
              (try clear hk)
              (try clear hi)
              obtain ⟨i096,hi096,_,hsz96,_⟩:= info_parts info3
              obtain ⟨hcut96,hA96,hC96⟩:= print_take_of (P:= Try.prog) (Value.int .i64) 0 22 3 .i64 Try.underlying22 hi096 hsz96 (some ad180) c1_1 l1_1 x7_3 (of_decide_eq_true (by first|(with_reducible assumption)|assumption)) (of_decide_eq_true (by first|(with_reducible assumption)|assumption)) HC1_1.out
              have HR182:= mk (Kd.C_of_reads (h1:= fun _ => rfl) (hA96 _ (Kd.reads_of_C HR1_1.out)))
              have HC182:= mk hC96
              clear hA96 hC96 hi096 hsz96
              refine hK.out _ _ ⟨(blk_cell BK172.out 0).trans rfl,(blk_cell BK172.out 1).trans rfl,(blk_cell BK172.out 2).trans rfl,(blk_cell BK173.out 0).trans rfl,(blk_cell BK173.out 1).trans rfl,((HB.out.cell (World.block_lt_of_cell? w _ hw180_0)).trans hw180_0),((HB.out.cell (World.block_lt_of_cell? w _ hw183_0)).trans hw183_0)⟩ (fun hHeld => ?_)
              clear hK K
              refine norm_ (a':= ?_) ?_ ?_
              rotate_left
              ·show Act.put _ (some 76) _ = _
               simp only [Act.put,List.setIfInBounds_toArray,List.set_cons_zero,List.set_cons_succ,i64_w,i32_w]
               rfl
              refine pure_ (i:= 7) (N:= some 77) (v:= ?_) (a':= ?_) #[T_,T_,T_,T_,T_,T_,T_,T_,F_,F_,F_,F_,F_,F_,F_,F_,F_,F_,F_,F_] rfl rfl (any_of HT_.out (by kernel_rfl)) (fun _ _ _ h => h) (Or.inl ⟨by rfl,?_⟩) ?_ ?_
              rotate_left
              ·intro w'
               go_simp
               with_reducible rfl
              rotate_left
              ·simp only [Act.put,List.setIfInBounds_toArray,List.set_cons_zero,List.set_cons_succ,i64_w,i32_w]
               rfl
              refine pure_ (i:= 8) (N:= some 78) (v:= ?_) (a':= ?_) #[T_,T_,T_,T_,T_,T_,T_,T_,T_,F_,F_,F_,F_,F_,F_,F_,F_,F_,F_,F_] rfl rfl (any_of HT_.out (by kernel_rfl)) (fun _ _ _ h => h) (Or.inl ⟨by rfl,?_⟩) ?_ ?_
              rotate_left
              ·intro w'
               go_simp
               with_reducible rfl
              rotate_left
              ·simp only [Act.put,List.setIfInBounds_toArray,List.set_cons_zero,List.set_cons_succ,i64_w,i32_w]
               rfl
              refine pure_ (i:= 9) (N:= some 79) (v:= ?_) (a':= ?_) #[T_,T_,T_,T_,T_,T_,T_,T_,T_,T_,F_,F_,F_,F_,F_,F_,F_,F_,F_,F_] rfl rfl (any_of HT_.out (by kernel_rfl)) (fun _ _ _ h => h) (Or.inl ⟨by rfl,?_⟩) ?_ ?_
              rotate_left
              ·intro w'
               go_simp
               with_reducible rfl
              rotate_left
              ·simp only [Act.put,List.setIfInBounds_toArray,List.set_cons_zero,List.set_cons_succ,i64_w,i32_w]
               rfl
              refine pure_ (i:= 11) (N:= some 81) (v:= ?_) (a':= ?_) #[T_,T_,T_,T_,T_,T_,T_,T_,T_,T_,F_,T_,F_,F_,F_,F_,F_,F_,F_,F_] rfl rfl (any_of HT_.out (by kernel_rfl)) (fun _ _ _ h => h) (Or.inl ⟨by rfl,?_⟩) ?_ ?_
              rotate_left
              ·intro w'
               go_simp
               with_reducible rfl
              rotate_left
              ·simp only [Act.put,List.setIfInBounds_toArray,List.set_cons_zero,List.set_cons_succ,i64_w,i32_w]
               rfl
              refine pure_ (i:= 13) (N:= some 83) (v:= ?_) (a':= ?_) #[T_,T_,T_,T_,T_,T_,T_,T_,T_,T_,F_,T_,F_,T_,F_,F_,F_,F_,F_,F_] rfl rfl (any_of HT_.out (by kernel_rfl)) (fun _ _ _ h => h) (Or.inl ⟨by rfl,?_⟩) ?_ ?_
              rotate_left
              ·intro w'
               go_simp
               with_reducible rfl
              rotate_left
              ·simp only [Act.put,List.setIfInBounds_toArray,List.set_cons_zero,List.set_cons_succ,i64_w,i32_w]
               rfl
              refine pure_ (i:= 15) (N:= some 85) (v:= ?_) (a':= ?_) #[T_,T_,T_,T_,T_,T_,T_,T_,T_,T_,F_,T_,F_,T_,F_,T_,F_,F_,F_,F_] rfl rfl (any_of HT_.out (by kernel_rfl)) (fun _ _ _ h => h) (Or.inl ⟨by rfl,?_⟩) ?_ ?_
              rotate_left
              ·intro w'
               go_simp
               with_reducible rfl
              rotate_left
              ·simp only [Act.put,List.setIfInBounds_toArray,List.set_cons_zero,List.set_cons_succ,i64_w,i32_w]
               rfl
              refine take_ (i:= 10) (N:= some 80) (v:= ?_) (a':= ?_) #[T_,T_,T_,T_,T_,T_,T_,T_,T_,T_,T_,T_,F_,T_,F_,T_,F_,F_,F_,F_] rfl rfl (take_ofW HT_.out HW_.out (by kernel_rfl)) (fun _ _ _ h => h) (Or.inl ⟨by rfl,?_⟩) hHeld ?_ ?_
              rotate_left
              ·rintro w' ⟨s0,s1,s2,s3,s4,s5,s6⟩
               go_simp
               with_reducible rfl
              rotate_left
              ·simp only [Act.put,List.setIfInBounds_toArray,List.set_cons_zero,List.set_cons_succ,i64_w,i32_w]
               rfl
              refine pure_ (i:= 12) (N:= some 82) (v:= ?_) (a':= ?_) #[T_,T_,T_,T_,T_,T_,T_,T_,T_,T_,T_,T_,T_,T_,F_,T_,F_,F_,F_,F_] rfl rfl (any_of HT_.out (by kernel_rfl)) (fun _ _ _ h => h) (Or.inl ⟨by rfl,?_⟩) ?_ ?_
              rotate_left
              ·intro w'
               go_simp
               with_reducible rfl
              rotate_left
              ·simp only [Act.put,List.setIfInBounds_toArray,List.set_cons_zero,List.set_cons_succ,i64_w,i32_w]
               rfl
              refine take_ (i:= 14) (N:= some 84) (v:= ?_) (a':= ?_) #[T_,T_,T_,T_,T_,T_,T_,T_,T_,T_,T_,T_,T_,T_,T_,T_,F_,F_,F_,F_] rfl rfl (take_ofW HT_.out HW_.out (by kernel_rfl)) (fun _ _ _ h => h) (Or.inl ⟨by rfl,?_⟩) hHeld ?_ ?_
              rotate_left
              ·rintro w' ⟨s0,s1,s2,s3,s4,s5,s6⟩
               go_simp
               with_reducible rfl
              rotate_left
              ·simp only [Act.put,List.setIfInBounds_toArray,List.set_cons_zero,List.set_cons_succ,i64_w,i32_w]
               rfl
              refine pure_ (i:= 16) (N:= some 86) (v:= ?_) (a':= ?_) #[T_,T_,T_,T_,T_,T_,T_,T_,T_,T_,T_,T_,T_,T_,T_,T_,T_,F_,F_,F_] rfl rfl (any_of HT_.out (by kernel_rfl)) (fun _ _ _ h => h) (Or.inl ⟨by rfl,?_⟩) ?_ ?_
              rotate_left
              ·intro w'
               go_simp
               with_reducible rfl
              rotate_left
              ·simp only [Act.put,List.setIfInBounds_toArray,List.set_cons_zero,List.set_cons_succ,i64_w,i32_w]
               rfl
              refine take_ (i:= 17) (N:= some 87) (v:= ?_) (a':= ?_) #[T_,T_,T_,T_,T_,T_,T_,T_,T_,T_,T_,T_,T_,T_,T_,T_,T_,T_,F_,F_] rfl rfl (take_ofW HT_.out HW_.out (by kernel_rfl)) (fun _ _ _ h => h) (Or.inl ⟨by rfl,?_⟩) hHeld ?_ ?_
              rotate_left
              ·rintro w' ⟨s0,s1,s2,s3,s4,s5,s6⟩
               go_simp
               with_reducible rfl
              rotate_left
              ·simp only [Act.put,List.setIfInBounds_toArray,List.set_cons_zero,List.set_cons_succ,i64_w,i32_w]
               rfl
              refine one_ (i:= 18) (N:= some 88) #[T_,T_,T_,T_,T_,T_,T_,T_,T_,T_,T_,T_,T_,T_,T_,T_,T_,T_,T_,F_] rfl rfl (one_of HT_.out (by kernel_rfl)) (by decide) (fun K hK => ?_)
              refine goes_ Try.func50 (by kernel_rfl) rfl #[.slice (some ad180) (l1_1.take (x7_3 : Int).toNat).length c1_1,.int .i64 (rd l1_1 x7_3)] (by rfl) rfl rfl (by (try simp only [List.map_toArray,List.map_cons,List.map_nil]);first|done|(rw [show (l1_1.take (x7_3 : Int).toNat).length = x7_3.toNat from (by rw [List.length_take];have h_ : (x7_3 : Int) ≤ (l1_1.length : Int):= of_decide_eq_true (by first|(with_reducible assumption)|assumption);omega)] <;> rfl)|rfl|(simp only [List.length_drop,List.length_take];rfl)) ?_
              with_reducible refine (spec_l4Has.calls k3 _ _ (l1_1.take (x7_3 : Int).toNat) (rd l1_1 x7_3) true _ ?side1 ?side2 A90.out).mono ?_
              (case side1 => exact uc (Kd.C_below HR182.out HB.out))
              (case side2 => exact HC182.out)
              rintro e w' ⟨rfl,⟨nd,rfl⟩⟩
              refine ⟨_,rfl,?_⟩
              refine hK.out _ _ ⟨(blk_cell BK172.out 0).trans rfl,(blk_cell BK172.out 1).trans rfl,(blk_cell BK172.out 2).trans rfl,(blk_cell BK173.out 0).trans rfl,(blk_cell BK173.out 1).trans rfl,((HB.out.cell (World.block_lt_of_cell? w _ hw180_0)).trans hw180_0),((HB.out.cell (World.block_lt_of_cell? w _ hw183_0)).trans hw183_0)⟩ (fun hHeld => ?_)
              clear hK K
              refine norm_ (a':= ?_) ?_ ?_
              rotate_left
              ·show Act.put _ (some 88) _ = _
               simp only [Act.put,List.setIfInBounds_toArray,List.set_cons_zero,List.set_cons_succ,i64_w,i32_w]
               rfl
              refine pure_ (i:= 19) (N:= some 89) (v:= ?_) (a':= ?_) #[T_,T_,T_,T_,T_,T_,T_,T_,T_,T_,T_,T_,T_,T_,T_,T_,T_,T_,T_,T_] rfl rfl (any_of HT_.out (by kernel_rfl)) (fun _ _ _ h => h) (Or.inl ⟨by rfl,?_⟩) ?_ ?_
              rotate_left
              ·intro w'
               go_simp
               with_reducible rfl
              rotate_left
              ·simp only [Act.put,List.setIfInBounds_toArray,List.set_cons_zero,List.set_cons_succ,i64_w,i32_w]
               rfl
              refine done_ (done_of HT_.out (by kernel_rfl)) ?_
              try go_wp2
              go_ret
              exact ⟨by first|rfl|(simp [errW_none,errW_some] <;> rfl)|(simp [*,errW_none,errW_some] <;> rfl),by repeat (first|(with_reducible first|exact HB.out|apply below_alloc|apply pw_below_drewN|apply below_drew1|refine below_set ?_ GE172.out|refine below_set ?_ GE173.out)|exact HB.out)⟩
             ·replace c91:= Bool.eq_false_iff.mpr c91
              subst c91
              have H1 : (spec_IsPending.l1 k3 (wrap64 (x7_3 + 1)) l0_0 l0_1 l0_2 l1_0 l1_1) = some r:= by rw [if_neg (show ¬ (false = true) by decide)] at H;exact H
              clear H
              have H:= H1
              clear H1
              have H':= mk H
              clear H
              have hnb97:= NB173_172.out
              have hnc97:= NB172_173.out
              have hcz98_0 : wr.cell? ⟨gb173,0,none⟩ = some (.slice A1_0 l1_0.length c1_0):= (blk_cell BK173.out 0).trans rfl
              have hcz98_1 : wr.cell? ⟨gb173,1,none⟩ = some (.slice A1_1 l1_1.length c1_1):= (blk_cell BK173.out 1).trans rfl
              have hfz98_0:= blk_frozen BK173.out 0
              have hfz98_1:= blk_frozen BK173.out 1
              try go_wp2
              have n0_:= mk (blk_drew BK172.out)
              have n1_:= mk (blk_drew BK173.out)
              have n2_:= mk (below_drew1 HB.out)
              clear BK172
              clear BK173
              clear HB
              have BK172:= n0_
              have BK173:= n1_
              have HB:= n2_
              clear n0_ n1_ n2_
              have p180 : 0 ≤ (x7_3 : Int):= of_decide_eq_true (by first|(with_reducible assumption)|assumption)
              have q180 : x7_3 < (l1_1.length : Int):= of_decide_eq_true (by first|(with_reducible assumption)|assumption)
              obtain ⟨ad180,e180,hx180_0⟩:= Kd.at_int HR1_1.out x7_3 p180 q180
              have hw180_0:= hx180_0
              cases e180
              replace hx180_0:= (HB.out.cell (World.block_lt_of_cell? w _ hx180_0)).trans hx180_0
              replace p180:= eq_true p180
              replace q180:= eq_true q180
              have p183 : 0 ≤ (x7_3 : Int):= of_decide_eq_true (by first|(with_reducible assumption)|assumption)
              have q183 : x7_3 < (l1_1.length : Int):= of_decide_eq_true (by first|(with_reducible assumption)|assumption)
              obtain ⟨ad183,e183,hx183_0⟩:= Kd.at_int HR1_1.out x7_3 p183 q183
              have hw183_0:= hx183_0
              obtain rfl : ad180 = ad183:= (by injection e183)
              replace hx183_0:= (HB.out.cell (World.block_lt_of_cell? w _ hx183_0)).trans hx183_0
              replace p183:= eq_true p183
              replace q183:= eq_true q183
              refine start_ (n:= 20) (S:= fun w' => w'.cell? ⟨gb172,0,none⟩ = some (.slice A0_0 l0_0.length c0_0) ∧ w'.cell? ⟨gb172,1,none⟩ = some (.slice A0_1 l0_1.length c0_1) ∧ w'.cell? ⟨gb172,2,none⟩ = some (.slice A0_2 l0_2.length c0_2) ∧ w'.cell? ⟨gb173,0,none⟩ = some (.slice A1_0 l1_0.length c1_0) ∧ w'.cell? ⟨gb173,1,none⟩ = some (.slice (some ad180) l1_1.length c1_1) ∧ w'.cell? (ad180.add (x7_3).toNat) = some (.int .i64 (rd l1_1 x7_3)) ∧ w'.cell? (ad180.add (x7_3).toNat) = some (.int .i64 (rd l1_1 x7_3))) (ds:= []) #[F_,F_,F_,F_,F_,F_,F_,F_,F_,F_,F_,F_,F_,F_,F_,F_,F_,F_,F_,F_] (by kernel_rfl) rfl rfl ⟨(blk_cell BK172.out 0).trans rfl,(blk_cell BK172.out 1).trans rfl,(blk_cell BK172.out 2).trans rfl,(blk_cell BK173.out 0).trans rfl,(blk_cell BK173.out 1).trans rfl,((HB.out.cell (World.block_lt_of_cell? w _ hw180_0)).trans hw180_0),((HB.out.cell (World.block_lt_of_cell? w _ hw183_0)).trans hw183_0)⟩ (fun hHeld => ?_);refine with_tabW spec_IsPending.tab12 spec_IsPending.bits12 (fun HT_ HW_ => ?_)
              generalize wr.drew = w99 at BK172 BK173 HB hx180_0 hx183_0 hHeld ⊢
              refine pure_ (i:= 1) (N:= some 71) (v:= ?_) (a':= ?_) #[F_,T_,F_,F_,F_,F_,F_,F_,F_,F_,F_,F_,F_,F_,F_,F_,F_,F_,F_,F_] rfl rfl (any_of HT_.out (by kernel_rfl)) (fun _ _ _ h => h) (Or.inl ⟨by rfl,?_⟩) ?_ ?_
              rotate_left
              ·intro w'
               go_simp
               with_reducible rfl
              rotate_left
              ·simp only [Act.put,List.setIfInBounds_toArray,List.set_cons_zero,List.set_cons_succ,i64_w,i32_w]
               rfl
              refine pure_ (i:= 3) (N:= some 73) (v:= ?_) (a':= ?_) #[F_,T_,F_,T_,F_,F_,F_,F_,F_,F_,F_,F_,F_,F_,F_,F_,F_,F_,F_,F_] rfl rfl (any_of HT_.out (by kernel_rfl)) (fun _ _ _ h => h) (Or.inl ⟨by rfl,?_⟩) ?_ ?_
              rotate_left
              ·intro w'
               go_simp
               with_reducible rfl
              rotate_left
              ·simp only [Act.put,List.setIfInBounds_toArray,List.set_cons_zero,List.set_cons_succ,i64_w,i32_w]
               rfl
              refine take_ (i:= 0) (N:= some 70) (v:= ?_) (a':= ?_) #[T_,T_,F_,T_,F_,F_,F_,F_,F_,F_,F_,F_,F_,F_,F_,F_,F_,F_,F_,F_] rfl rfl (take_ofW HT_.out HW_.out (by kernel_rfl)) (fun _ _ _ h => h) (Or.inl ⟨by rfl,?_⟩) hHeld ?_ ?_
              rotate_left
              ·rintro w' ⟨s0,s1,s2,s3,s4,s5,s6⟩
               go_simp
               with_reducible rfl
              rotate_left
              ·simp only [Act.put,List.setIfInBounds_toArray,List.set_cons_zero,List.set_cons_succ,i64_w,i32_w]
               rfl
              refine take_ (i:= 2) (N:= some 72) (v:= ?_) (a':= ?_) #[T_,T_,T_,T_,F_,F_,F_,F_,F_,F_,F_,F_,F_,F_,F_,F_,F_,F_,F_,F_] rfl rfl (take_ofW HT_.out HW_.out (by kernel_rfl)) (fun _ _ _ h => h) (Or.inl ⟨by rfl,?_⟩) hHeld ?_ ?_
              rotate_left
              ·rintro w' ⟨s0,s1,s2,s3,s4,s5,s6⟩
               go_simp
               with_reducible rfl
              rotate_left
              ·simp only [Act.put,List.setIfInBounds_toArray,List.set_cons_zero,List.set_cons_succ,i64_w,i32_w]
               rfl
              refine pure_ (i:= 4) (N:= some 74) (v:= ?_) (a':= ?_) #[T_,T_,T_,T_,T_,F_,F_,F_,F_,F_,F_,F_,F_,F_,F_,F_,F_,F_,F_,F_] rfl rfl (any_of HT_.out (by kernel_rfl)) (fun _ _ _ h => h) (Or.inl ⟨by rfl,?_⟩) ?_ ?_
              rotate_left
              ·intro w'
               go_simp
               with_reducible rfl
              rotate_left
              ·simp only [Act.put,List.setIfInBounds_toArray,List.set_cons_zero,List.set_cons_succ,i64_w,i32_w]
               rfl
              refine take_ (i:= 5) (N:= some 75) (v:= ?_) (a':= ?_) #[T_,T_,T_,T_,T_,T_,F_,F_,F_,F_,F_,F_,F_,F_,F_,F_,F_,F_,F_,F_] rfl rfl (take_ofW HT_.out HW_.out (by kernel_rfl)) (fun _ _ _ h => h) (Or.inl ⟨by rfl,?_⟩) hHeld ?_ ?_
              rotate_left
              ·rintro w' ⟨s0,s1,s2,s3,s4,s5,s6⟩
               go_simp
               with_reducible rfl
              rotate_left
              ·simp only [Act.put,List.setIfInBounds_toArray,List.set_cons_zero,List.set_cons_succ,i64_w,i32_w]
               rfl
              refine one_ (i:= 6) (N:= some 76) #[T_,T_,T_,T_,T_,T_,T_,F_,F_,F_,F_,F_,F_,F_,F_,F_,F_,F_,F_,F_] rfl rfl (one_of HT_.out (by kernel_rfl)) (by decide) (fun K hK => ?_)
              refine goes_ Try.func72 (by kernel_rfl) rfl #[.agg #[.slice A0_0 l0_0.length c0_0,.slice A0_1 l0_1.length c0_1,.slice A0_2 l0_2.length c0_2],.int .i64 (rd l1_1 x7_3)] (by rfl) rfl rfl (by (try simp only [List.map_toArray,List.map_cons,List.map_nil]);first|done|rfl|(simp only [List.length_drop,List.length_take];rfl)) ?_
              with_reducible refine (spec_FindRow.calls k3 _ _ l0_0 _ _ l0_1 _ _ l0_2 (rd l1_1 x7_3) t181 _ ?side1 ?side2 ?side3 ?side4 ?side5 ?side6 A82.out).mono ?_
              (case side1 => exact uc (Kd.C_below HR0_0.out HB.out))
              (case side2 => exact HC0_0.out)
              (case side3 => exact uc (Kd.C_below HR0_1.out HB.out))
              (case side4 => exact HC0_1.out)
              (case side5 => exact uc (Kd.C_below HR0_2.out HB.out))
              (case side6 => exact HC0_2.out)
              rintro e w100 ⟨rfl,hb⟩
              refine ⟨_,rfl,?_⟩
              have n0_:= mk (blk_below (g:= gb172) (o:= .cells #[.slice A0_0 l0_0.length c0_0,.slice A0_1 l0_1.length c0_1,.slice A0_2 l0_2.length c0_2] 30 (0,0)) (ub BK172.out) hb)
              have n1_:= mk (blk_below (g:= gb173) (o:= .cells #[.slice A1_0 l1_0.length c1_0,.slice (some ad180) l1_1.length c1_1] 61 (0,0)) (ub BK173.out) hb)
              have n2_:= mk (below_step (by repeat (first|(with_reducible first|exact HB.out|apply below_alloc|apply pw_below_drewN|apply below_drew1|refine below_set ?_ GE172.out|refine below_set ?_ GE173.out)|exact HB.out)) hb)
              clear BK172
              clear BK173
              clear HB
              have BK172:= n0_
              have BK173:= n1_
              have HB:= n2_
              clear n0_ n1_ n2_
              (try clear hb)
              (try clear hb2)
              (try clear hk)
              (try clear hi)
              obtain ⟨i0101,hi0101,_,hsz101,_⟩:= info_parts info3
              obtain ⟨hcut101,hA101,hC101⟩:= print_take_of (P:= Try.prog) (Value.int .i64) 0 22 3 .i64 Try.underlying22 hi0101 hsz101 (some ad180) c1_1 l1_1 x7_3 (of_decide_eq_true (by first|(with_reducible assumption)|assumption)) (of_decide_eq_true (by first|(with_reducible assumption)|assumption)) HC1_1.out
              have HR182:= mk (Kd.C_of_reads (h1:= fun _ => rfl) (hA101 _ (Kd.reads_of_C HR1_1.out)))
              have HC182:= mk hC101
              clear hA101 hC101 hi0101 hsz101
              refine hK.out _ _ ⟨(blk_cell BK172.out 0).trans rfl,(blk_cell BK172.out 1).trans rfl,(blk_cell BK172.out 2).trans rfl,(blk_cell BK173.out 0).trans rfl,(blk_cell BK173.out 1).trans rfl,((HB.out.cell (World.block_lt_of_cell? w _ hw180_0)).trans hw180_0),((HB.out.cell (World.block_lt_of_cell? w _ hw183_0)).trans hw183_0)⟩ (fun hHeld => ?_)
              clear hK K
              refine norm_ (a':= ?_) ?_ ?_
              rotate_left
              ·show Act.put _ (some 76) _ = _
               simp only [Act.put,List.setIfInBounds_toArray,List.set_cons_zero,List.set_cons_succ,i64_w,i32_w]
               rfl
              refine pure_ (i:= 7) (N:= some 77) (v:= ?_) (a':= ?_) #[T_,T_,T_,T_,T_,T_,T_,T_,F_,F_,F_,F_,F_,F_,F_,F_,F_,F_,F_,F_] rfl rfl (any_of HT_.out (by kernel_rfl)) (fun _ _ _ h => h) (Or.inl ⟨by rfl,?_⟩) ?_ ?_
              rotate_left
              ·intro w'
               go_simp
               with_reducible rfl
              rotate_left
              ·simp only [Act.put,List.setIfInBounds_toArray,List.set_cons_zero,List.set_cons_succ,i64_w,i32_w]
               rfl
              refine pure_ (i:= 8) (N:= some 78) (v:= ?_) (a':= ?_) #[T_,T_,T_,T_,T_,T_,T_,T_,T_,F_,F_,F_,F_,F_,F_,F_,F_,F_,F_,F_] rfl rfl (any_of HT_.out (by kernel_rfl)) (fun _ _ _ h => h) (Or.inl ⟨by rfl,?_⟩) ?_ ?_
              rotate_left
              ·intro w'
               go_simp
               with_reducible rfl
              rotate_left
              ·simp only [Act.put,List.setIfInBounds_toArray,List.set_cons_zero,List.set_cons_succ,i64_w,i32_w]
               rfl
              refine pure_ (i:= 9) (N:= some 79) (v:= ?_) (a':= ?_) #[T_,T_,T_,T_,T_,T_,T_,T_,T_,T_,F_,F_,F_,F_,F_,F_,F_,F_,F_,F_] rfl rfl (any_of HT_.out (by kernel_rfl)) (fun _ _ _ h => h) (Or.inl ⟨by rfl,?_⟩) ?_ ?_
              rotate_left
              ·intro w'
               go_simp
               with_reducible rfl
              rotate_left
              ·simp only [Act.put,List.setIfInBounds_toArray,List.set_cons_zero,List.set_cons_succ,i64_w,i32_w]
               rfl
              refine pure_ (i:= 11) (N:= some 81) (v:= ?_) (a':= ?_) #[T_,T_,T_,T_,T_,T_,T_,T_,T_,T_,F_,T_,F_,F_,F_,F_,F_,F_,F_,F_] rfl rfl (any_of HT_.out (by kernel_rfl)) (fun _ _ _ h => h) (Or.inl ⟨by rfl,?_⟩) ?_ ?_
              rotate_left
              ·intro w'
               go_simp
               with_reducible rfl
              rotate_left
              ·simp only [Act.put,List.setIfInBounds_toArray,List.set_cons_zero,List.set_cons_succ,i64_w,i32_w]
               rfl
              refine pure_ (i:= 13) (N:= some 83) (v:= ?_) (a':= ?_) #[T_,T_,T_,T_,T_,T_,T_,T_,T_,T_,F_,T_,F_,T_,F_,F_,F_,F_,F_,F_] rfl rfl (any_of HT_.out (by kernel_rfl)) (fun _ _ _ h => h) (Or.inl ⟨by rfl,?_⟩) ?_ ?_
              rotate_left
              ·intro w'
               go_simp
               with_reducible rfl
              rotate_left
              ·simp only [Act.put,List.setIfInBounds_toArray,List.set_cons_zero,List.set_cons_succ,i64_w,i32_w]
               rfl
              refine pure_ (i:= 15) (N:= some 85) (v:= ?_) (a':= ?_) #[T_,T_,T_,T_,T_,T_,T_,T_,T_,T_,F_,T_,F_,T_,F_,T_,F_,F_,F_,F_] rfl rfl (any_of HT_.out (by kernel_rfl)) (fun _ _ _ h => h) (Or.inl ⟨by rfl,?_⟩) ?_ ?_
              rotate_left
              ·intro w'
               go_simp
               with_reducible rfl
              rotate_left
              ·simp only [Act.put,List.setIfInBounds_toArray,List.set_cons_zero,List.set_cons_succ,i64_w,i32_w]
               rfl
              refine take_ (i:= 10) (N:= some 80) (v:= ?_) (a':= ?_) #[T_,T_,T_,T_,T_,T_,T_,T_,T_,T_,T_,T_,F_,T_,F_,T_,F_,F_,F_,F_] rfl rfl (take_ofW HT_.out HW_.out (by kernel_rfl)) (fun _ _ _ h => h) (Or.inl ⟨by rfl,?_⟩) hHeld ?_ ?_
              rotate_left
              ·rintro w' ⟨s0,s1,s2,s3,s4,s5,s6⟩
               go_simp
               with_reducible rfl
              rotate_left
              ·simp only [Act.put,List.setIfInBounds_toArray,List.set_cons_zero,List.set_cons_succ,i64_w,i32_w]
               rfl
              refine pure_ (i:= 12) (N:= some 82) (v:= ?_) (a':= ?_) #[T_,T_,T_,T_,T_,T_,T_,T_,T_,T_,T_,T_,T_,T_,F_,T_,F_,F_,F_,F_] rfl rfl (any_of HT_.out (by kernel_rfl)) (fun _ _ _ h => h) (Or.inl ⟨by rfl,?_⟩) ?_ ?_
              rotate_left
              ·intro w'
               go_simp
               with_reducible rfl
              rotate_left
              ·simp only [Act.put,List.setIfInBounds_toArray,List.set_cons_zero,List.set_cons_succ,i64_w,i32_w]
               rfl
              refine take_ (i:= 14) (N:= some 84) (v:= ?_) (a':= ?_) #[T_,T_,T_,T_,T_,T_,T_,T_,T_,T_,T_,T_,T_,T_,T_,T_,F_,F_,F_,F_] rfl rfl (take_ofW HT_.out HW_.out (by kernel_rfl)) (fun _ _ _ h => h) (Or.inl ⟨by rfl,?_⟩) hHeld ?_ ?_
              rotate_left
              ·rintro w' ⟨s0,s1,s2,s3,s4,s5,s6⟩
               go_simp
               with_reducible rfl
              rotate_left
              ·simp only [Act.put,List.setIfInBounds_toArray,List.set_cons_zero,List.set_cons_succ,i64_w,i32_w]
               rfl
              refine pure_ (i:= 16) (N:= some 86) (v:= ?_) (a':= ?_) #[T_,T_,T_,T_,T_,T_,T_,T_,T_,T_,T_,T_,T_,T_,T_,T_,T_,F_,F_,F_] rfl rfl (any_of HT_.out (by kernel_rfl)) (fun _ _ _ h => h) (Or.inl ⟨by rfl,?_⟩) ?_ ?_
              rotate_left
              ·intro w'
               go_simp
               with_reducible rfl
              rotate_left
              ·simp only [Act.put,List.setIfInBounds_toArray,List.set_cons_zero,List.set_cons_succ,i64_w,i32_w]
               rfl
              refine take_ (i:= 17) (N:= some 87) (v:= ?_) (a':= ?_) #[T_,T_,T_,T_,T_,T_,T_,T_,T_,T_,T_,T_,T_,T_,T_,T_,T_,T_,F_,F_] rfl rfl (take_ofW HT_.out HW_.out (by kernel_rfl)) (fun _ _ _ h => h) (Or.inl ⟨by rfl,?_⟩) hHeld ?_ ?_
              rotate_left
              ·rintro w' ⟨s0,s1,s2,s3,s4,s5,s6⟩
               go_simp
               with_reducible rfl
              rotate_left
              ·simp only [Act.put,List.setIfInBounds_toArray,List.set_cons_zero,List.set_cons_succ,i64_w,i32_w]
               rfl
              refine one_ (i:= 18) (N:= some 88) #[T_,T_,T_,T_,T_,T_,T_,T_,T_,T_,T_,T_,T_,T_,T_,T_,T_,T_,T_,F_] rfl rfl (one_of HT_.out (by kernel_rfl)) (by decide) (fun K hK => ?_)
              refine goes_ Try.func50 (by kernel_rfl) rfl #[.slice (some ad180) (l1_1.take (x7_3 : Int).toNat).length c1_1,.int .i64 (rd l1_1 x7_3)] (by rfl) rfl rfl (by (try simp only [List.map_toArray,List.map_cons,List.map_nil]);first|done|(rw [show (l1_1.take (x7_3 : Int).toNat).length = x7_3.toNat from (by rw [List.length_take];have h_ : (x7_3 : Int) ≤ (l1_1.length : Int):= of_decide_eq_true (by first|(with_reducible assumption)|assumption);omega)] <;> rfl)|rfl|(simp only [List.length_drop,List.length_take];rfl)) ?_
              with_reducible refine (spec_l4Has.calls k3 _ _ (l1_1.take (x7_3 : Int).toNat) (rd l1_1 x7_3) false _ ?side1 ?side2 A90.out).mono ?_
              (case side1 => exact uc (Kd.C_below HR182.out HB.out))
              (case side2 => exact HC182.out)
              rintro e w' ⟨rfl,⟨nd,rfl⟩⟩
              refine ⟨_,rfl,?_⟩
              refine hK.out _ _ ⟨(blk_cell BK172.out 0).trans rfl,(blk_cell BK172.out 1).trans rfl,(blk_cell BK172.out 2).trans rfl,(blk_cell BK173.out 0).trans rfl,(blk_cell BK173.out 1).trans rfl,((HB.out.cell (World.block_lt_of_cell? w _ hw180_0)).trans hw180_0),((HB.out.cell (World.block_lt_of_cell? w _ hw183_0)).trans hw183_0)⟩ (fun hHeld => ?_)
              clear hK K
              refine norm_ (a':= ?_) ?_ ?_
              rotate_left
              ·show Act.put _ (some 88) _ = _
               simp only [Act.put,List.setIfInBounds_toArray,List.set_cons_zero,List.set_cons_succ,i64_w,i32_w]
               rfl
              refine pure_ (i:= 19) (N:= some 89) (v:= ?_) (a':= ?_) #[T_,T_,T_,T_,T_,T_,T_,T_,T_,T_,T_,T_,T_,T_,T_,T_,T_,T_,T_,T_] rfl rfl (any_of HT_.out (by kernel_rfl)) (fun _ _ _ h => h) (Or.inl ⟨by rfl,?_⟩) ?_ ?_
              rotate_left
              ·intro w'
               go_simp
               with_reducible rfl
              rotate_left
              ·simp only [Act.put,List.setIfInBounds_toArray,List.set_cons_zero,List.set_cons_succ,i64_w,i32_w]
               rfl
              refine done_ (done_of HT_.out (by kernel_rfl)) ?_
              try go_wp2
              go_roundg k3
              case measure => have:= HJ2.out;have:= HK2.out;have:= HK3.out;omega
              case rel => exact ⟨(wrap64 (x7_3 + 1)),(by first|rfl|(simp;done)|(simp [*];done)),H',⟨by have:= HJ2.out;have:= HK2.out;have:= HK3.out;omega⟩,⟨ub BK172.out⟩,⟨ub BK173.out⟩,⟨by repeat (first|(with_reducible first|exact HB.out|apply below_alloc|apply pw_below_drewN|apply below_drew1|refine below_set ?_ GE172.out|refine below_set ?_ GE173.out)|exact HB.out)⟩⟩
            ·rw [if_neg c89] at H
             exact absurd H (by simp)
          ·rw [if_neg c81] at H
           exact absurd H (by simp)
         ·rw [if_neg c80] at H
          have c80b0 : decide (x7_3 < (l1_1.length : Int)) = false:= decide_eq_false c80
          clear c80
          obtain rfl:= Option.some.inj H
          have hnb102:= NB173_172.out
          have hnc102:= NB172_173.out
          have hcz103_0 : wr.cell? ⟨gb173,0,none⟩ = some (.slice A1_0 l1_0.length c1_0):= (blk_cell BK173.out 0).trans rfl
          have hcz103_1 : wr.cell? ⟨gb173,1,none⟩ = some (.slice A1_1 l1_1.length c1_1):= (blk_cell BK173.out 1).trans rfl
          have hfz103_0:= blk_frozen BK173.out 0
          have hfz103_1:= blk_frozen BK173.out 1
          go_wp2
          go_ret
          exact ⟨by first|rfl|(simp [errW_none,errW_some] <;> rfl)|(simp [*,errW_none,errW_some] <;> rfl),by repeat (first|(with_reducible first|exact HB.out|apply below_alloc|apply pw_below_drewN|apply below_drew1|refine below_set ?_ GE172.out|refine below_set ?_ GE173.out)|exact HB.out)⟩

end Go.Proofs.Ytbolealjmfbhjaa.PFnExactIsPending
