-- printed by a program of this session, a turned copy of the print of the kit
import Derived.Test.YtlikcmonejefoabSq
import Derived.Test.YtlikcmonejefoabPFnExactRippleDeletex0
import Derived.Test.YtlikcmonejefoabPFnExactRippleDeletex7
import Derived.Test.YtlikcmonejefoabPFnExactRippleDeletex8
namespace Go.Proofs.Ytlikcmonejefoab.PFnExactRippleDelete
open Go.RowKit Go.Proofs.YtlikcmonejefoabW.PrintWords Go.Proofs.YtlikcmonejefoabW.PrintLast Go.Proofs.YtlikcmonejefoabW.PrintMore Go.Proofs.Ytlikcmonejefoab.Sq
attribute [local go_sem] max2_int min2_int max_two min_two max_three min_three max_four min_four Giv.cell_twice   -- for this text's walks alone
set_option linter.unusedVariables false
set_option linter.unusedSimpArgs false

/-! ### impl_RippleDelete: function 9 -/
mutual
def impl_RippleDelete.j0 : Nat → Int → Bool → List Int → List Int → List (S50) → List Int → List Int → List (S50) → Option (List Int × List Int × (List (S50)) × Int × Bool)
 | 0, _, _, _, _, _, _, _, _ => none
 | k + 1, x8, x25, b8, ab0, za9, j1, g3, q1 => if x25 = true then (some (j1, g3, q1, 0, false)) else (if 0 ≤ x8 then (if x8 < (b8.length : Int) then (impl_RippleDelete.l0 k x8 (rd b8 x8) 0 (q1.length : Int) 0 j1 g3 q1) else (none)) else (none))
def impl_RippleDelete.l0 : Nat → Int → Int → Int → Int → Int → List Int → List Int → List (S50) → Option (List Int × List Int × (List (S50)) × Int × Bool)
 | 0, _, _, _, _, _, _, _, _ => none
 | k + 1, x8, x9, x10, x34, x35, j1, g3, q1 => if x35 < x34 then (if 0 ≤ x35 then (if x35 < (q1.length : Int) then (if ((rd_T50 q1 x35).f0) ≤ x9 then (impl_RippleDelete.l0 k x8 x9 x10 x34 (wrap64 (x35 + 1)) j1 g3 q1) else (if 0 ≤ (wrap64 (((rd_T50 q1 x35).f1) - 1)) then (if (wrap64 (((rd_T50 q1 x35).f1) - 1)) < (j1.length : Int) then (if 0 ≤ x8 then (if x8 < (j1.length : Int) then (if (wrap64 (((rd_T50 q1 x35).f1) - 1)) < (g3.length : Int) then (if x8 < (g3.length : Int) then ((impl_Cracker_put.f x8 (wrap64 (((rd_T50 q1 x35).f1) - 1))).bind fun z7 => (impl_RippleDelete.l0 k (wrap64 (((rd_T50 q1 x35).f1) - 1)) x9 (wrap64 (x10 + z7)) x34 (wrap64 (x35 + 1)) (j1.set (x8 : Int).toNat (rd j1 (wrap64 (((rd_T50 q1 x35).f1) - 1)))) (g3.set (x8 : Int).toNat (rd g3 (wrap64 (((rd_T50 q1 x35).f1) - 1)))) (q1.set (x35 : Int).toNat (⟨(rd_T50 q1 x35).f0, wrap64 (((rd_T50 q1 x35).f1) - 1)⟩ : S50)))) else (none)) else (none)) else (none)) else (none)) else (none)) else (none))) else (none)) else (none)) else (if 0 ≤ (wrap64 ((j1.length : Int) - 1)) then (if (wrap64 ((j1.length : Int) - 1)) < (j1.length : Int) then (if 0 ≤ x8 then (if x8 < (j1.length : Int) then (if (wrap64 ((j1.length : Int) - 1)) < (g3.length : Int) then (if x8 < (g3.length : Int) then ((impl_Cracker_put.f x8 (wrap64 ((j1.length : Int) - 1))).bind fun v7 => (if (wrap64 ((j1.length : Int) - 1)) ≤ (j1.length : Int) then (if (wrap64 ((j1.length : Int) - 1)) ≤ (g3.length : Int) then (some (((j1.set (x8 : Int).toNat (rd j1 (wrap64 ((j1.length : Int) - 1)))).take ((wrap64 ((j1.length : Int) - 1)) : Int).toNat), ((g3.set (x8 : Int).toNat (rd g3 (wrap64 ((j1.length : Int) - 1)))).take ((wrap64 ((j1.length : Int) - 1)) : Int).toNat), q1, wrap64 (x10 + v7), true)) else (none)) else (none))) else (none)) else (none)) else (none)) else (none)) else (none)) else (none))
end
def impl_RippleDelete.f (k : Nat) (z1 : List Int) (v2 : List Int) (s2 : List (S50)) (a1 : Int) : Option (List Int × List Int × (List (S50)) × Int × Bool) := (impl_copyCracker.f z1 v2 s2).bind fun s5 => ((impl_FindRow.f k z1 v2 s2 a1).bind fun v3 => ((impl_IsCracker.f k z1 v2 s2).bind fun da1 => (if da1 = true then (impl_RippleDelete.j0 k v3 (decide (v3 < 0)) z1 v2 s2 s5.1 s5.2.1 s5.2.2) else (impl_RippleDelete.j0 k v3 true z1 v2 s2 s5.1 s5.2.1 s5.2.2))))
theorem impl_RippleDelete.mono_l : ∀ k, (∀ y0 y1 y2 y3 y4 y5 y6 y7, LeO (impl_RippleDelete.j0 k y0 y1 y2 y3 y4 y5 y6 y7) (impl_RippleDelete.j0 (k + 1) y0 y1 y2 y3 y4 y5 y6 y7)) ∧ (∀ y0 y1 y2 y3 y4 y5 y6 y7, LeO (impl_RippleDelete.l0 k y0 y1 y2 y3 y4 y5 y6 y7) (impl_RippleDelete.l0 (k + 1) y0 y1 y2 y3 y4 y5 y6 y7))
 | 0 => ⟨fun _ _ _ _ _ _ _ _ r h => by simp [impl_RippleDelete.j0] at h, fun _ _ _ _ _ _ _ _ r h => by simp [impl_RippleDelete.l0] at h⟩
 | k + 1 => by
  obtain ⟨ih0, ih1⟩ := impl_RippleDelete.mono_l k
  refine ⟨?_, ?_⟩
  ·intro y0 y1 y2 y3 y4 y5 y6 y7
   unfold impl_RippleDelete.j0
   repeat' first
   | (with_reducible exact ih0 _ _ _ _ _ _ _ _)
   | (with_reducible exact ih1 _ _ _ _ _ _ _ _)
   | (with_reducible exact impl_FindRow.mono _ _ _ _ _)
   | (with_reducible exact impl_IsCracker.mono _ _ _ _)
   | (with_reducible exact LeO.refl _)
   | (with_reducible exact LeO.none _)
   | (with_reducible refine LeO.ite ?_ ?_)
   | (with_reducible refine LeO.bind ?_ (fun _ => ?_))
   | exact ih0 _ _ _ _ _ _ _ _
   | exact ih1 _ _ _ _ _ _ _ _
   | exact impl_FindRow.mono _ _ _ _ _
   | exact impl_IsCracker.mono _ _ _ _
   | exact LeO.none _
   | refine LeO.ite ?_ ?_
   | refine LeO.bind ?_ (fun _ => ?_)
  ·intro y0 y1 y2 y3 y4 y5 y6 y7
   unfold impl_RippleDelete.l0
   repeat' first
   | (with_reducible exact ih0 _ _ _ _ _ _ _ _)
   | (with_reducible exact ih1 _ _ _ _ _ _ _ _)
   | (with_reducible exact impl_FindRow.mono _ _ _ _ _)
   | (with_reducible exact impl_IsCracker.mono _ _ _ _)
   | (with_reducible exact LeO.refl _)
   | (with_reducible exact LeO.none _)
   | (with_reducible refine LeO.ite ?_ ?_)
   | (with_reducible refine LeO.bind ?_ (fun _ => ?_))
   | exact ih0 _ _ _ _ _ _ _ _
   | exact ih1 _ _ _ _ _ _ _ _
   | exact impl_FindRow.mono _ _ _ _ _
   | exact impl_IsCracker.mono _ _ _ _
   | exact LeO.none _
   | refine LeO.ite ?_ ?_
   | refine LeO.bind ?_ (fun _ => ?_)
theorem impl_RippleDelete.mono : ∀ a0 a1 a2 a3 k, LeO (impl_RippleDelete.f k a0 a1 a2 a3) (impl_RippleDelete.f (k + 1) a0 a1 a2 a3) := by
 intro a0 a1 a2 a3 k
 obtain ⟨ih0,ih1⟩:= impl_RippleDelete.mono_l k
 unfold impl_RippleDelete.f
 repeat' first
  |(with_reducible exact ih0 _ _ _ _ _ _ _ _)
  |(with_reducible exact ih1 _ _ _ _ _ _ _ _)
  |(with_reducible exact impl_FindRow.mono _ _ _ _ _)
  |(with_reducible exact impl_IsCracker.mono _ _ _ _)
  |(with_reducible exact LeO.refl _)
  |(with_reducible exact LeO.none _)
  |(with_reducible refine LeO.ite ?_ ?_)
  |(with_reducible refine LeO.bind ?_ (fun _ => ?_))
  |exact ih0 _ _ _ _ _ _ _ _
  |exact ih1 _ _ _ _ _ _ _ _
  |exact impl_FindRow.mono _ _ _ _ _
  |exact impl_IsCracker.mono _ _ _ _
  |exact LeO.none _
  |refine LeO.ite ?_ ?_
  |refine LeO.bind ?_ (fun _ => ?_)
set_option maxHeartbeats 8000000 in
set_option maxRecDepth 100000 in
theorem impl_RippleDelete.calls (k : Nat) (k6 : Option Addr) (b5 : Nat) (z1 : List Int) (g5 : Option Addr) (a5 : Nat) (v2 : List Int) (d5 : Option Addr) (z4 : Nat) (s2 : List (S50)) (a1 : Int) (r1 : List Int) (r2 : List Int) (r3 : List (S50)) (r4 : Int) (r5 : Bool) (w : World) (za6 : Kd.C (Kd.int .i64) w k6 z1.length z1) (hc0_0 : z1.length ≤ b5) (ya6 : Kd.C (Kd.int .i64) w g5 v2.length v2) (hc0_1 : v2.length ≤ a5) (va6 : Kd.C k50 w d5 s2.length s2) (hc0_2 : s2.length ≤ z4) (h : impl_RippleDelete.f k z1 v2 s2 a1 = some (r1, r2, r3, r4, r5)) :
  Calls Try.prog 9 #[.agg #[.slice k6 z1.length b5, .slice g5 v2.length a5, .slice d5 s2.length z4], .int .i64 a1] w fun e w' => ∃ v0_ v1_ v2_ : Value, e = .returned (.tuple #[.agg #[v0_, v1_, v2_], .int .i64 r4, .bool r5]) ∧ Kd.R (Kd.int .i64) 3 w' w.heap.size (fun k_ => some k_ ≠ (v1_ : Value).ownBlock) v0_ r1 ∧ Kd.R (Kd.int .i64) 3 w' w.heap.size (fun k_ => some k_ ≠ (v0_ : Value).ownBlock) v1_ r2 ∧ Kd.R k50 50 w' w.heap.size (fun _ => True) v2_ r3 ∧ Below w.heap.size w w' := by
 have hu29:= Try.underlying29
 have hu50:= Try.underlying50
 have oa1:= mk za6
 have va5:= mk hc0_0
 clear za6 hc0_0
 have oa5:= mk ya6
 have sa5:= mk hc0_1
 clear ya6 hc0_1
 have ma5:= mk va6
 have qa5:= mk hc0_2
 clear va6 hc0_2
 have HB:= mk (Below.refl w.heap.size w)
 have H : ((impl_copyCracker.f z1 v2 s2).bind fun s5 => ((impl_FindRow.f k z1 v2 s2 a1).bind fun v3 => ((impl_IsCracker.f k z1 v2 s2).bind fun da1 => (if da1 = true then (impl_RippleDelete.j0 k v3 (decide (v3 < 0)) z1 v2 s2 s5.1 s5.2.1 s5.2.2) else (impl_RippleDelete.j0 k v3 true z1 v2 s2 s5.1 s5.2.1 s5.2.2))))) = some (r1,r2,r3,r4,r5):= h
 clear h
 replace H:= Option.bind_eq_some_iff.mp H
 obtain ⟨⟨s4,v4,z3⟩,A30,H⟩:= H
 replace H : ((impl_FindRow.f k z1 v2 s2 a1).bind fun v3 => ((impl_IsCracker.f k z1 v2 s2).bind fun da1 => (if da1 = true then (impl_RippleDelete.j0 k v3 (decide (v3 < 0)) z1 v2 s2 s4 v4 z3) else (impl_RippleDelete.j0 k v3 true z1 v2 s2 s4 v4 z3)))) = some (r1,r2,r3,r4,r5):= H
 have A3:= mk A30
 clear A30
 replace H:= Option.bind_eq_some_iff.mp H
 obtain ⟨v3,A40,H⟩:= H
 replace H : ((impl_IsCracker.f k z1 v2 s2).bind fun da1 => (if da1 = true then (impl_RippleDelete.j0 k v3 (decide (v3 < 0)) z1 v2 s2 s4 v4 z3) else (impl_RippleDelete.j0 k v3 true z1 v2 s2 s4 v4 z3))) = some (r1,r2,r3,r4,r5):= H
 have A4:= mk A40
 clear A40
 have HC5:= mk H
 clear H
 go_enter Try.func9,Try.ntmps9
 go_upto_region 3 with (first|((with_reducible refine gate_dst (N:= 2) rfl ?_);refine box_event ?hg (N:= 2) ?hd (cs:= #[.slice k6 z1.length b5,.slice g5 v2.length a5,.slice d5 s2.length z4]) (t:= 29) ?hr ?_;(case hd => rfl);(case hg => rfl);(case hr => first|(go_simp;done)|(go_simp;rfl));intro o1 hg w6 hbox hb;have n0_:= mk (below_step (by repeat (first|(with_reducible first|exact HB.out|apply below_alloc|apply pw_below_drewN|apply below_drew1)|exact HB.out)) hb);have n1_:= mk (hbox);have n2_:= mk ((by rw [hg];exact (below_size (by repeat (first|(with_reducible first|exact HB.out|apply below_alloc|apply pw_below_drewN|apply below_drew1)|exact HB.out))) : w.heap.size ≤ o1));have n3_:= mk ((by rw [hg];exact (below_size (by repeat (first|(with_reducible first|exact HB.out|apply below_alloc|apply pw_below_drewN|apply below_drew1)|exact HB.out))) : w.heap.size ≤ o1));clear HB;have HB:= n0_;have v0:= n1_;have kc7:= n2_;have m2:= n3_;clear n0_ n1_ n2_ n3_;clear hb hbox hg)|((with_reducible refine gate_dst (N:= 4) rfl ?_);refine box_event ?hg (N:= 4) ?hd (cs:= #[.slice none 0 0,.slice none 0 0,.slice none 0 0]) (t:= 29) ?hr ?_;(case hd => rfl);(case hg => rfl);(case hr => first|(go_simp;done)|(go_simp;rfl));intro d1 hg w7 hbox hb;have n0_:= mk (blk_below (g:= o1) (o:= .cells #[.slice k6 z1.length b5,.slice g5 v2.length a5,.slice d5 s2.length z4] 29 (0,0)) (ub v0.out) hb);have n1_:= mk (below_step (by repeat (first|(with_reducible first|exact HB.out|apply below_alloc|apply pw_below_drewN|apply below_drew1|refine below_set ?_ m2.out)|exact HB.out)) hb);have n2_:= mk (hbox);have n3_:= mk ((by rw [hg];exact (below_size (by repeat (first|(with_reducible first|exact HB.out|apply below_alloc|apply pw_below_drewN|apply below_drew1|refine below_set ?_ m2.out)|exact HB.out))) : w.heap.size ≤ d1));have n4_:= mk ((by rw [hg];exact (below_size (by repeat (first|(with_reducible first|exact HB.out|apply below_alloc|apply pw_below_drewN|apply below_drew1|refine below_set ?_ m2.out)|exact HB.out))) : w.heap.size ≤ d1));have n5_:= mk ((by rw [hg];exact Nat.ne_of_lt (blk_lt (g:= o1) (o:= .cells #[.slice k6 z1.length b5,.slice g5 v2.length a5,.slice d5 s2.length z4] 29 (0,0)) (ub v0.out)) : o1 ≠ d1));have n6_:= mk ((by rw [hg];exact Nat.ne_of_gt (blk_lt (g:= o1) (o:= .cells #[.slice k6 z1.length b5,.slice g5 v2.length a5,.slice d5 s2.length z4] 29 (0,0)) (ub v0.out)) : d1 ≠ o1));clear v0;clear HB;have v0:= n0_;have HB:= n1_;have b1:= n2_;have jc7:= n3_;have d3:= n4_;have g4:= n5_;have d4:= n6_;clear n0_ n1_ n2_ n3_ n4_ n5_ n6_;clear hb hbox hg;have gc8:= g4.out;have bc8:= d4.out;have ba0 : w7.cell? ⟨o1,0,none⟩ = some (.slice k6 z1.length b5):= (blk_cell v0.out 0).trans rfl;have aa0 : w7.cell? ⟨o1,1,none⟩ = some (.slice g5 v2.length a5):= (blk_cell v0.out 1).trans rfl;have aa2 : w7.cell? ⟨o1,2,none⟩ = some (.slice d5 s2.length z4):= (blk_cell v0.out 2).trans rfl;have d9:= blk_frozen v0.out 0;have b9:= blk_frozen v0.out 1;have za1:= blk_frozen v0.out 2)|((with_reducible refine gate_callee (f:= 32) rfl ?_);refine goesL_ (some 15) rfl rfl Try.func32 (by kernel_rfl) rfl #[.agg #[.slice k6 z1.length b5,.slice g5 v2.length a5,.slice d5 s2.length z4]] rfl (by (try simp only [List.map_toArray,List.map_cons,List.map_nil]);first|done|rfl|(simp only [List.length_drop,List.length_take];rfl)) ?_;(with_reducible refine (impl_copyCracker.calls _ _ z1 _ _ v2 _ _ s2 s4 v4 z3 _ ?side1 ?side2 ?side3 ?side4 ?side5 ?side6 A3.out).mono ?_);(case side1 => exact uc (Kd.C_below oa1.out HB.out));(case side2 => exact va5.out);(case side3 => exact uc (Kd.C_below oa5.out HB.out));(case side4 => exact sa5.out);(case side5 => exact uc (Kd.C_below ma5.out HB.out));(case side6 => exact qa5.out);rintro e w10 ⟨zc7,yc7,vc7,rfl,ho0,ho1,ho2,hb⟩;refine ⟨_,rfl,?_⟩;have n0_:= mk (Kd.R_lower ho0 (below_size (by repeat (first|(with_reducible first|exact HB.out|apply below_alloc|apply pw_below_drewN|apply below_drew1|refine below_set ?_ m2.out|refine below_set ?_ d3.out)|exact HB.out))));have n1_:= mk (Kd.R_lower ho1 (below_size (by repeat (first|(with_reducible first|exact HB.out|apply below_alloc|apply pw_below_drewN|apply below_drew1|refine below_set ?_ m2.out|refine below_set ?_ d3.out)|exact HB.out))));have n2_:= mk (Kd.R_lower ho2 (below_size (by repeat (first|(with_reducible first|exact HB.out|apply below_alloc|apply pw_below_drewN|apply below_drew1|refine below_set ?_ m2.out|refine below_set ?_ d3.out)|exact HB.out))));have n3_:= mk (blk_below (g:= o1) (o:= .cells #[.slice k6 z1.length b5,.slice g5 v2.length a5,.slice d5 s2.length z4] 29 (0,0)) (ub v0.out) hb);have n4_:= mk (blk_below (g:= d1) (o:= .cells #[.slice none 0 0,.slice none 0 0,.slice none 0 0] 29 (0,0)) (ub b1.out) hb);have n5_:= mk (below_step (by repeat (first|(with_reducible first|exact HB.out|apply below_alloc|apply pw_below_drewN|apply below_drew1|refine below_set ?_ m2.out|refine below_set ?_ d3.out)|exact HB.out)) hb);clear v0;clear b1;clear HB;have b6:= n0_;have a6:= n1_;have z5:= n2_;have v0:= n3_;have b1:= n4_;have HB:= n5_;clear n0_ n1_ n2_ n3_ n4_ n5_;(try clear hb);(try clear hb2);(try clear hk);(try clear hi);(try clear ho0);(try clear ho1);(try clear ho2))|((with_reducible refine gate_dst (N:= 7) rfl ?_);refine box_event ?hg (N:= 7) ?hd (cs:= #[.slice none 0 0,.slice none 0 0,.slice none 0 0]) (t:= 29) ?hr ?_;(case hd => rfl);(case hg => rfl);(case hr => first|(go_simp;done)|(go_simp;rfl));intro z0 hg w11 hbox hb;have n0_:= mk (Kd.R_below (up b6.out) hb);have n1_:= mk (Kd.R_below (up a6.out) hb);have n2_:= mk (Kd.R_below (up z5.out) hb);have n3_:= mk (blk_below (g:= o1) (o:= .cells #[.slice k6 z1.length b5,.slice g5 v2.length a5,.slice d5 s2.length z4] 29 (0,0)) (ub v0.out) hb);have n4_:= mk (blk_below (g:= d1) (o:= .cells #[.slice none 0 0,.slice none 0 0,.slice none 0 0] 29 (0,0)) (ub b1.out) hb);have n5_:= mk (below_step (by repeat (first|(with_reducible first|exact HB.out|apply below_alloc|apply pw_below_drewN|apply below_drew1|refine below_set ?_ m2.out|refine below_set ?_ d3.out)|exact HB.out)) hb);have n6_:= mk (hbox);have n7_:= mk ((by rw [hg];exact (below_size (by repeat (first|(with_reducible first|exact HB.out|apply below_alloc|apply pw_below_drewN|apply below_drew1|refine below_set ?_ m2.out|refine below_set ?_ d3.out)|exact HB.out))) : w.heap.size ≤ z0));have n8_:= mk ((by rw [hg];exact (below_size (by repeat (first|(with_reducible first|exact HB.out|apply below_alloc|apply pw_below_drewN|apply below_drew1|refine below_set ?_ m2.out|refine below_set ?_ d3.out)|exact HB.out))) : w.heap.size ≤ z0));have n9_:= mk ((by rw [hg];exact Nat.ne_of_lt (blk_lt (g:= o1) (o:= .cells #[.slice k6 z1.length b5,.slice g5 v2.length a5,.slice d5 s2.length z4] 29 (0,0)) (ub v0.out)) : o1 ≠ z0));have n10_:= mk ((by rw [hg];exact Nat.ne_of_gt (blk_lt (g:= o1) (o:= .cells #[.slice k6 z1.length b5,.slice g5 v2.length a5,.slice d5 s2.length z4] 29 (0,0)) (ub v0.out)) : z0 ≠ o1));have n11_:= mk ((by rw [hg];exact Nat.ne_of_lt (blk_lt (g:= d1) (o:= .cells #[.slice none 0 0,.slice none 0 0,.slice none 0 0] 29 (0,0)) (ub b1.out)) : d1 ≠ z0));have n12_:= mk ((by rw [hg];exact Nat.ne_of_gt (blk_lt (g:= d1) (o:= .cells #[.slice none 0 0,.slice none 0 0,.slice none 0 0] 29 (0,0)) (ub b1.out)) : z0 ≠ d1));clear b6;clear a6;clear z5;clear v0;clear b1;clear HB;have b6:= n0_;have a6:= n1_;have z5:= n2_;have v0:= n3_;have b1:= n4_;have HB:= n5_;have q0:= n6_;have gc7:= n7_;have q3:= n8_;have d2:= n9_;have j3:= n10_;have b2:= n11_;have b4:= n12_;clear n0_ n1_ n2_ n3_ n4_ n5_ n6_ n7_ n8_ n9_ n10_ n11_ n12_;clear hb hbox hg;obtain ⟨s6,o6,ac5⟩:= Kd.R_slice b6.out;subst ac5;have ac4:= j3.out;have dc2:= d2.out;have zc3:= b4.out;have bc2:= b2.out;have ya0 : w11.cell? ⟨z0,0,none⟩ = some (.slice none 0 0):= (blk_cell q0.out 0).trans rfl;have va0 : w11.cell? ⟨z0,1,none⟩ = some (.slice none 0 0):= (blk_cell q0.out 1).trans rfl;have sa0 : w11.cell? ⟨z0,2,none⟩ = some (.slice none 0 0):= (blk_cell q0.out 2).trans rfl;have z9:= blk_frozen q0.out 0;have y9:= blk_frozen q0.out 1;have v9:= blk_frozen q0.out 2;obtain ⟨z6,v6,zc4⟩:= Kd.R_slice a6.out;subst zc4;obtain ⟨k7,j7,yc4⟩:= Kd.R_slice z5.out;subst yc4;have g7 : w11.cell? ⟨o1,0,none⟩ = some (.slice k6 z1.length b5):= (blk_cell v0.out 0).trans rfl;have d7 : w11.cell? ⟨o1,1,none⟩ = some (.slice g5 v2.length a5):= (blk_cell v0.out 1).trans rfl;have qa0 : w11.cell? ⟨o1,2,none⟩ = some (.slice d5 s2.length z4):= (blk_cell v0.out 2).trans rfl;have b7:= blk_frozen v0.out 0;have a7:= blk_frozen v0.out 1;have s9:= blk_frozen v0.out 2)|((with_reducible refine gate_callee (f:= 24) rfl ?_);refine goesL_ (some 18) rfl rfl Try.func24 (by kernel_rfl) rfl #[.agg #[.slice k6 z1.length b5,.slice g5 v2.length a5,.slice d5 s2.length z4],.int .i64 a1] rfl (by (try simp only [List.map_toArray,List.map_cons,List.map_nil]);first|done|rfl|(simp only [List.length_drop,List.length_take];rfl)) ?_;(with_reducible refine (impl_FindRow.calls k _ _ z1 _ _ v2 _ _ s2 a1 v3 _ ?side1 ?side2 ?side3 ?side4 ?side5 ?side6 A4.out).mono ?_);(case side1 => exact Kd.C_below oa1.out (by repeat (first|(with_reducible first|exact HB.out|apply below_alloc|apply pw_below_drewN|apply below_drew1|refine below_set ?_ m2.out|refine below_set ?_ d3.out|refine below_set ?_ q3.out)|exact HB.out)));(case side2 => exact va5.out);(case side3 => exact Kd.C_below oa5.out (by repeat (first|(with_reducible first|exact HB.out|apply below_alloc|apply pw_below_drewN|apply below_drew1|refine below_set ?_ m2.out|refine below_set ?_ d3.out|refine below_set ?_ q3.out)|exact HB.out)));(case side4 => exact sa5.out);(case side5 => exact Kd.C_below ma5.out (by repeat (first|(with_reducible first|exact HB.out|apply below_alloc|apply pw_below_drewN|apply below_drew1|refine below_set ?_ m2.out|refine below_set ?_ d3.out|refine below_set ?_ q3.out)|exact HB.out)));(case side6 => exact qa5.out);rintro e w19 ⟨rfl,hb⟩;refine ⟨_,rfl,?_⟩;have n0_:= mk (Kd.R_below (by exact up ((Kd.R_mono (Kd.R_far (p:= ⟨z0,2,none⟩) (Kd.R_far (p:= ⟨z0,1,none⟩) (Kd.R_far (p:= ⟨z0,0,none⟩) (Kd.R_types b6.out q0.out (by decide)) (fun _ hk => hk.2) (.slice s6 s4.length o6)) (fun _ hk => hk.2) (.slice z6 v4.length v6)) (fun _ hk => hk.2) (.slice k7 z3.length j7)) (fun _ h_ => h_.1)))) hb);have n1_:= mk (Kd.R_below (by exact up ((Kd.R_mono (Kd.R_far (p:= ⟨z0,2,none⟩) (Kd.R_far (p:= ⟨z0,1,none⟩) (Kd.R_far (p:= ⟨z0,0,none⟩) (Kd.R_types a6.out q0.out (by decide)) (fun _ hk => hk.2) (.slice s6 s4.length o6)) (fun _ hk => hk.2) (.slice z6 v4.length v6)) (fun _ hk => hk.2) (.slice k7 z3.length j7)) (fun _ h_ => h_.1)))) hb);have n2_:= mk (Kd.R_below (by exact up ((Kd.R_mono (Kd.R_far (p:= ⟨z0,2,none⟩) (Kd.R_far (p:= ⟨z0,1,none⟩) (Kd.R_far (p:= ⟨z0,0,none⟩) (Kd.R_types z5.out q0.out (by decide)) (fun _ hk => hk.2) (.slice s6 s4.length o6)) (fun _ hk => hk.2) (.slice z6 v4.length v6)) (fun _ hk => hk.2) (.slice k7 z3.length j7)) (fun _ h_ => h_.1)))) hb);have n3_:= mk (blk_below (g:= o1) (o:= .cells #[.slice k6 z1.length b5,.slice g5 v2.length a5,.slice d5 s2.length z4] 29 (0,0)) (by (with_reducible repeat (first|refine blk_drewN ?_ _|refine blk_drew ?_|refine blk_alloc ?_ _));refine blk_far ?_ d2.out _;(with_reducible repeat (first|refine blk_drewN ?_ _|refine blk_drew ?_|refine blk_alloc ?_ _));refine blk_far ?_ d2.out _;(with_reducible repeat (first|refine blk_drewN ?_ _|refine blk_drew ?_|refine blk_alloc ?_ _));refine blk_far ?_ d2.out _;(with_reducible repeat (first|refine blk_drewN ?_ _|refine blk_drew ?_|refine blk_alloc ?_ _));exact v0.out) hb);have n4_:= mk (blk_below (g:= d1) (o:= .cells #[.slice none 0 0,.slice none 0 0,.slice none 0 0] 29 (0,0)) (by (with_reducible repeat (first|refine blk_drewN ?_ _|refine blk_drew ?_|refine blk_alloc ?_ _));refine blk_far ?_ b2.out _;(with_reducible repeat (first|refine blk_drewN ?_ _|refine blk_drew ?_|refine blk_alloc ?_ _));refine blk_far ?_ b2.out _;(with_reducible repeat (first|refine blk_drewN ?_ _|refine blk_drew ?_|refine blk_alloc ?_ _));refine blk_far ?_ b2.out _;(with_reducible repeat (first|refine blk_drewN ?_ _|refine blk_drew ?_|refine blk_alloc ?_ _));exact b1.out) hb);have n5_:= mk (blk_below (g:= z0) (o:= .cells #[.slice s6 s4.length o6,.slice z6 v4.length v6,.slice k7 z3.length j7] 29 (0,0)) (by (with_reducible repeat (first|refine blk_drewN ?_ _|refine blk_drew ?_|refine blk_alloc ?_ _));refine blk_put (cs:= #[.slice s6 s4.length o6,.slice z6 v4.length v6,.slice none 0 0]) ?_ 2 _ rfl;(with_reducible repeat (first|refine blk_drewN ?_ _|refine blk_drew ?_|refine blk_alloc ?_ _));refine blk_put (cs:= #[.slice s6 s4.length o6,.slice none 0 0,.slice none 0 0]) ?_ 1 _ rfl;(with_reducible repeat (first|refine blk_drewN ?_ _|refine blk_drew ?_|refine blk_alloc ?_ _));refine blk_put (cs:= #[.slice none 0 0,.slice none 0 0,.slice none 0 0]) ?_ 0 _ rfl;(with_reducible repeat (first|refine blk_drewN ?_ _|refine blk_drew ?_|refine blk_alloc ?_ _));exact q0.out) hb);have n6_:= mk (below_step (by repeat (first|(with_reducible first|exact HB.out|apply below_alloc|apply pw_below_drewN|apply below_drew1|refine below_set ?_ m2.out|refine below_set ?_ d3.out|refine below_set ?_ q3.out)|exact HB.out)) hb);clear b6;clear a6;clear z5;clear v0;clear b1;clear q0;clear HB;have b6:= n0_;have a6:= n1_;have z5:= n2_;have v0:= n3_;have b1:= n4_;have q0:= n5_;have HB:= n6_;clear n0_ n1_ n2_ n3_ n4_ n5_ n6_;(try clear hb);(try clear hb2);(try clear hk);(try clear hi)))
 (try simp only [Act.put,List.setIfInBounds_toArray,List.set_cons_zero,List.set_cons_succ])
 go_cut [25] (fun v25 wc => ∃ (kq : Nat) (ga1 : Bool),v25 = .bool ga1 ∧ Aside0 (impl_RippleDelete.j0 kq v3 ga1 z1 v2 s2 s4 v4 z3 = some (r1,r2,r3,r4,r5)) ∧ Aside0 (kq ≤ k) ∧ Aside0 (Kd.R (Kd.int .i64) 3 wc w.heap.size (fun k_ => some k_ ≠ ((.slice z6 v4.length v6) : Value).ownBlock) (.slice s6 s4.length o6) s4) ∧ Aside0 (Kd.R (Kd.int .i64) 3 wc w.heap.size (fun k_ => some k_ ≠ ((.slice s6 s4.length o6) : Value).ownBlock) (.slice z6 v4.length v6) v4) ∧ Aside0 (Kd.R k50 50 wc w.heap.size (fun _ => True) (.slice k7 z3.length j7) z3) ∧ Aside0 (wc.heap[o1]? = some (.cells #[(.slice k6 z1.length b5),(.slice g5 v2.length a5),(.slice d5 s2.length z4)] 29 (0,0))) ∧ Aside0 (wc.heap[d1]? = some (.cells #[(.slice none 0 0),(.slice none 0 0),(.slice none 0 0)] 29 (0,0))) ∧ Aside0 (wc.heap[z0]? = some (.cells #[(.slice s6 s4.length o6),(.slice z6 v4.length v6),(.slice k7 z3.length j7)] 29 (0,0))) ∧ Aside0 (Below w.heap.size w wc))
 case first =>
  have H:= HC5.out
  clear HC5
  replace H:= Option.bind_eq_some_iff.mp H
  obtain ⟨da1,gc0,H⟩:= H
  replace H : (if da1 = true then (impl_RippleDelete.j0 k v3 (decide (v3 < 0)) z1 v2 s2 s4 v4 z3) else (impl_RippleDelete.j0 k v3 true z1 v2 s2 s4 v4 z3)) = some (r1,r2,r3,r4,r5):= H
  have A20:= mk gc0
  clear gc0
  by_cases c21 : da1 = true
  subst c21
  have H1 : (impl_RippleDelete.j0 k v3 (decide (v3 < 0)) z1 v2 s2 s4 v4 z3) = some (r1,r2,r3,r4,r5):= by rw [if_pos rfl] at H;exact H
  clear H
  have H:= H1
  clear H1
  have H':= mk H
  clear H
  have vc3:= g4.out
  have zc1:= d4.out
  have sc3:= d2.out
  have yc1:= j3.out
  have oa0 : w19.cell? ⟨o1,0,none⟩ = some (.slice k6 z1.length b5):= (blk_cell v0.out 0).trans rfl
  have ma0 : w19.cell? ⟨o1,1,none⟩ = some (.slice g5 v2.length a5):= (blk_cell v0.out 1).trans rfl
  have ka0 : w19.cell? ⟨o1,2,none⟩ = some (.slice d5 s2.length z4):= (blk_cell v0.out 2).trans rfl
  have q9:= blk_frozen v0.out 0
  have o9:= blk_frozen v0.out 1
  have m9:= blk_frozen v0.out 2
  rotate_left
  replace c21:= Bool.eq_false_iff.mpr c21
  subst c21
  have H1 : (impl_RippleDelete.j0 k v3 true z1 v2 s2 s4 v4 z3) = some (r1,r2,r3,r4,r5):= by rw [if_neg (show ¬ (false = true) by decide)] at H;exact H
  clear H
  have H:= H1
  clear H1
  have H':= mk H
  clear H
  have qc3:= g4.out
  have vc1:= d4.out
  have oc3:= d2.out
  have sc1:= j3.out
  have ja0 : w19.cell? ⟨o1,0,none⟩ = some (.slice k6 z1.length b5):= (blk_cell v0.out 0).trans rfl
  have ga0 : w19.cell? ⟨o1,1,none⟩ = some (.slice g5 v2.length a5):= (blk_cell v0.out 1).trans rfl
  have da0 : w19.cell? ⟨o1,2,none⟩ = some (.slice d5 s2.length z4):= (blk_cell v0.out 2).trans rfl
  have k9:= blk_frozen v0.out 0
  have j9:= blk_frozen v0.out 1
  have g9:= blk_frozen v0.out 2
  rotate_left
  all_goals
   go_wp2_with (first|((with_reducible refine gate_callee (f:= 19) rfl ?_);refine goesL_ (some 20) rfl rfl Try.func19 (by kernel_rfl) rfl #[.agg #[.slice k6 z1.length b5,.slice g5 v2.length a5,.slice d5 s2.length z4]] rfl (by (try simp only [List.map_toArray,List.map_cons,List.map_nil]);first|done|rfl|(simp only [List.length_drop,List.length_take];rfl)) ?_;(with_reducible refine (impl_IsCracker.calls k _ _ z1 _ _ v2 _ _ s2 _ _ ?side1 ?side2 ?side3 ?side4 ?side5 ?side6 A20.out).mono ?_);(case side1 => exact uc (Kd.C_below oa1.out HB.out));(case side2 => exact va5.out);(case side3 => exact uc (Kd.C_below oa5.out HB.out));(case side4 => exact sa5.out);(case side5 => exact uc (Kd.C_below ma5.out HB.out));(case side6 => exact qa5.out);rintro e w25 ⟨rfl,hb⟩;refine ⟨_,rfl,?_⟩;have n0_:= mk (Kd.R_below (up b6.out) hb);have n1_:= mk (Kd.R_below (up a6.out) hb);have n2_:= mk (Kd.R_below (up z5.out) hb);have n3_:= mk (blk_below (g:= o1) (o:= .cells #[.slice k6 z1.length b5,.slice g5 v2.length a5,.slice d5 s2.length z4] 29 (0,0)) (ub v0.out) hb);have n4_:= mk (blk_below (g:= d1) (o:= .cells #[.slice none 0 0,.slice none 0 0,.slice none 0 0] 29 (0,0)) (ub b1.out) hb);have n5_:= mk (blk_below (g:= z0) (o:= .cells #[.slice s6 s4.length o6,.slice z6 v4.length v6,.slice k7 z3.length j7] 29 (0,0)) (ub q0.out) hb);have n6_:= mk (below_step (by repeat (first|(with_reducible first|exact HB.out|apply below_alloc|apply pw_below_drewN|apply below_drew1|refine below_set ?_ m2.out|refine below_set ?_ d3.out|refine below_set ?_ q3.out)|exact HB.out)) hb);clear b6;clear a6;clear z5;clear v0;clear b1;clear q0;clear HB;have b6:= n0_;have a6:= n1_;have z5:= n2_;have v0:= n3_;have b1:= n4_;have q0:= n5_;have HB:= n6_;clear n0_ n1_ n2_ n3_ n4_ n5_ n6_;(try clear hb);(try clear hb2);(try clear hk);(try clear hi)))
  ·go_meet
   case rel => exact ⟨_,(decide (v3 < 0)),(by first|rfl|(simp;done)|(simp [*];done)),H',⟨by first|omega|exact Nat.le_refl _⟩,⟨up b6.out⟩,⟨up a6.out⟩,⟨up z5.out⟩,⟨ub v0.out⟩,⟨ub b1.out⟩,⟨ub q0.out⟩,⟨by repeat (first|(with_reducible first|exact HB.out|apply below_alloc|apply pw_below_drewN|apply below_drew1|refine below_set ?_ m2.out|refine below_set ?_ d3.out|refine below_set ?_ q3.out)|exact HB.out)⟩⟩
  ·go_meet
   case rel => exact ⟨_,(true),(by first|rfl|(simp;done)|(simp [*];done)),H',⟨by first|omega|exact Nat.le_refl _⟩,⟨up b6.out⟩,⟨up a6.out⟩,⟨up z5.out⟩,⟨ub v0.out⟩,⟨ub b1.out⟩,⟨ub q0.out⟩,⟨by repeat (first|(with_reducible first|exact HB.out|apply below_alloc|apply pw_below_drewN|apply below_drew1|refine below_set ?_ m2.out|refine below_set ?_ d3.out|refine below_set ?_ q3.out)|exact HB.out)⟩⟩
 case rest =>
  clear HC5
  try clear c1
  try clear c2
  try clear p2
  try clear c3
  try clear c8
  try clear c9
  try clear c13
  try clear c14
  try clear c19
  try clear c21
  try clear c22
  try clear c23
  try clear c24
  try clear c26
  try clear c27
  try clear ya0
  try clear va0
  try clear sa0
  try clear g7
  try clear d7
  try clear qa0
  try clear oa0
  try clear ma0
  try clear ka0
  try clear ja0
  try clear ga0
  try clear da0
  try clear ba0
  try clear aa0
  try clear aa2
  try clear z9
  try clear y9
  try clear v9
  try clear b7
  try clear a7
  try clear s9
  try clear q9
  try clear o9
  try clear m9
  try clear k9
  try clear j9
  try clear g9
  try clear d9
  try clear b9
  try clear za1
  obtain ⟨kq,ga1,rfl,HA,HJ4,m0,o0,k0,v0,b1,q0,HB⟩:= hcut
  cases kq with
 |zero => exact absurd HA.out (by simp [impl_RippleDelete.j0])
 |succ kj4 =>
   have H:= HA.out
   clear HA
   simp only [impl_RippleDelete.j0] at H
   by_cases c30 : ga1 = true
   ·subst c30
    have H1 : (some (s4,v4,z3,0,false)) = some (r1,r2,r3,r4,r5):= by rw [if_pos rfl] at H;exact H
    clear H
    have H:= H1
    clear H1
    simp only [Option.some.injEq,Prod.mk.injEq] at H
    obtain ⟨rfl,rfl,rfl,rfl,rfl⟩:= H
    have mc3:= j3.out
    have qc1:= d2.out
    have kc3:= b4.out
    have oc1:= b2.out
    have ba5 : wc.cell? ⟨z0,0,none⟩ = some (.slice s6 s4.length o6):= (blk_cell q0.out 0).trans rfl
    have aa5 : wc.cell? ⟨z0,1,none⟩ = some (.slice z6 v4.length v6):= (blk_cell q0.out 1).trans rfl
    have za4 : wc.cell? ⟨z0,2,none⟩ = some (.slice k7 z3.length j7):= (blk_cell q0.out 2).trans rfl
    have ba4:= blk_frozen q0.out 0
    have aa4:= blk_frozen q0.out 1
    have za3:= blk_frozen q0.out 2
    have jc3:= d4.out
    have mc1:= g4.out
    have ya4 : wc.cell? ⟨d1,0,none⟩ = some (.slice none 0 0):= (blk_cell b1.out 0).trans rfl
    have va4 : wc.cell? ⟨d1,1,none⟩ = some (.slice none 0 0):= (blk_cell b1.out 1).trans rfl
    have sa4 : wc.cell? ⟨d1,2,none⟩ = some (.slice none 0 0):= (blk_cell b1.out 2).trans rfl
    have ya3:= blk_frozen b1.out 0
    have va3:= blk_frozen b1.out 1
    have sa3:= blk_frozen b1.out 2
    go_wp2
    refine bodyPost_ret (results_ctt rfl _ _ d1 29 #[.slice s6 s4.length o6,.slice z6 v4.length v6,.slice k7 z3.length j7] (0,0) _ rfl (by (with_reducible repeat (first|refine blk_drewN ?_ _|refine blk_drew ?_|refine blk_alloc ?_ _));refine blk_put (cs:= #[.slice s6 s4.length o6,.slice z6 v4.length v6,.slice none 0 0]) ?_ 2 _ rfl;(with_reducible repeat (first|refine blk_drewN ?_ _|refine blk_drew ?_|refine blk_alloc ?_ _));refine blk_put (cs:= #[.slice s6 s4.length o6,.slice none 0 0,.slice none 0 0]) ?_ 1 _ rfl;(with_reducible repeat (first|refine blk_drewN ?_ _|refine blk_drew ?_|refine blk_alloc ?_ _));refine blk_put (cs:= #[.slice none 0 0,.slice none 0 0,.slice none 0 0]) ?_ 0 _ rfl;(with_reducible repeat (first|refine blk_drewN ?_ _|refine blk_drew ?_|refine blk_alloc ?_ _));exact b1.out) Try.underlying29 rfl (by kernel_rfl)) rfl ?_
    exact ⟨_,_,_,by first|rfl|(simp [errW_none,errW_some] <;> rfl)|(simp [*,errW_none,errW_some] <;> rfl),by exact up (Kd.R_mono (Kd.R_far (p:= ⟨d1,2,none⟩) (Kd.R_far (p:= ⟨d1,1,none⟩) (Kd.R_far (p:= ⟨d1,0,none⟩) (Kd.R_types m0.out b1.out (by decide)) (fun _ hk => hk.2) (.slice s6 s4.length o6)) (fun _ hk => hk.2) (.slice z6 v4.length v6)) (fun _ hk => hk.2) (.slice k7 z3.length j7)) (fun _ hk => hk.1)),by exact up (Kd.R_mono (Kd.R_far (p:= ⟨d1,2,none⟩) (Kd.R_far (p:= ⟨d1,1,none⟩) (Kd.R_far (p:= ⟨d1,0,none⟩) (Kd.R_types o0.out b1.out (by decide)) (fun _ hk => hk.2) (.slice s6 s4.length o6)) (fun _ hk => hk.2) (.slice z6 v4.length v6)) (fun _ hk => hk.2) (.slice k7 z3.length j7)) (fun _ hk => hk.1)),by exact up (Kd.R_mono (Kd.R_far (p:= ⟨d1,2,none⟩) (Kd.R_far (p:= ⟨d1,1,none⟩) (Kd.R_far (p:= ⟨d1,0,none⟩) (Kd.R_types k0.out b1.out (by decide)) (fun _ hk => hk.2) (.slice s6 s4.length o6)) (fun _ hk => hk.2) (.slice z6 v4.length v6)) (fun _ hk => hk.2) (.slice k7 z3.length j7)) (fun _ hk => trivial)),by repeat (first|(with_reducible first|exact HB.out|apply below_alloc|apply pw_below_drewN|apply below_drew1|refine below_set ?_ m2.out|refine below_set ?_ d3.out|refine below_set ?_ q3.out)|exact HB.out)⟩
   ·replace c30:= Bool.eq_false_iff.mpr c30
    subst c30
    have H1 : (if 0 ≤ v3 then (if v3 < (z1.length : Int) then (impl_RippleDelete.l0 kj4 v3 (rd z1 v3) 0 (z3.length : Int) 0 s4 v4 z3) else (none)) else (none)) = some (r1,r2,r3,r4,r5):= by rw [if_neg (show ¬ (false = true) by decide)] at H;exact H
    clear H
    have H:= H1
    clear H1
    by_cases c36 : 0 ≤ v3
    ·rw [if_pos c36] at H
     have yb5 : decide (0 ≤ v3) = true:= decide_eq_true c36
     clear c36
     by_cases c37 : v3 < (z1.length : Int)
     ·rw [if_pos c37] at H
      have vb5 : decide (v3 < (z1.length : Int)) = true:= decide_eq_true c37
      clear c37
      have H':= mk H
      clear H
      have gc3:= g4.out
      have kc1:= d4.out
      have dc3:= d2.out
      have jc1:= j3.out
      have qa4 : wc.cell? ⟨o1,0,none⟩ = some (.slice k6 z1.length b5):= (blk_cell v0.out 0).trans rfl
      have oa4 : wc.cell? ⟨o1,1,none⟩ = some (.slice g5 v2.length a5):= (blk_cell v0.out 1).trans rfl
      have ma4 : wc.cell? ⟨o1,2,none⟩ = some (.slice d5 s2.length z4):= (blk_cell v0.out 2).trans rfl
      have qa3:= blk_frozen v0.out 0
      have oa3:= blk_frozen v0.out 1
      have ma3:= blk_frozen v0.out 2
      have da8 : 0 ≤ (v3 : Int):= of_decide_eq_true (by first|(with_reducible assumption)|assumption)
      have ba8 : v3 < (z1.length : Int):= of_decide_eq_true (by first|(with_reducible assumption)|assumption)
      obtain ⟨q6,mc5,m6⟩:= Kd.at_int oa1.out v3 da8 ba8
      cases mc5
      replace m6:= (HB.out.cell (World.block_lt_of_cell? w _ m6)).trans m6
      replace da8:= eq_true da8
      replace ba8:= eq_true ba8
      have bc3:= b4.out
      have gc1:= b2.out
      have ka4 : wc.cell? ⟨z0,0,none⟩ = some (.slice s6 s4.length o6):= (blk_cell q0.out 0).trans rfl
      have ja4 : wc.cell? ⟨z0,1,none⟩ = some (.slice z6 v4.length v6):= (blk_cell q0.out 1).trans rfl
      have ga4 : wc.cell? ⟨z0,2,none⟩ = some (.slice k7 z3.length j7):= (blk_cell q0.out 2).trans rfl
      have ka3:= blk_frozen q0.out 0
      have ja3:= blk_frozen q0.out 1
      have ga3:= blk_frozen q0.out 2
      go_wp2
      go_loopg [8,10,35] kj4 (fun kq v8 v10 v35 w' => ∃ (g2 : Int) (q4 : Int) (s0 : Int) (g0 : List Int) (d0 : List Int) (b0 : List (S50)) (v1 : Value) (s1 : Value) (j4 : Value),v8 = .int .i64 g2 ∧ v10 = .int .i64 q4 ∧ v35 = .int .i64 s0 ∧ Aside0 (impl_RippleDelete.l0 kq g2 (rd z1 v3) q4 (z3.length : Int) s0 g0 d0 b0 = some (r1,r2,r3,r4,r5)) ∧ Aside0 (j4 = (.slice k7 z3.length j7)) ∧ Aside0 (kq ≤ kj4) ∧ Aside0 (Kd.R (Kd.int .i64) 3 w' w.heap.size (fun k_ => some k_ ≠ (s1 : Value).ownBlock) v1 g0) ∧ Aside0 (Kd.R (Kd.int .i64) 3 w' w.heap.size (fun k_ => some k_ ≠ (v1 : Value).ownBlock) s1 d0) ∧ Aside0 (Kd.R k50 50 w' w.heap.size (fun _ => True) j4 b0) ∧ Aside0 (w'.heap[o1]? = some (.cells #[(.slice (some q6) z1.length b5),(.slice g5 v2.length a5),(.slice d5 s2.length z4)] 29 (0,0))) ∧ Aside0 (w'.heap[d1]? = some (.cells #[(.slice none 0 0),(.slice none 0 0),(.slice none 0 0)] 29 (0,0))) ∧ Aside0 (w'.heap[z0]? = some (.cells #[v1,s1,j4] 29 (0,0))) ∧ Aside0 (Below w.heap.size w w'))
      case atStart => exact ⟨(v3),(0),(0),(s4),(v4),(z3),(.slice s6 s4.length o6),(.slice z6 v4.length v6),(.slice k7 z3.length j7),(by first|rfl|(simp;done)|(simp [*];done)),(by first|rfl|(simp;done)|(simp [*];done)),(by first|rfl|(simp;done)|(simp [*];done)),H',⟨rfl⟩,⟨Nat.le_refl _⟩,⟨up m0.out⟩,⟨up o0.out⟩,⟨up k0.out⟩,⟨ub v0.out⟩,⟨ub b1.out⟩,⟨ub q0.out⟩,⟨by repeat (first|(with_reducible first|exact HB.out|apply below_alloc|apply pw_below_drewN|apply below_drew1|refine below_set ?_ m2.out|refine below_set ?_ d3.out|refine below_set ?_ q3.out)|exact HB.out)⟩⟩
      case round =>
       clear H'
       try clear c1
       try clear c2
       try clear p2
       try clear q2
       try clear hx2
       try clear c3
       try clear c4
       try clear c8
       try clear c9
       try clear c13
       try clear c14
       try clear c19
       try clear c21
       try clear c22
       try clear c23
       try clear c24
       try clear p25
       try clear q25
       try clear ac8
       try clear c26
       try clear c27
       try clear c30
       try clear c31
       try clear c32
       try clear c34
       try clear c36
       try clear yb5
       try clear c37
       try clear vb5
       try clear c38
       try clear c39
       try clear c41
       try clear ya0
       try clear va0
       try clear sa0
       try clear g7
       try clear d7
       try clear qa0
       try clear oa0
       try clear ma0
       try clear ka0
       try clear ja0
       try clear ga0
       try clear da0
       try clear ba5
       try clear aa5
       try clear za4
       try clear ya4
       try clear va4
       try clear sa4
       try clear qa4
       try clear oa4
       try clear ma4
       try clear ka4
       try clear ja4
       try clear ga4
       try clear ba0
       try clear aa0
       try clear aa2
       try clear z9
       try clear y9
       try clear v9
       try clear b7
       try clear a7
       try clear s9
       try clear q9
       try clear o9
       try clear m9
       try clear k9
       try clear j9
       try clear g9
       try clear ba4
       try clear aa4
       try clear za3
       try clear ya3
       try clear va3
       try clear sa3
       try clear qa3
       try clear oa3
       try clear ma3
       try clear ka3
       try clear ja3
       try clear ga3
       try clear d9
       try clear b9
       try clear za1
       try clear m6
       try clear p2
       try clear da8
       try clear ba8
       obtain ⟨g2,q4,s0,g0,d0,b0,v1,s1,j4,rfl,rfl,rfl,HA,HU,HK2,m0,o0,k0,v0,b1,q0,HB⟩:= hrel
       cases gk with
      |zero => exact absurd HA.out (by simp [impl_RippleDelete.l0])
      |succ k2 =>
        have H:= HA.out
        clear HA
        simp only [impl_RippleDelete.l0] at H
        by_cases c43 : s0 < (z3.length : Int)
        ·rw [if_pos c43] at H
         have sb5 : decide (s0 < (z3.length : Int)) = true:= decide_eq_true c43
         clear c43
         by_cases c44 : 0 ≤ s0
         ·rw [if_pos c44] at H
          have vc6 : decide (0 ≤ s0) = true:= decide_eq_true c44
          clear c44
          by_cases c45 : s0 < (b0.length : Int)
          ·rw [if_pos c45] at H
           have sc6 : decide (s0 < (b0.length : Int)) = true:= decide_eq_true c45
           clear c45
           by_cases c46 : ((rd_T50 b0 s0).f0) ≤ (rd z1 v3)
           ·rw [if_pos c46] at H
            have qb5 : decide (((rd_T50 b0 s0).f0) ≤ (rd z1 v3)) = true:= decide_eq_true c46
            clear c46
            have H':= mk H
            clear H
            have ac3:= j3.out
            have dc1:= d2.out
            have zc2:= b4.out
            have bc1:= b2.out
            have mb4 : wr.cell? ⟨z0,0,none⟩ = some (v1):= (blk_cell q0.out 0).trans rfl
            have kb4 : wr.cell? ⟨z0,1,none⟩ = some (s1):= (blk_cell q0.out 1).trans rfl
            have jb4 : wr.cell? ⟨z0,2,none⟩ = some (j4):= (blk_cell q0.out 2).trans rfl
            have mb2:= blk_frozen q0.out 0
            have kb2:= blk_frozen q0.out 1
            have jb2:= blk_frozen q0.out 2
            obtain ⟨md0,qa9,vc4⟩:= Kd.R_slice k0.out
            subst vc4
            have oa2 : 0 ≤ (s0 : Int):= of_decide_eq_true (by first|(with_reducible assumption)|assumption)
            have ja2 : s0 < (b0.length : Int):= of_decide_eq_true (by first|(with_reducible assumption)|assumption)
            obtain ⟨k5,mb5,y8,s8⟩:= at_T50 (Kd.R_reads' k0.out).2.2 s0 oa2 ja2
            cases mb5
            have HOs_:= k0
            have BKs_:= q0
            injection HU.out with hu1 hu2 hu3
            have HU2:= mk hu2
            clear HU hu2
            subst hu1
            subst hu3
            have q33_:= eq_true (show s0 < (z3.length : Int) from of_decide_eq_true (by first|(with_reducible assumption)|assumption))
            have k0:= HOs_
            have q0:= BKs_
            clear HOs_ BKs_
            replace oa2:= eq_true oa2
            replace ja2:= eq_true ja2
            go_wp2_with (first|((with_reducible refine gate_dst (N:= 12) rfl ?_);refine box_event ?hg (N:= 12) ?hd (cs:= #[.int .i64 0,.int .i64 0]) (t:= 50) ?hr ?_;(case hd => rfl);(case hg => rfl);(case hr => first|(go_simp;done)|(go_simp;rfl));intro g1 hg w51 hbox hb;have n0_:= mk (Kd.R_below (up m0.out) hb);have n1_:= mk (Kd.R_below (up o0.out) hb);have n2_:= mk (Kd.R_below (Kd.R_elderB (up k0.out) g1 (Nat.le_of_eq hg.symm)) hb);have n3_:= mk (blk_below (g:= o1) (o:= .cells #[.slice (some q6) z1.length b5,.slice g5 v2.length a5,.slice d5 s2.length z4] 29 (0,0)) (ub v0.out) hb);have n4_:= mk (blk_below (g:= d1) (o:= .cells #[.slice none 0 0,.slice none 0 0,.slice none 0 0] 29 (0,0)) (ub b1.out) hb);have n5_:= mk (blk_below (g:= z0) (o:= .cells #[v1,s1,.slice (some k5) b0.length qa9] 29 (0,0)) (ub q0.out) hb);have n6_:= mk (below_step (by repeat (first|(with_reducible first|exact HB.out|apply below_alloc|apply pw_below_drewN|apply below_drew1|refine below_set ?_ m2.out|refine below_set ?_ d3.out|refine below_set ?_ q3.out)|exact HB.out)) hb);have n7_:= mk (hbox);have n8_:= mk ((by rw [hg];exact (below_size (by repeat (first|(with_reducible first|exact HB.out|apply below_alloc|apply pw_below_drewN|apply below_drew1|refine below_set ?_ m2.out|refine below_set ?_ d3.out|refine below_set ?_ q3.out)|exact HB.out))) : w.heap.size ≤ g1));have n9_:= mk ((by rw [hg];exact (below_size (by repeat (first|(with_reducible first|exact HB.out|apply below_alloc|apply pw_below_drewN|apply below_drew1|refine below_set ?_ m2.out|refine below_set ?_ d3.out|refine below_set ?_ q3.out)|exact HB.out))) : w.heap.size ≤ g1));have n10_:= mk ((by rw [hg];exact Nat.ne_of_lt (blk_lt (g:= o1) (o:= .cells #[.slice (some q6) z1.length b5,.slice g5 v2.length a5,.slice d5 s2.length z4] 29 (0,0)) (ub v0.out)) : o1 ≠ g1));have n11_:= mk ((by rw [hg];exact Nat.ne_of_gt (blk_lt (g:= o1) (o:= .cells #[.slice (some q6) z1.length b5,.slice g5 v2.length a5,.slice d5 s2.length z4] 29 (0,0)) (ub v0.out)) : g1 ≠ o1));have n12_:= mk ((by rw [hg];exact Nat.ne_of_lt (blk_lt (g:= d1) (o:= .cells #[.slice none 0 0,.slice none 0 0,.slice none 0 0] 29 (0,0)) (ub b1.out)) : d1 ≠ g1));have n13_:= mk ((by rw [hg];exact Nat.ne_of_gt (blk_lt (g:= d1) (o:= .cells #[.slice none 0 0,.slice none 0 0,.slice none 0 0] 29 (0,0)) (ub b1.out)) : g1 ≠ d1));have n14_:= mk ((by rw [hg];exact Nat.ne_of_lt (blk_lt (g:= z0) (o:= .cells #[v1,s1,.slice (some k5) b0.length qa9] 29 (0,0)) (ub q0.out)) : z0 ≠ g1));have n15_:= mk ((by rw [hg];exact Nat.ne_of_gt (blk_lt (g:= z0) (o:= .cells #[v1,s1,.slice (some k5) b0.length qa9] 29 (0,0)) (ub q0.out)) : g1 ≠ z0));clear m0;clear o0;clear k0;clear v0;clear b1;clear q0;clear HB;have m0:= n0_;have o0:= n1_;have k0:= n2_;have v0:= n3_;have b1:= n4_;have q0:= n5_;have HB:= n6_;have o2:= n7_;have mb6:= n8_;have aa1:= n9_;have o3:= n10_;have j6:= n11_;have m3:= n12_;have g6:= n13_;have k3:= n14_;have d6:= n15_;clear n0_ n1_ n2_ n3_ n4_ n5_ n6_ n7_ n8_ n9_ n10_ n11_ n12_ n13_ n14_ n15_;clear hb hbox hg;have yc2:= j6.out;have ac1:= o3.out;have vc2:= g6.out;have zc0:= m3.out;have sc2:= d6.out;have yc0:= k3.out;have gb4 : w51.cell? ⟨g1,0,none⟩ = some (.int .i64 0):= (blk_cell o2.out 0).trans rfl;have db4 : w51.cell? ⟨g1,1,none⟩ = some (.int .i64 0):= (blk_cell o2.out 1).trans rfl;have gb2:= blk_frozen o2.out 0;have db2:= blk_frozen o2.out 1))
            go_roundg k2
            case measure => have:= HJ4.out;have:= HK2.out;omega
            case rel => exact ⟨(g2),(q4),(wrap64 (s0 + 1)),(g0),(d0),(b0),(v1),(s1),(.slice (some k5) b0.length qa9),(by first|rfl|(simp;done)|(simp [*];done)),(by first|rfl|(simp;done)|(simp [*];done)),(by first|rfl|(simp;done)|(simp [*];done)),H',⟨by rw [HU2.out]⟩,⟨by have:= HJ4.out;have:= HK2.out;omega⟩,⟨by exact up (Kd.R_mono (Kd.R_far (p:= ⟨g1,1,none⟩) (Kd.R_far (p:= ⟨g1,0,none⟩) (Kd.R_types m0.out o2.out (by decide)) (fun _ hk => hk.2) (.int .i64 ((rd_T50 b0 s0).f0))) (fun _ hk => hk.2) (.int .i64 ((rd_T50 b0 s0).f1))) (fun _ hk => hk.1))⟩,⟨by exact up (Kd.R_mono (Kd.R_far (p:= ⟨g1,1,none⟩) (Kd.R_far (p:= ⟨g1,0,none⟩) (Kd.R_types o0.out o2.out (by decide)) (fun _ hk => hk.2) (.int .i64 ((rd_T50 b0 s0).f0))) (fun _ hk => hk.2) (.int .i64 ((rd_T50 b0 s0).f1))) (fun _ hk => hk.1))⟩,⟨by exact up (Kd.R_mono (Kd.R_far (p:= ⟨g1,1,none⟩) (Kd.R_far (p:= ⟨g1,0,none⟩) (Kd.R_mono k0.out (fun k_ hk => (⟨hk,hk.2⟩ : _ ∧ k_ ≠ g1))) (fun _ hk => hk.2) (.int .i64 ((rd_T50 b0 s0).f0))) (fun _ hk => hk.2) (.int .i64 ((rd_T50 b0 s0).f1))) (fun _ hk => trivial))⟩,⟨by (with_reducible repeat (first|refine blk_drewN ?_ _|refine blk_drew ?_|refine blk_alloc ?_ _));refine blk_far ?_ o3.out _;(with_reducible repeat (first|refine blk_drewN ?_ _|refine blk_drew ?_|refine blk_alloc ?_ _));refine blk_far ?_ o3.out _;(with_reducible repeat (first|refine blk_drewN ?_ _|refine blk_drew ?_|refine blk_alloc ?_ _));exact v0.out⟩,⟨by (with_reducible repeat (first|refine blk_drewN ?_ _|refine blk_drew ?_|refine blk_alloc ?_ _));refine blk_far ?_ m3.out _;(with_reducible repeat (first|refine blk_drewN ?_ _|refine blk_drew ?_|refine blk_alloc ?_ _));refine blk_far ?_ m3.out _;(with_reducible repeat (first|refine blk_drewN ?_ _|refine blk_drew ?_|refine blk_alloc ?_ _));exact b1.out⟩,⟨by (with_reducible repeat (first|refine blk_drewN ?_ _|refine blk_drew ?_|refine blk_alloc ?_ _));refine blk_far ?_ k3.out _;(with_reducible repeat (first|refine blk_drewN ?_ _|refine blk_drew ?_|refine blk_alloc ?_ _));refine blk_far ?_ k3.out _;(with_reducible repeat (first|refine blk_drewN ?_ _|refine blk_drew ?_|refine blk_alloc ?_ _));exact q0.out⟩,⟨by repeat (first|(with_reducible first|exact HB.out|apply below_alloc|apply pw_below_drewN|apply below_drew1|refine below_set ?_ m2.out|refine below_set ?_ d3.out|refine below_set ?_ q3.out|refine below_set ?_ aa1.out)|exact HB.out)⟩⟩
           ·rw [if_neg c46] at H
            have qb5 : decide (((rd_T50 b0 s0).f0) ≤ (rd z1 v3)) = false:= decide_eq_false c46
            clear c46
            obtain ⟨s3,a9⟩ : ∃ j_ : Int,(wrap64 (((rd_T50 b0 s0).f1) - 1)) = j_:= ⟨_,rfl⟩
            replace H : (if 0 ≤ (s3) then (if (s3) < (g0.length : Int) then (if 0 ≤ g2 then (if g2 < (g0.length : Int) then (if (s3) < (d0.length : Int) then (if g2 < (d0.length : Int) then ((impl_Cracker_put.f g2 (s3)).bind fun z7 => (impl_RippleDelete.l0 k2 s3 (rd z1 v3) (wrap64 (q4 + z7)) (z3.length : Int) (wrap64 (s0 + 1)) (g0.set (g2 : Int).toNat (rd g0 (s3))) (d0.set (g2 : Int).toNat (rd d0 (s3))) (b0.set (s0 : Int).toNat (⟨(rd_T50 b0 s0).f0,s3⟩ : S50)))) else (none)) else (none)) else (none)) else (none)) else (none)) else (none)) = some (r1,r2,r3,r4,r5):= by first|(rw [a9] at H;exact H)|(simp only [a9] at H ⊢;exact H)
            have ob7 : (IntKind.i64.wrap (((rd_T50 b0 s0).f1) - 1)) = s3:= (i64_w _).trans a9
            by_cases c57 : 0 ≤ (s3)
            ·rw [if_pos c57] at H
             have oc6 : decide (0 ≤ (s3)) = true:= decide_eq_true c57
             clear c57
             by_cases c58 : (s3) < (g0.length : Int)
             ·rw [if_pos c58] at H
              have mc6 : decide ((s3) < (g0.length : Int)) = true:= decide_eq_true c58
              clear c58
              by_cases c59 : 0 ≤ g2
              ·rw [if_pos c59] at H
               have kc6 : decide (0 ≤ g2) = true:= decide_eq_true c59
               clear c59
               by_cases c60 : g2 < (g0.length : Int)
               ·rw [if_pos c60] at H
                have jc6 : decide (g2 < (g0.length : Int)) = true:= decide_eq_true c60
                clear c60
                obtain ⟨ba2,q8⟩ : ∃ y_ : List Int,y_ = (g0.set (g2 : Int).toNat (rd g0 (s3))):= ⟨_,rfl⟩
                replace H : (if (s3) < (d0.length : Int) then (if g2 < (d0.length : Int) then ((impl_Cracker_put.f g2 (s3)).bind fun z7 => (impl_RippleDelete.l0 k2 s3 (rd z1 v3) (wrap64 (q4 + z7)) (z3.length : Int) (wrap64 (s0 + 1)) ba2 (d0.set (g2 : Int).toNat (rd d0 (s3))) (b0.set (s0 : Int).toNat (⟨(rd_T50 b0 s0).f0,s3⟩ : S50)))) else (none)) else (none)) = some (r1,r2,r3,r4,r5):= by first|(rw [q8];with_reducible exact H)|(have H2_:= (Option.bind_some _ _).symm.trans H;rw [q8];with_reducible exact H2_)|(have H2_:= (Option.bind_some _ _).symm.trans H;with_reducible exact H2_)|with_reducible exact H|(rw [q8];exact H)|exact H
                have va7:= mk q8
                clear q8
                by_cases c62 : (s3) < (d0.length : Int)
                ·rw [if_pos c62] at H
                 have gc6 : decide ((s3) < (d0.length : Int)) = true:= decide_eq_true c62
                 clear c62
                 by_cases c63 : g2 < (d0.length : Int)
                 ·rw [if_pos c63] at H
                  have dc6 : decide (g2 < (d0.length : Int)) = true:= decide_eq_true c63
                  clear c63
                  obtain ⟨aa6,o8⟩ : ∃ y_ : List Int,y_ = (d0.set (g2 : Int).toNat (rd d0 (s3))):= ⟨_,rfl⟩
                  replace H : ((impl_Cracker_put.f g2 (s3)).bind fun z7 => (impl_RippleDelete.l0 k2 s3 (rd z1 v3) (wrap64 (q4 + z7)) (z3.length : Int) (wrap64 (s0 + 1)) ba2 aa6 (b0.set (s0 : Int).toNat (⟨(rd_T50 b0 s0).f0,s3⟩ : S50)))) = some (r1,r2,r3,r4,r5):= by first|(rw [o8];with_reducible exact H)|(have H2_:= (Option.bind_some _ _).symm.trans H;rw [o8];with_reducible exact H2_)|(have H2_:= (Option.bind_some _ _).symm.trans H;with_reducible exact H2_)|with_reducible exact H|(rw [o8];exact H)|exact H
                  have sa7:= mk o8
                  clear o8
                  replace H:= Option.bind_eq_some_iff.mp H
                  obtain ⟨z7,dc0,H⟩:= H
                  replace H : (impl_RippleDelete.l0 k2 s3 (rd z1 v3) (wrap64 (q4 + z7)) (z3.length : Int) (wrap64 (s0 + 1)) ba2 aa6 (b0.set (s0 : Int).toNat (⟨(rd_T50 b0 s0).f0,s3⟩ : S50))) = some (r1,r2,r3,r4,r5):= H
                  have A65:= mk dc0
                  clear dc0
                  obtain ⟨ya9,m8⟩ : ∃ y_ : List (S50),y_ = (b0.set (s0 : Int).toNat (⟨(rd_T50 b0 s0).f0,s3⟩ : S50)):= ⟨_,rfl⟩
                  replace H : (impl_RippleDelete.l0 k2 s3 (rd z1 v3) (wrap64 (q4 + z7)) (z3.length : Int) (wrap64 (s0 + 1)) ba2 aa6 ya9) = some (r1,r2,r3,r4,r5):= by first|(rw [m8];with_reducible exact H)|(have H2_:= (Option.bind_some _ _).symm.trans H;rw [m8];with_reducible exact H2_)|(have H2_:= (Option.bind_some _ _).symm.trans H;with_reducible exact H2_)|with_reducible exact H|(rw [m8];exact H)|exact H
                  have db6:= mk m8
                  clear m8
                  have H':= mk H
                  clear H
                  have qc2:= j3.out
                  have vc0:= d2.out
                  have oc2:= b4.out
                  have sc0:= b2.out
                  have bb4 : wr.cell? ⟨z0,0,none⟩ = some (v1):= (blk_cell q0.out 0).trans rfl
                  have ab4 : wr.cell? ⟨z0,1,none⟩ = some (s1):= (blk_cell q0.out 1).trans rfl
                  have zb3 : wr.cell? ⟨z0,2,none⟩ = some (j4):= (blk_cell q0.out 2).trans rfl
                  have bb2:= blk_frozen q0.out 0
                  have ab2:= blk_frozen q0.out 1
                  have zb1:= blk_frozen q0.out 2
                  obtain ⟨kd0,o7,sc4⟩:= Kd.R_slice k0.out
                  subst sc4
                  have oa2 : 0 ≤ (s0 : Int):= of_decide_eq_true (by first|(with_reducible assumption)|assumption)
                  have ja2 : s0 < (b0.length : Int):= of_decide_eq_true (by first|(with_reducible assumption)|assumption)
                  obtain ⟨k5,mb5,y8,s8⟩:= at_T50 (Kd.R_reads' k0.out).2.2 s0 oa2 ja2
                  cases mb5
                  have HOs_:= k0
                  have BKs_:= q0
                  injection HU.out with hu1 hu2 hu3
                  have HU2:= mk hu2
                  clear HU hu2
                  subst hu1
                  subst hu3
                  have q33_:= eq_true (show s0 < (z3.length : Int) from of_decide_eq_true (by first|(with_reducible assumption)|assumption))
                  have k0:= HOs_
                  have q0:= BKs_
                  clear HOs_ BKs_
                  replace oa2:= eq_true oa2
                  replace ja2:= eq_true ja2
                  go_wp2_with (first|((with_reducible refine gate_dst (N:= 12) rfl ?_);refine box_event ?hg (N:= 12) ?hd (cs:= #[.int .i64 0,.int .i64 0]) (t:= 50) ?hr ?_;(case hd => rfl);(case hg => rfl);(case hr => first|(go_simp;done)|(go_simp;rfl));intro g1 hg w71 hbox hb;have n0_:= mk (Kd.R_below (up m0.out) hb);have n1_:= mk (Kd.R_below (up o0.out) hb);have n2_:= mk (Kd.R_below (Kd.R_elderB (up k0.out) g1 (Nat.le_of_eq hg.symm)) hb);have n3_:= mk (blk_below (g:= o1) (o:= .cells #[.slice (some q6) z1.length b5,.slice g5 v2.length a5,.slice d5 s2.length z4] 29 (0,0)) (ub v0.out) hb);have n4_:= mk (blk_below (g:= d1) (o:= .cells #[.slice none 0 0,.slice none 0 0,.slice none 0 0] 29 (0,0)) (ub b1.out) hb);have n5_:= mk (blk_below (g:= z0) (o:= .cells #[v1,s1,.slice (some k5) b0.length o7] 29 (0,0)) (ub q0.out) hb);have n6_:= mk (below_step (by repeat (first|(with_reducible first|exact HB.out|apply below_alloc|apply pw_below_drewN|apply below_drew1|refine below_set ?_ m2.out|refine below_set ?_ d3.out|refine below_set ?_ q3.out)|exact HB.out)) hb);have n7_:= mk (hbox);have n8_:= mk ((by rw [hg];exact (below_size (by repeat (first|(with_reducible first|exact HB.out|apply below_alloc|apply pw_below_drewN|apply below_drew1|refine below_set ?_ m2.out|refine below_set ?_ d3.out|refine below_set ?_ q3.out)|exact HB.out))) : w.heap.size ≤ g1));have n9_:= mk ((by rw [hg];exact (below_size (by repeat (first|(with_reducible first|exact HB.out|apply below_alloc|apply pw_below_drewN|apply below_drew1|refine below_set ?_ m2.out|refine below_set ?_ d3.out|refine below_set ?_ q3.out)|exact HB.out))) : w.heap.size ≤ g1));have n10_:= mk ((by rw [hg];exact Nat.ne_of_lt (blk_lt (g:= o1) (o:= .cells #[.slice (some q6) z1.length b5,.slice g5 v2.length a5,.slice d5 s2.length z4] 29 (0,0)) (ub v0.out)) : o1 ≠ g1));have n11_:= mk ((by rw [hg];exact Nat.ne_of_gt (blk_lt (g:= o1) (o:= .cells #[.slice (some q6) z1.length b5,.slice g5 v2.length a5,.slice d5 s2.length z4] 29 (0,0)) (ub v0.out)) : g1 ≠ o1));have n12_:= mk ((by rw [hg];exact Nat.ne_of_lt (blk_lt (g:= d1) (o:= .cells #[.slice none 0 0,.slice none 0 0,.slice none 0 0] 29 (0,0)) (ub b1.out)) : d1 ≠ g1));have n13_:= mk ((by rw [hg];exact Nat.ne_of_gt (blk_lt (g:= d1) (o:= .cells #[.slice none 0 0,.slice none 0 0,.slice none 0 0] 29 (0,0)) (ub b1.out)) : g1 ≠ d1));have n14_:= mk ((by rw [hg];exact Nat.ne_of_lt (blk_lt (g:= z0) (o:= .cells #[v1,s1,.slice (some k5) b0.length o7] 29 (0,0)) (ub q0.out)) : z0 ≠ g1));have n15_:= mk ((by rw [hg];exact Nat.ne_of_gt (blk_lt (g:= z0) (o:= .cells #[v1,s1,.slice (some k5) b0.length o7] 29 (0,0)) (ub q0.out)) : g1 ≠ z0));clear m0;clear o0;clear k0;clear v0;clear b1;clear q0;clear HB;have m0:= n0_;have o0:= n1_;have k0:= n2_;have v0:= n3_;have b1:= n4_;have q0:= n5_;have HB:= n6_;have o2:= n7_;have mb6:= n8_;have aa1:= n9_;have o3:= n10_;have j6:= n11_;have m3:= n12_;have g6:= n13_;have k3:= n14_;have d6:= n15_;clear n0_ n1_ n2_ n3_ n4_ n5_ n6_ n7_ n8_ n9_ n10_ n11_ n12_ n13_ n14_ n15_;clear hb hbox hg;have mc2:= j6.out;have qc0:= o3.out;have kc2:= g6.out;have oc0:= m3.out;have jc2:= d6.out;have mc0:= k3.out;have yb3 : w71.cell? ⟨g1,0,none⟩ = some (.int .i64 0):= (blk_cell o2.out 0).trans rfl;have vb3 : w71.cell? ⟨g1,1,none⟩ = some (.int .i64 0):= (blk_cell o2.out 1).trans rfl;have yb1:= blk_frozen o2.out 0;have vb1:= blk_frozen o2.out 1)|((with_reducible refine gate_store (t:= 50) (p:= 12) rfl ?_);refine store_event (t:= 50) (p:= 12) (v:= ?vo_w76) (w1:= ((w71.setCell ⟨g1,0,none⟩ (.int .i64 ((rd_T50 b0 s0).f0))).setCell ⟨g1,1,none⟩ (.int .i64 ((rd_T50 b0 s0).f1)))) ?hg ?ho ?hn ?hr ?_;(case ho => rfl);(case hg => rfl);(case hn => rfl);(case hr => first|(go_simp;done)|(go_simp;rfl));intro w76 hw;have n0_ : Aside0 (Kd.R (Kd.int .i64) 3 w76 w.heap.size (fun k_ => some k_ ≠ (s1 : Value).ownBlock) v1 g0):= ⟨(by rw [hw];exact (by exact up (Kd.R_mono (Kd.R_far (p:= ⟨g1,1,none⟩) (Kd.R_far (p:= ⟨g1,0,none⟩) (Kd.R_types m0.out o2.out (by decide)) (fun _ hk => hk.2) (.int .i64 ((rd_T50 b0 s0).f0))) (fun _ hk => hk.2) (.int .i64 ((rd_T50 b0 s0).f1))) (fun _ hk => hk.1))))⟩;have n1_ : Aside0 (Kd.R (Kd.int .i64) 3 w76 w.heap.size (fun k_ => some k_ ≠ (v1 : Value).ownBlock) s1 d0):= ⟨(by rw [hw];exact (by exact up (Kd.R_mono (Kd.R_far (p:= ⟨g1,1,none⟩) (Kd.R_far (p:= ⟨g1,0,none⟩) (Kd.R_types o0.out o2.out (by decide)) (fun _ hk => hk.2) (.int .i64 ((rd_T50 b0 s0).f0))) (fun _ hk => hk.2) (.int .i64 ((rd_T50 b0 s0).f1))) (fun _ hk => hk.1))))⟩;have n2_ : Aside0 (Kd.R k50 50 w76 w.heap.size (fun k_ => k_ ≠ g1) (.slice (some k5) b0.length o7) b0):= ⟨(by rw [hw];exact (by exact up (Kd.R_mono (Kd.R_far (p:= ⟨g1,1,none⟩) (Kd.R_far (p:= ⟨g1,0,none⟩) (Kd.R_mono k0.out (fun k_ hk => (⟨hk,hk.2⟩ : _ ∧ k_ ≠ g1))) (fun _ hk => hk.2) (.int .i64 ((rd_T50 b0 s0).f0))) (fun _ hk => hk.2) (.int .i64 ((rd_T50 b0 s0).f1))) (fun _ hk => by first|exact hk.1.2|(revert hk;simp only [and_imp];intros;(repeat' (refine And.intro ?_ ?_)) <;> assumption)))))⟩;have n3_ : Aside0 (w76.heap[o1]? = some (.cells #[.slice (some q6) z1.length b5,.slice g5 v2.length a5,.slice d5 s2.length z4] 29 (0,0))):= ⟨(by rw [hw];exact (by (with_reducible repeat (first|refine blk_drewN ?_ _|refine blk_drew ?_|refine blk_alloc ?_ _));refine blk_far ?_ o3.out _;(with_reducible repeat (first|refine blk_drewN ?_ _|refine blk_drew ?_|refine blk_alloc ?_ _));refine blk_far ?_ o3.out _;(with_reducible repeat (first|refine blk_drewN ?_ _|refine blk_drew ?_|refine blk_alloc ?_ _));exact v0.out))⟩;have n4_ : Aside0 (w76.heap[d1]? = some (.cells #[.slice none 0 0,.slice none 0 0,.slice none 0 0] 29 (0,0))):= ⟨(by rw [hw];exact (by (with_reducible repeat (first|refine blk_drewN ?_ _|refine blk_drew ?_|refine blk_alloc ?_ _));refine blk_far ?_ m3.out _;(with_reducible repeat (first|refine blk_drewN ?_ _|refine blk_drew ?_|refine blk_alloc ?_ _));refine blk_far ?_ m3.out _;(with_reducible repeat (first|refine blk_drewN ?_ _|refine blk_drew ?_|refine blk_alloc ?_ _));exact b1.out))⟩;have n5_ : Aside0 (w76.heap[z0]? = some (.cells #[v1,s1,.slice (some k5) b0.length o7] 29 (0,0))):= ⟨(by rw [hw];exact (by (with_reducible repeat (first|refine blk_drewN ?_ _|refine blk_drew ?_|refine blk_alloc ?_ _));refine blk_far ?_ k3.out _;(with_reducible repeat (first|refine blk_drewN ?_ _|refine blk_drew ?_|refine blk_alloc ?_ _));refine blk_far ?_ k3.out _;(with_reducible repeat (first|refine blk_drewN ?_ _|refine blk_drew ?_|refine blk_alloc ?_ _));exact q0.out))⟩;have n6_ : Aside0 (w76.heap[g1]? = some (.cells #[.int .i64 ((rd_T50 b0 s0).f0),.int .i64 ((rd_T50 b0 s0).f1)] 50 (0,0))):= ⟨(by rw [hw];exact (by (with_reducible repeat (first|refine blk_drewN ?_ _|refine blk_drew ?_|refine blk_alloc ?_ _));refine blk_put (cs:= #[.int .i64 ((rd_T50 b0 s0).f0),.int .i64 0]) ?_ 1 _ rfl;(with_reducible repeat (first|refine blk_drewN ?_ _|refine blk_drew ?_|refine blk_alloc ?_ _));refine blk_put (cs:= #[.int .i64 0,.int .i64 0]) ?_ 0 _ rfl;(with_reducible repeat (first|refine blk_drewN ?_ _|refine blk_drew ?_|refine blk_alloc ?_ _));exact o2.out))⟩;have n7_ : Aside0 (Below w.heap.size w w76):= ⟨(by rw [hw];exact (by repeat (first|(with_reducible first|exact HB.out|apply below_alloc|apply pw_below_drewN|apply below_drew1|refine below_set ?_ m2.out|refine below_set ?_ d3.out|refine below_set ?_ q3.out|refine below_set ?_ aa1.out)|exact HB.out)))⟩;clear hw;clear m0;clear o0;clear k0;clear v0;clear b1;clear q0;clear o2;clear HB;have m0:= n0_;have o0:= n1_;have k0:= n2_;have v0:= n3_;have b1:= n4_;have q0:= n5_;have o2:= n6_;have HB:= n7_;clear n0_ n1_ n2_ n3_ n4_ n5_ n6_ n7_;have sb3 : w76.cell? ⟨g1,0,none⟩ = some (.int .i64 ((rd_T50 b0 s0).f0)):= (blk_cell o2.out 0).trans rfl;have qb3 : w76.cell? ⟨g1,1,none⟩ = some (.int .i64 ((rd_T50 b0 s0).f1)):= (blk_cell o2.out 1).trans rfl;have sb1:= blk_frozen o2.out 0;have qb1:= blk_frozen o2.out 1;have ob3 : w76.cell? ⟨z0,0,none⟩ = some (v1):= (blk_cell q0.out 0).trans rfl;have mb3 : w76.cell? ⟨z0,1,none⟩ = some (s1):= (blk_cell q0.out 1).trans rfl;have kb3 : w76.cell? ⟨z0,2,none⟩ = some (.slice (some k5) b0.length o7):= (blk_cell q0.out 2).trans rfl;have ob1:= blk_frozen q0.out 0;have mb1:= blk_frozen q0.out 1;have kb1:= blk_frozen q0.out 2;obtain ⟨jd0,ja6,qc4⟩:= Kd.R_slice m0.out;subst qc4;have zb0 : 0 ≤ ((s3) : Int):= of_decide_eq_true (by first|(with_reducible assumption)|assumption);have kb0 : (s3) < (g0.length : Int):= of_decide_eq_true (by first|(with_reducible assumption)|assumption);obtain ⟨bc7,kc5,da3⟩:= Kd.at_int (Kd.R_reads' m0.out).2.2 (s3) zb0 kb0;cases kc5;replace zb0:= eq_true zb0;replace kb0:= eq_true kb0;have p61 : 0 ≤ (g2 : Int):= of_decide_eq_true (by first|(with_reducible assumption)|assumption);have q61 : (g2 : Int) < ((g0.length : Int) : Int):= of_decide_eq_true (by first|(with_reducible assumption)|assumption);obtain ⟨da6,sc8,gb9,yb8,mc4,bc9,bc0⟩:= Kd.R_form m0.out (by omega);(first|cases gb9|(injection gb9 with ea_ en_ ec_;(first|subst ea_|(injection ea_ with ea_;subst ea_));subst ec_;clear en_));have dd0:= mk yb8;have yc9:= mk bc0;clear yb8 mc4 bc0;(first|simp only [add_plain] at da3|skip);obtain ⟨zb6,db8⟩:= Kd.R_celln 0 m0.out (g2 : Int) p61 q61;replace p61:= eq_true p61;replace q61:= eq_true q61;obtain ⟨hy80_,hz80_⟩:= Kd.R_celln 0 m0.out (g2 : Int) (of_decide_eq_true (by first|(with_reducible assumption)|assumption)) (of_decide_eq_true (by first|(with_reducible assumption)|assumption));have mc9:= Kd.R_putg m0.out (g2 : Int) (rd g0 (s3)))|((with_reducible refine gate_callee (f:= 33) rfl ?_);obtain ⟨gd0,ga6,oc4⟩:= Kd.R_slice o0.out;subst oc4;have yb0 : 0 ≤ ((s3) : Int):= of_decide_eq_true (by first|(with_reducible assumption)|assumption);have jb0 : (s3) < (d0.length : Int):= of_decide_eq_true (by first|(with_reducible assumption)|assumption);obtain ⟨ac7,jc5,ba3⟩:= Kd.at_int (Kd.R_reads' o0.out).2.2 (s3) yb0 jb0;cases jc5;replace yb0:= eq_true yb0;replace jb0:= eq_true jb0;have p64 : 0 ≤ (g2 : Int):= of_decide_eq_true (by first|(with_reducible assumption)|assumption);have q64 : (g2 : Int) < ((d0.length : Int) : Int):= of_decide_eq_true (by first|(with_reducible assumption)|assumption);obtain ⟨ba6,qc8,db9,vb8,kc4,ac9,ac0⟩:= Kd.R_form o0.out (by omega);(first|cases db9|(injection db9 with ea_ en_ ec_;(first|subst ea_|(injection ea_ with ea_;subst ea_));subst ec_;clear en_));have bd0:= mk vb8;have vc9:= mk ac0;clear vb8 kc4 ac0;(first|simp only [add_plain] at ba3|skip);obtain ⟨yb6,bb8⟩:= Kd.R_celln 0 o0.out (g2 : Int) p64 q64;replace p64:= eq_true p64;replace q64:= eq_true q64;refine goesL_ (some 49) rfl rfl Try.func33 (by kernel_rfl) rfl #[.pointer (some ⟨z0,0,none⟩),.int .i64 g2,.int .i64 s3] rfl (by (try simp only [List.map_toArray,List.map_cons,List.map_nil]);first|done|(simp only [a9];rfl)|rfl|(simp only [List.length_drop,List.length_take];rfl)) ?_;(with_reducible refine (impl_Cracker_put.callsS w _ z0 (.slice (some ⟨da6,0,none⟩) g0.length ja6) (.slice (some ⟨ba6,0,none⟩) d0.length ga6) (.slice (some k5) b0.length o7) g0 d0 _ g2 s3 z7 (by repeat (first|(with_reducible first|exact HB.out|apply below_alloc|apply pw_below_drewN|apply below_drew1|refine below_set ?_ m2.out|refine below_set ?_ d3.out|refine below_set ?_ q3.out|refine below_set ?_ aa1.out)|exact HB.out)) ⟨ub q0.out,q3.out,up m0.out,up o0.out,up k0.out⟩ (show 0 ≤ (g2 : Int) from (of_decide_eq_true (by first|(with_reducible assumption)|assumption))) (show (g2 : Int) < (g0.length : Int) from (of_decide_eq_true (by first|(with_reducible assumption)|assumption))) (show (g2 : Int) < (d0.length : Int) from (of_decide_eq_true (by first|(with_reducible assumption)|assumption))) (show 0 ≤ (s3 : Int) from (of_decide_eq_true (by first|(with_reducible assumption)|assumption))) (show (s3 : Int) < (g0.length : Int) from (of_decide_eq_true (by first|(with_reducible assumption)|assumption))) (show (s3 : Int) < (d0.length : Int) from (of_decide_eq_true (by first|(with_reducible assumption)|assumption))) A65.out).mono ?_);rintro e w86 ⟨rfl,hcs,hb,hfar⟩;refine ⟨_,rfl,?_⟩;have n0_:= mk (show Kd.R (Kd.int .i64) 3 w86 w.heap.size (fun k_ => True ∧ some k_ ≠ (.slice (some ⟨ba6,0,none⟩) d0.length ga6 : Value).ownBlock) (.slice (some ⟨da6,0,none⟩) g0.length ja6) ba2 from by rw [va7.out];exact Kd.R_mono hcs.r0 (fun _ hk => ⟨trivial,hk⟩));have n1_:= mk (show Kd.R (Kd.int .i64) 3 w86 w.heap.size (fun k_ => some k_ ≠ (.slice (some ⟨da6,0,none⟩) g0.length ja6 : Value).ownBlock) (.slice (some ⟨ba6,0,none⟩) d0.length ga6) aa6 from by rw [sa7.out];exact hcs.r1);have n2_:= mk (hcs.r2);have n3_:= mk (hfar.at (ub v0.out) (by decide));have n4_:= mk (hfar.at (ub b1.out) (by decide));have n5_:= mk (hcs.blk);have n6_:= mk (hfar.at (ub o2.out) (by decide));have n7_:= mk (hb);have lyy261_ : ba2.length = g0.length:= (by rw [va7.out,List.length_set]);have lyy263_ : aa6.length = d0.length:= (by rw [sa7.out,List.length_set]);clear m0;clear o0;clear k0;clear v0;clear b1;clear q0;clear o2;clear HB;have m0:= n0_;have o0:= n1_;have k0:= n2_;have v0:= n3_;have b1:= n4_;have q0:= n5_;have o2:= n6_;have HB:= n7_;clear n0_ n1_ n2_ n3_ n4_ n5_ n6_ n7_;(try clear hb);(try clear hb2);(try clear hcs);(try clear hfar);have jb3 : w86.cell? ⟨g1,0,none⟩ = some (.int .i64 ((rd_T50 b0 s0).f0)):= (blk_cell o2.out 0).trans rfl;have gb3 : w86.cell? ⟨g1,1,none⟩ = some (.int .i64 ((rd_T50 b0 s0).f1)):= (blk_cell o2.out 1).trans rfl;have jb1:= blk_frozen o2.out 0;have gb1:= blk_frozen o2.out 1;have db3 : w86.cell? ⟨z0,0,none⟩ = some (.slice (some ⟨da6,0,none⟩) g0.length ja6):= (blk_cell q0.out 0).trans rfl;have bb3 : w86.cell? ⟨z0,1,none⟩ = some (.slice (some ⟨ba6,0,none⟩) d0.length ga6):= (blk_cell q0.out 1).trans rfl;have ab3 : w86.cell? ⟨z0,2,none⟩ = some (.slice (some k5) b0.length o7):= (blk_cell q0.out 2).trans rfl;have db1:= blk_frozen q0.out 0;have bb1:= blk_frozen q0.out 1;have ab1:= blk_frozen q0.out 2;have vb0 : 0 ≤ (s0 : Int):= of_decide_eq_true (by first|(with_reducible assumption)|assumption);have gb0 : s0 < (b0.length : Int):= of_decide_eq_true (by first|(with_reducible assumption)|assumption);obtain ⟨bb6,gc5,aa3,za2⟩:= at_T50 (Kd.R_reads' k0.out).2.2 s0 vb0 gb0;obtain rfl : k5 = bb6:= (by injection gc5);replace vb0:= eq_true vb0;replace gb0:= eq_true gb0;have p66 : 0 ≤ (s0 : Int):= of_decide_eq_true (by first|(with_reducible assumption)|assumption);have q66 : (s0 : Int) < ((b0.length : Int) : Int):= of_decide_eq_true (by first|(with_reducible assumption)|assumption);obtain ⟨a8,oc8,bb9,sb8,jc4,zc8,zb9⟩:= Kd.R_form k0.out (by omega);(first|cases bb9|(injection bb9 with ea_ en_ ec_;(first|subst ea_|(injection ea_ with ea_;subst ea_));subst ec_;clear en_));have mc7:= mk sb8;have sc9:= mk zb9;clear sb8 jc4 zb9;(first|simp only [add_plain] at y8|skip);(first|simp only [add_plain] at s8|skip);(first|simp only [add_plain] at aa3|skip);(first|simp only [add_plain] at za2|skip);obtain ⟨gc9,ab5,mb8,ka5,da4⟩:= Kd.R_elem k0.out z50 (s0 : Int) p66 q66;obtain rfl:= k50_openM mb8;have vb6 : w86.cell? ⟨a8,(s0 : Int).toNat * 2,none⟩ = some (.int .i64 ((rd_T50 b0 s0).f0)):= ka5 0 _ rfl;have sb6 : w86.cell? ⟨a8,(s0 : Int).toNat * 2 + 1,none⟩ = some (.int .i64 ((rd_T50 b0 s0).f1)):= ka5 1 _ rfl;have ab8 : w86.frozen? ⟨a8,(s0 : Int).toNat * 2,none⟩ = false:= da4 0;have zb7 : w86.frozen? ⟨a8,(s0 : Int).toNat * 2 + 1,none⟩ = false:= da4 1;clear ab5 ka5 da4 mb8;replace p66:= eq_true p66;replace q66:= eq_true q66;have sb9:= mk (show Kd.R k50 50 w86 w.heap.size (fun k_ => k_ ≠ g1) (.slice (some ⟨a8,0,none⟩) b0.length o7) b0 from (up k0.out));obtain ⟨dc9,da7,kb8,ja5,aa7⟩:= Kd.R_elem sb9.out z50 (s0 : Int) (of_decide_eq_true (by first|(with_reducible assumption)|assumption)) (by have h_ : (s0 : Int) < ((b0.length : Int) : Int):= of_decide_eq_true (by first|(with_reducible assumption)|assumption);first|exact h_|(have e_:= (Kd.R_reads' k0.out).1;omega)|simpa using h_);obtain rfl:= k50_openM kb8;have gb6:= Kd.R_seg sb9.out (s0 : Int) (of_decide_eq_true (by first|(with_reducible assumption)|assumption)) (by have h_ : (s0 : Int) < ((b0.length : Int) : Int):= of_decide_eq_true (by first|(with_reducible assumption)|assumption);first|exact h_|(have e_:= (Kd.R_reads' k0.out).1;omega)|simpa using h_) (seg:= [.int .i64 s3]) (j:= 1) da7 ja5 (show 2 ≤ 2 from by decide) (x':= (⟨(rd_T50 b0 s0).f0,s3⟩ : S50)) (k50_mkM _ _ _ (⟨(rd_T50 b0 s0).f0,s3⟩ : S50) ) (fun _ hk => hk);have oa6:= ja5 1 _ rfl;(try simp only [show (k50).sz = 2 from rfl,Nat.mul_one,Nat.add_zero] at oa6);have ba7:= aa7 1;(try simp only [show (k50).sz = 2 from rfl,Nat.mul_one,Nat.add_zero] at ba7);clear da7 ja5 aa7 kb8)|((with_reducible refine gate_store (t:= 3) (p:= 62) rfl ?_);refine store_event (t:= 3) (p:= 62) (v:= ?vo_w90) (w1:= (w86.setCell ⟨a8,(s0 : Int).toNat * 2 + 1,none⟩ (.int .i64 s3))) ?hg ?ho ?hn ?hr ?_;(case ho => rfl);(case hg => rfl);(case hn => rfl);(case hr => first|(go_simp;done)|(go_simp;rfl));intro w90 hw;have hg : w86.grownBy w90 (some a8):= (by rw [hw];exact gb6.2);have hp_ : Kd.R k50 50 w90 w.heap.size (fun k_ => k_ ≠ g1) (.slice (some ⟨a8,0,none⟩) b0.length o7) ya9:= (by rw [hw,db6.out];exact gb6.1);clear gb6;have n0_:= mk (Kd.R_over' (v:= (.slice (some ⟨a8,0,none⟩) b0.length o7)) (up m0.out) (Kd.R_typed k0.out) (by decide) hg);have n1_:= mk (Kd.R_over' (v:= (.slice (some ⟨a8,0,none⟩) b0.length o7)) (up o0.out) (Kd.R_typed k0.out) (by decide) hg);have n2_:= mk (hp_);have n3_:= mk (blk_grown (g:= o1) (o:= .cells #[.slice (some q6) z1.length b5,.slice g5 v2.length a5,.slice d5 s2.length z4] 29 (0,0)) (ub v0.out) hg (Kd.R_ne k0.out v0.out (by decide)));have n4_:= mk (blk_grown (g:= d1) (o:= .cells #[.slice none 0 0,.slice none 0 0,.slice none 0 0] 29 (0,0)) (ub b1.out) hg (Kd.R_ne k0.out b1.out (by decide)));have n5_:= mk (blk_grown (g:= z0) (o:= .cells #[.slice (some ⟨da6,0,none⟩) g0.length ja6,.slice (some ⟨ba6,0,none⟩) d0.length ga6,.slice (some ⟨a8,0,none⟩) b0.length o7] 29 (0,0)) (ub q0.out) hg (Kd.R_ne k0.out q0.out (by decide)));have n6_:= mk (blk_grown (g:= g1) (o:= .cells #[.int .i64 ((rd_T50 b0 s0).f0),.int .i64 ((rd_T50 b0 s0).f1)] 50 (0,0)) (ub o2.out) hg (Kd.R_away k0.out (fun _ hk => hk)));have n7_:= mk ((by rw [hw];exact below_set (HB.out) mc7.out : Below w.heap.size w w90));clear m0;clear o0;clear k0;clear v0;clear b1;clear q0;clear o2;clear HB;have m0:= n0_;have o0:= n1_;have k0:= n2_;have v0:= n3_;have b1:= n4_;have q0:= n5_;have o2:= n6_;have HB:= n7_;clear n0_ n1_ n2_ n3_ n4_ n5_ n6_ n7_;clear hg hw hp_))
                  go_roundg k2
                  case measure => have:= HJ4.out;have:= HK2.out;omega
                  case rel => exact ⟨(s3),(wrap64 (q4 + z7)),(wrap64 (s0 + 1)),(ba2),(aa6),(ya9),(.slice (some ⟨da6,0,none⟩) g0.length ja6),(.slice (some ⟨ba6,0,none⟩) d0.length ga6),(.slice (some ⟨a8,0,none⟩) b0.length o7),(by first|rfl|(simp;done)|(simp only [← a9] <;> (first|rfl|simp))|(simp [*];done)),(by first|rfl|(simp;done)|(simp [*];done)),(by first|rfl|(simp;done)|(simp [*];done)),H',⟨by rw [HU2.out]⟩,⟨by have:= HJ4.out;have:= HK2.out;omega⟩,⟨by exact up (Kd.R_mono m0.out (fun _ hk => hk.2))⟩,⟨up o0.out⟩,⟨by exact up (Kd.R_mono k0.out (fun _ hk => trivial))⟩,⟨ub v0.out⟩,⟨ub b1.out⟩,⟨ub q0.out⟩,⟨by repeat (first|(with_reducible first|exact HB.out|apply below_alloc|apply pw_below_drewN|apply below_drew1|refine below_set ?_ m2.out|refine below_set ?_ d3.out|refine below_set ?_ q3.out|refine below_set ?_ aa1.out)|exact HB.out)⟩⟩
                 ·rw [if_neg c63] at H
                  exact absurd H (by simp)
                ·rw [if_neg c62] at H
                 exact absurd H (by simp)
               ·rw [if_neg c60] at H
                exact absurd H (by simp)
              ·rw [if_neg c59] at H
               exact absurd H (by simp)
             ·rw [if_neg c58] at H
              exact absurd H (by simp)
            ·rw [if_neg c57] at H
             exact absurd H (by simp)
          ·rw [if_neg c45] at H
           exact absurd H (by simp)
         ·rw [if_neg c44] at H
          exact absurd H (by simp)
        ·rw [if_neg c43] at H
         have sb5 : decide (s0 < (z3.length : Int)) = false:= decide_eq_false c43
         clear c43
         obtain ⟨j2,z8⟩ : ∃ j_ : Int,(wrap64 ((g0.length : Int) - 1)) = j_:= ⟨_,rfl⟩
         replace H : (if 0 ≤ (j2) then (if (j2) < (g0.length : Int) then (if 0 ≤ g2 then (if g2 < (g0.length : Int) then (if (j2) < (d0.length : Int) then (if g2 < (d0.length : Int) then ((impl_Cracker_put.f g2 (j2)).bind fun v7 => (if (j2) ≤ (g0.length : Int) then (if (j2) ≤ (d0.length : Int) then (some (((g0.set (g2 : Int).toNat (rd g0 (j2))).take ((j2) : Int).toNat),((d0.set (g2 : Int).toNat (rd d0 (j2))).take ((j2) : Int).toNat),b0,wrap64 (q4 + v7),true)) else (none)) else (none))) else (none)) else (none)) else (none)) else (none)) else (none)) else (none)) = some (r1,r2,r3,r4,r5):= by first|(rw [z8] at H;exact H)|(simp only [z8] at H ⊢;exact H)
         have mb7 : (IntKind.i64.wrap ((g0.length : Int) - 1)) = j2:= (i64_w _).trans z8
         by_cases c92 : 0 ≤ (j2)
         ·rw [if_pos c92] at H
          have zc5 : decide (0 ≤ (j2)) = true:= decide_eq_true c92
          clear c92
          by_cases c93 : (j2) < (g0.length : Int)
          ·rw [if_pos c93] at H
           have yc5 : decide ((j2) < (g0.length : Int)) = true:= decide_eq_true c93
           clear c93
           by_cases c94 : 0 ≤ g2
           ·rw [if_pos c94] at H
            have vc5 : decide (0 ≤ g2) = true:= decide_eq_true c94
            clear c94
            by_cases c95 : g2 < (g0.length : Int)
            ·rw [if_pos c95] at H
             have sc5 : decide (g2 < (g0.length : Int)) = true:= decide_eq_true c95
             clear c95
             obtain ⟨za5,k8⟩ : ∃ y_ : List Int,y_ = (g0.set (g2 : Int).toNat (rd g0 (j2))):= ⟨_,rfl⟩
             replace H : (if (j2) < (d0.length : Int) then (if g2 < (d0.length : Int) then ((impl_Cracker_put.f g2 (j2)).bind fun v7 => (if (j2) ≤ (g0.length : Int) then (if (j2) ≤ (d0.length : Int) then (some ((za5.take ((j2) : Int).toNat),((d0.set (g2 : Int).toNat (rd d0 (j2))).take ((j2) : Int).toNat),b0,wrap64 (q4 + v7),true)) else (none)) else (none))) else (none)) else (none)) = some (r1,r2,r3,r4,r5):= by first|(rw [k8];with_reducible exact H)|(have H2_:= (Option.bind_some _ _).symm.trans H;rw [k8];with_reducible exact H2_)|(have H2_:= (Option.bind_some _ _).symm.trans H;with_reducible exact H2_)|with_reducible exact H|(rw [k8];exact H)|exact H
             have qa7:= mk k8
             clear k8
             by_cases c97 : (j2) < (d0.length : Int)
             ·rw [if_pos c97] at H
              have qc5 : decide ((j2) < (d0.length : Int)) = true:= decide_eq_true c97
              clear c97
              by_cases c98 : g2 < (d0.length : Int)
              ·rw [if_pos c98] at H
               have oc5 : decide (g2 < (d0.length : Int)) = true:= decide_eq_true c98
               clear c98
               obtain ⟨ya5,j8⟩ : ∃ y_ : List Int,y_ = (d0.set (g2 : Int).toNat (rd d0 (j2))):= ⟨_,rfl⟩
               replace H : ((impl_Cracker_put.f g2 (j2)).bind fun v7 => (if (j2) ≤ (g0.length : Int) then (if (j2) ≤ (d0.length : Int) then (some ((za5.take ((j2) : Int).toNat),(ya5.take ((j2) : Int).toNat),b0,wrap64 (q4 + v7),true)) else (none)) else (none))) = some (r1,r2,r3,r4,r5):= by first|(rw [j8];with_reducible exact H)|(have H2_:= (Option.bind_some _ _).symm.trans H;rw [j8];with_reducible exact H2_)|(have H2_:= (Option.bind_some _ _).symm.trans H;with_reducible exact H2_)|with_reducible exact H|(rw [j8];exact H)|exact H
               have oa7:= mk j8
               clear j8
               replace H:= Option.bind_eq_some_iff.mp H
               obtain ⟨v7,aa8,H⟩:= H
               replace H : (if (j2) ≤ (g0.length : Int) then (if (j2) ≤ (d0.length : Int) then (some ((za5.take ((j2) : Int).toNat),(ya5.take ((j2) : Int).toNat),b0,wrap64 (q4 + v7),true)) else (none)) else (none)) = some (r1,r2,r3,r4,r5):= H
               have sc7:= mk aa8
               clear aa8
               by_cases ja7 : (j2) ≤ (g0.length : Int)
               ·rw [if_pos ja7] at H
                have qb9:= eq_true ja7
                have ob9 : decide ((j2) ≤ (g0.length : Int)) = true:= decide_eq_true ja7
                clear ja7
                obtain ⟨s7,g8⟩ : ∃ y_ : List Int,y_ = (za5.take ((j2) : Int).toNat):= ⟨_,rfl⟩
                replace H : (if (j2) ≤ (d0.length : Int) then (some (s7,(ya5.take ((j2) : Int).toNat),b0,wrap64 (q4 + v7),true)) else (none)) = some (r1,r2,r3,r4,r5):= by first|(rw [g8];with_reducible exact H)|(have H2_:= (Option.bind_some _ _).symm.trans H;rw [g8];with_reducible exact H2_)|(have H2_:= (Option.bind_some _ _).symm.trans H;with_reducible exact H2_)|with_reducible exact H|(rw [g8];exact H)|exact H
                have ma7:= mk g8
                clear g8
                by_cases ga7 : (j2) ≤ (d0.length : Int)
                ·rw [if_pos ga7] at H
                 have mb9:= eq_true ga7
                 have kb9 : decide ((j2) ≤ (d0.length : Int)) = true:= decide_eq_true ga7
                 clear ga7
                 obtain ⟨ba1,d8⟩ : ∃ y_ : List Int,y_ = (ya5.take ((j2) : Int).toNat):= ⟨_,rfl⟩
                 replace H : (some (s7,ba1,b0,wrap64 (q4 + v7),true)) = some (r1,r2,r3,r4,r5):= by first|(rw [d8];with_reducible exact H)|(have H2_:= (Option.bind_some _ _).symm.trans H;rw [d8];with_reducible exact H2_)|(have H2_:= (Option.bind_some _ _).symm.trans H;with_reducible exact H2_)|with_reducible exact H|(rw [d8];exact H)|exact H
                 have ka7:= mk d8
                 clear d8
                 simp only [Option.some.injEq,Prod.mk.injEq] at H
                 obtain ⟨rfl,rfl,rfl,rfl,rfl⟩:= H
                 have kb7:= j3.out
                 have db7:= d2.out
                 have jb7:= b4.out
                 have bb7:= b2.out
                 have oa9 : wr.cell? ⟨z0,0,none⟩ = some (v1):= (blk_cell q0.out 0).trans rfl
                 have ma9 : wr.cell? ⟨z0,1,none⟩ = some (s1):= (blk_cell q0.out 1).trans rfl
                 have ka9 : wr.cell? ⟨z0,2,none⟩ = some (j4):= (blk_cell q0.out 2).trans rfl
                 have ya8:= blk_frozen q0.out 0
                 have va8:= blk_frozen q0.out 1
                 have sa8:= blk_frozen q0.out 2
                 obtain ⟨qc7,j5,gb5⟩:= Kd.R_slice m0.out
                 subst gb5
                 have sb0 : 0 ≤ ((j2) : Int):= of_decide_eq_true (by first|(with_reducible assumption)|assumption)
                 have db0 : (j2) < (g0.length : Int):= of_decide_eq_true (by first|(with_reducible assumption)|assumption)
                 obtain ⟨zc6,dc5,ya2⟩:= Kd.at_int (Kd.R_reads' m0.out).2.2 (j2) sb0 db0
                 cases dc5
                 replace sb0:= eq_true sb0
                 replace db0:= eq_true db0
                 have p96 : 0 ≤ (g2 : Int):= of_decide_eq_true (by first|(with_reducible assumption)|assumption)
                 have q96 : (g2 : Int) < ((g0.length : Int) : Int):= of_decide_eq_true (by first|(with_reducible assumption)|assumption)
                 obtain ⟨m7,mc8,ab9,qb8,gc4,yc8,yb9⟩:= Kd.R_form m0.out (by omega)
                 (first|cases ab9|(injection ab9 with ea_ en_ ec_;(first|subst ea_|(injection ea_ with ea_;subst ea_));subst ec_;clear en_))
                 have ad0:= mk qb8
                 have qc9:= mk yb9
                 clear qb8 gc4 yb9
                 (first|simp only [add_plain] at ya2|skip)
                 obtain ⟨qb6,yb7⟩:= Kd.R_celln 0 m0.out (g2 : Int) p96 q96
                 replace p96:= eq_true p96
                 replace q96:= eq_true q96
                 have dc7:= Kd.R_putg m0.out (g2 : Int) (rd g0 (j2))
                 go_wp2_with (first|((with_reducible refine gate_callee (f:= 33) rfl ?_);obtain ⟨oc7,q5,db5⟩:= Kd.R_slice o0.out;subst db5;have qb0 : 0 ≤ ((j2) : Int):= of_decide_eq_true (by first|(with_reducible assumption)|assumption);have bb0 : (j2) < (d0.length : Int):= of_decide_eq_true (by first|(with_reducible assumption)|assumption);obtain ⟨yc6,bc5,va2⟩:= Kd.at_int (Kd.R_reads' o0.out).2.2 (j2) qb0 bb0;cases bc5;replace qb0:= eq_true qb0;replace bb0:= eq_true bb0;have p99 : 0 ≤ (g2 : Int):= of_decide_eq_true (by first|(with_reducible assumption)|assumption);have q99 : (g2 : Int) < ((d0.length : Int) : Int):= of_decide_eq_true (by first|(with_reducible assumption)|assumption);obtain ⟨q7,kc8,zb8,ob8,dc4,vc8,vb9⟩:= Kd.R_form o0.out (by omega);(first|cases zb8|(injection zb8 with ea_ en_ ec_;(first|subst ea_|(injection ea_ with ea_;subst ea_));subst ec_;clear en_));have zc9:= mk ob8;have oc9:= mk vb9;clear ob8 dc4 vb9;(first|simp only [add_plain] at va2|skip);obtain ⟨ob6,vb7⟩:= Kd.R_celln 0 o0.out (g2 : Int) p99 q99;replace p99:= eq_true p99;replace q99:= eq_true q99;refine goesL_ (some 71) rfl rfl Try.func33 (by kernel_rfl) rfl #[.pointer (some ⟨z0,0,none⟩),.int .i64 g2,.int .i64 j2] rfl (by (try simp only [List.map_toArray,List.map_cons,List.map_nil]);first|done|(simp only [z8];rfl)|rfl|(simp only [List.length_drop,List.length_take];rfl)) ?_;(with_reducible refine (impl_Cracker_put.callsS w _ z0 (.slice (some ⟨m7,0,none⟩) g0.length j5) (.slice (some ⟨q7,0,none⟩) d0.length q5) (j4) g0 d0 _ g2 j2 v7 (by repeat (first|(with_reducible first|exact HB.out|apply below_alloc|apply pw_below_drewN|apply below_drew1|refine below_set ?_ m2.out|refine below_set ?_ d3.out|refine below_set ?_ q3.out)|exact HB.out)) ⟨ub q0.out,q3.out,up m0.out,up o0.out,up k0.out⟩ (show 0 ≤ (g2 : Int) from (of_decide_eq_true (by first|(with_reducible assumption)|assumption))) (show (g2 : Int) < (g0.length : Int) from (of_decide_eq_true (by first|(with_reducible assumption)|assumption))) (show (g2 : Int) < (d0.length : Int) from (of_decide_eq_true (by first|(with_reducible assumption)|assumption))) (show 0 ≤ (j2 : Int) from (of_decide_eq_true (by first|(with_reducible assumption)|assumption))) (show (j2 : Int) < (g0.length : Int) from (of_decide_eq_true (by first|(with_reducible assumption)|assumption))) (show (j2 : Int) < (d0.length : Int) from (of_decide_eq_true (by first|(with_reducible assumption)|assumption))) sc7.out).mono ?_);rintro e sa1 ⟨rfl,hcs,hb,hfar⟩;refine ⟨_,rfl,?_⟩;have n0_:= mk (show Kd.R (Kd.int .i64) 3 sa1 w.heap.size (fun k_ => True ∧ some k_ ≠ (.slice (some ⟨q7,0,none⟩) d0.length q5 : Value).ownBlock) (.slice (some ⟨m7,0,none⟩) g0.length j5) za5 from by rw [qa7.out];exact Kd.R_mono hcs.r0 (fun _ hk => ⟨trivial,hk⟩));have n1_:= mk (show Kd.R (Kd.int .i64) 3 sa1 w.heap.size (fun k_ => some k_ ≠ (.slice (some ⟨m7,0,none⟩) g0.length j5 : Value).ownBlock) (.slice (some ⟨q7,0,none⟩) d0.length q5) ya5 from by rw [oa7.out];exact hcs.r1);have n2_:= mk (hcs.r2);have n3_:= mk (hfar.at (ub v0.out) (by decide));have n4_:= mk (hfar.at (ub b1.out) (by decide));have n5_:= mk (hcs.blk);have n6_:= mk (hb);have lyy268_ : za5.length = g0.length:= (by rw [qa7.out,List.length_set]);have lyy270_ : ya5.length = d0.length:= (by rw [oa7.out,List.length_set]);clear m0;clear o0;clear k0;clear v0;clear b1;clear q0;clear HB;have m0:= n0_;have o0:= n1_;have k0:= n2_;have v0:= n3_;have b1:= n4_;have q0:= n5_;have HB:= n6_;clear n0_ n1_ n2_ n3_ n4_ n5_ n6_;(try clear hb);(try clear hb2);(try clear hcs);(try clear hfar);have ja9 : sa1.cell? ⟨z0,0,none⟩ = some (.slice (some ⟨m7,0,none⟩) g0.length j5):= (blk_cell q0.out 0).trans rfl;have ga9 : sa1.cell? ⟨z0,1,none⟩ = some (.slice (some ⟨q7,0,none⟩) d0.length q5):= (blk_cell q0.out 1).trans rfl;have da9 : sa1.cell? ⟨z0,2,none⟩ = some (j4):= (blk_cell q0.out 2).trans rfl;have qa8:= blk_frozen q0.out 0;have oa8:= blk_frozen q0.out 1;have ma8:= blk_frozen q0.out 2;have ob0 : ((j2) : Int) ≤ ((g0.length : Int) : Int):= of_decide_eq_true (by first|(with_reducible assumption)|assumption);obtain ⟨kc0,ya1,_,sa6,_⟩:= info_parts info3;have ga5:= cut_to (P:= Try.prog) 22 3 .i64 Try.underlying22 ya1 (some ⟨m7,0,none⟩) g0.length j5 (j2) (of_decide_eq_true (by first|(with_reducible assumption)|assumption)) ob0 (Kd.R_reads' m0.out).2.1;have ka1:= Kd.R_take (m:= ((j2) : Int).toNat) m0.out (by omega);have ma6 : s7.length = ((j2) : Int).toNat:= (by rw [ma7.out,List.length_take];omega);rw [← ma7.out] at ka1;rw [← ma6] at ka1 ga5;clear ma6 ya1 sa6 m0;have kb6:= mk ka1;clear ka1;replace ob0:= eq_true ob0;have mb0 : ((j2) : Int) ≤ ((d0.length : Int) : Int):= of_decide_eq_true (by first|(with_reducible assumption)|assumption);obtain ⟨jc0,va1,_,qa6,_⟩:= info_parts info3;have da5:= cut_to (P:= Try.prog) 22 3 .i64 Try.underlying22 va1 (some ⟨q7,0,none⟩) d0.length q5 (j2) (of_decide_eq_true (by first|(with_reducible assumption)|assumption)) mb0 (Kd.R_reads' o0.out).2.1;have ja1:= Kd.R_take (m:= ((j2) : Int).toNat) o0.out (by omega);have ka6 : ba1.length = ((j2) : Int).toNat:= (by rw [ka7.out,List.length_take];omega);rw [← ka7.out] at ja1;rw [← ka6] at ja1 da5;clear ka6 va1 qa6 o0;have jb6:= mk ja1;clear ja1;replace mb0:= eq_true mb0;have gb7:= d4.out;have ab7:= g4.out;have ba9 : sa1.cell? ⟨d1,0,none⟩ = some (.slice none 0 0):= (blk_cell b1.out 0).trans rfl;have aa9 : sa1.cell? ⟨d1,1,none⟩ = some (.slice none 0 0):= (blk_cell b1.out 1).trans rfl;have za8 : sa1.cell? ⟨d1,2,none⟩ = some (.slice none 0 0):= (blk_cell b1.out 2).trans rfl;have ka8:= blk_frozen b1.out 0;have ja8:= blk_frozen b1.out 1;have ga8:= blk_frozen b1.out 2;obtain ⟨qa1,ma1,bb5⟩:= Kd.R_slice k0.out;subst bb5))
                 go_region
                 go_wp2
                 refine bodyPost_ret (results_ctt rfl _ _ d1 29 #[.slice (some ⟨m7,0,none⟩) s7.length j5,.slice (some ⟨q7,0,none⟩) ba1.length q5,.slice qa1 b0.length ma1] (0,0) _ rfl (by (with_reducible repeat (first|refine blk_drewN ?_ _|refine blk_drew ?_|refine blk_alloc ?_ _));refine blk_put (cs:= #[.slice (some ⟨m7,0,none⟩) s7.length j5,.slice (some ⟨q7,0,none⟩) ba1.length q5,.slice none 0 0]) ?_ 2 _ rfl;(with_reducible repeat (first|refine blk_drewN ?_ _|refine blk_drew ?_|refine blk_alloc ?_ _));refine blk_put (cs:= #[.slice (some ⟨m7,0,none⟩) s7.length j5,.slice none 0 0,.slice none 0 0]) ?_ 1 _ rfl;(with_reducible repeat (first|refine blk_drewN ?_ _|refine blk_drew ?_|refine blk_alloc ?_ _));refine blk_put (cs:= #[.slice none 0 0,.slice none 0 0,.slice none 0 0]) ?_ 0 _ rfl;(with_reducible repeat (first|refine blk_drewN ?_ _|refine blk_drew ?_|refine blk_alloc ?_ _));refine blk_far ?_ b2.out _;(with_reducible repeat (first|refine blk_drewN ?_ _|refine blk_drew ?_|refine blk_alloc ?_ _));refine blk_far ?_ b2.out _;(with_reducible repeat (first|refine blk_drewN ?_ _|refine blk_drew ?_|refine blk_alloc ?_ _));exact b1.out) Try.underlying29 rfl (by kernel_rfl)) rfl ?_
                 exact ⟨_,_,_,by first|rfl|(simp [errW_none,errW_some] <;> rfl)|(simp only [← z8];first|rfl|(simp [errW_none,errW_some] <;> rfl))|(simp [*,errW_none,errW_some] <;> rfl),by exact up (Kd.R_mono (Kd.R_far (p:= ⟨d1,2,none⟩) (Kd.R_far (p:= ⟨d1,1,none⟩) (Kd.R_far (p:= ⟨d1,0,none⟩) (Kd.R_far (p:= ⟨z0,1,none⟩) (Kd.R_far (p:= ⟨z0,0,none⟩) (Kd.R_types (Kd.R_types kb6.out q0.out (by decide)) b1.out (by decide)) (fun _ hk => by first|exact hk.1.2|(revert hk;simp only [and_imp];intros;(repeat' (refine And.intro ?_ ?_)) <;> assumption)) (.slice (some ⟨m7,0,none⟩) s7.length j5)) (fun _ hk => by first|exact hk.1.2|(revert hk;simp only [and_imp];intros;(repeat' (refine And.intro ?_ ?_)) <;> assumption)) (.slice (some ⟨q7,0,none⟩) ba1.length q5)) (fun _ hk => hk.2) (.slice (some ⟨m7,0,none⟩) s7.length j5)) (fun _ hk => hk.2) (.slice (some ⟨q7,0,none⟩) ba1.length q5)) (fun _ hk => hk.2) (.slice qa1 b0.length ma1)) (fun _ hk => by first|exact hk.1.1.2|(revert hk;simp only [and_imp];intros;(repeat' (refine And.intro ?_ ?_)) <;> assumption))),by exact up (Kd.R_mono (Kd.R_far (p:= ⟨d1,2,none⟩) (Kd.R_far (p:= ⟨d1,1,none⟩) (Kd.R_far (p:= ⟨d1,0,none⟩) (Kd.R_far (p:= ⟨z0,1,none⟩) (Kd.R_far (p:= ⟨z0,0,none⟩) (Kd.R_types (Kd.R_types jb6.out q0.out (by decide)) b1.out (by decide)) (fun _ hk => by first|exact hk.1.2|(revert hk;simp only [and_imp];intros;(repeat' (refine And.intro ?_ ?_)) <;> assumption)) (.slice (some ⟨m7,0,none⟩) s7.length j5)) (fun _ hk => by first|exact hk.1.2|(revert hk;simp only [and_imp];intros;(repeat' (refine And.intro ?_ ?_)) <;> assumption)) (.slice (some ⟨q7,0,none⟩) ba1.length q5)) (fun _ hk => hk.2) (.slice (some ⟨m7,0,none⟩) s7.length j5)) (fun _ hk => hk.2) (.slice (some ⟨q7,0,none⟩) ba1.length q5)) (fun _ hk => hk.2) (.slice qa1 b0.length ma1)) (fun _ hk => by first|exact hk.1.1|(revert hk;simp only [and_imp];intros;(repeat' (refine And.intro ?_ ?_)) <;> assumption))),by exact up (Kd.R_mono (Kd.R_far (p:= ⟨d1,2,none⟩) (Kd.R_far (p:= ⟨d1,1,none⟩) (Kd.R_far (p:= ⟨d1,0,none⟩) (Kd.R_far (p:= ⟨z0,1,none⟩) (Kd.R_far (p:= ⟨z0,0,none⟩) (Kd.R_types (Kd.R_types k0.out q0.out (by decide)) b1.out (by decide)) (fun _ hk => by first|exact hk.1.2|(revert hk;simp only [and_imp];intros;(repeat' (refine And.intro ?_ ?_)) <;> assumption)) (.slice (some ⟨m7,0,none⟩) s7.length j5)) (fun _ hk => by first|exact hk.1.2|(revert hk;simp only [and_imp];intros;(repeat' (refine And.intro ?_ ?_)) <;> assumption)) (.slice (some ⟨q7,0,none⟩) ba1.length q5)) (fun _ hk => hk.2) (.slice (some ⟨m7,0,none⟩) s7.length j5)) (fun _ hk => hk.2) (.slice (some ⟨q7,0,none⟩) ba1.length q5)) (fun _ hk => hk.2) (.slice qa1 b0.length ma1)) (fun _ hk => trivial)),by repeat (first|(with_reducible first|exact HB.out|apply below_alloc|apply pw_below_drewN|apply below_drew1|refine below_set ?_ m2.out|refine below_set ?_ d3.out|refine below_set ?_ q3.out)|exact HB.out)⟩
                ·rw [if_neg ga7] at H
                 exact absurd H (by simp)
               ·rw [if_neg ja7] at H
                exact absurd H (by simp)
              ·rw [if_neg c98] at H
               exact absurd H (by simp)
             ·rw [if_neg c97] at H
              exact absurd H (by simp)
            ·rw [if_neg c95] at H
             exact absurd H (by simp)
           ·rw [if_neg c94] at H
            exact absurd H (by simp)
          ·rw [if_neg c93] at H
           exact absurd H (by simp)
         ·rw [if_neg c92] at H
          exact absurd H (by simp)
     ·rw [if_neg c37] at H
      exact absurd H (by simp)
    ·rw [if_neg c36] at H
     exact absurd H (by simp)

/-! ### laws_eqIntS: function 34 -/
def laws_eqIntS.l0 : Nat → List Int → List Int → Int → Option (Bool)
  | 0, _, _, _ => none
  | k + 1, x0, x1, x5 => if x5 < (x0.length : Int) then (if 0 ≤ x5 then (if x5 < (x1.length : Int) then (if (rd x0 x5) = (rd x1 x5) then (laws_eqIntS.l0 k x0 x1 (wrap64 (x5 + 1))) else (some false)) else (none)) else (none)) else (some true)
def laws_eqIntS.f (k : Nat) (l0 : List Int) (l1 : List Int) : Option (Bool) := if (l0.length : Int) = (l1.length : Int) then (laws_eqIntS.l0 k l0 l1 0) else (some false)
theorem laws_eqIntS.mono_l : ∀ k, (∀ y0 y1 y2, LeO (laws_eqIntS.l0 k y0 y1 y2) (laws_eqIntS.l0 (k + 1) y0 y1 y2))
  | 0 => fun _ _ _ r h => by simp [laws_eqIntS.l0] at h
  | k + 1 => by
    have ih0 := laws_eqIntS.mono_l k
    · intro y0 y1 y2
      unfold laws_eqIntS.l0
      repeat' first
      | (with_reducible exact ih0 _ _ _)
      | (with_reducible exact LeO.refl _)
      | (with_reducible exact LeO.none _)
      | (with_reducible refine LeO.ite ?_ ?_)
      | (with_reducible refine LeO.bind ?_ (fun _ => ?_))
      | exact ih0 _ _ _
      | exact LeO.none _
      | refine LeO.ite ?_ ?_
      | refine LeO.bind ?_ (fun _ => ?_)
theorem laws_eqIntS.mono : ∀ a0 a1 k, LeO (laws_eqIntS.f k a0 a1) (laws_eqIntS.f (k + 1) a0 a1) := by
  intro a0 a1 k
  have ih0:= laws_eqIntS.mono_l k
  unfold laws_eqIntS.f
  repeat' first
     |(with_reducible exact ih0 _ _ _)
     |(with_reducible exact LeO.refl _)
     |(with_reducible exact LeO.none _)
     |(with_reducible refine LeO.ite ?_ ?_)
     |(with_reducible refine LeO.bind ?_ (fun _ => ?_))
     |exact ih0 _ _ _
     |exact LeO.none _
     |refine LeO.ite ?_ ?_
     |refine LeO.bind ?_ (fun _ => ?_)
set_option maxHeartbeats 8000000 in
set_option maxRecDepth 100000 in
theorem laws_eqIntS.calls (k : Nat) (A0 : Option Addr) (c0 : Nat) (l0 : List Int) (A1 : Option Addr) (c1 : Nat) (l1 : List Int) (r : Bool) (w : World) (hr0 : Kd.C (Kd.int .i64) w A0 l0.length l0) (hc0 : l0.length ≤ c0) (hr1 : Kd.C (Kd.int .i64) w A1 l1.length l1) (hc1 : l1.length ≤ c1) (h : laws_eqIntS.f k l0 l1 = some r) :
    Calls Try.prog 34 #[.slice A0 l0.length c0, .slice A1 l1.length c1] w fun e w' => e = .returned (.bool r) ∧ Drawn0 w w' := by
  have HR0:= mk hr0
  have HC0:= mk hc0
  clear hr0 hc0
  have HR1:= mk hr1
  have HC1:= mk hc1
  clear hr1 hc1
  have H : (if (l0.length : Int) = (l1.length : Int) then (laws_eqIntS.l0 k l0 l1 0) else (some false)) = some r:= h
  clear h
  by_cases c3 : (l0.length : Int) = (l1.length : Int)
  · rw [if_pos c3] at H
    have va9 : ((l0.length : Int) == (l1.length : Int)) = true:= beq_iff_eq.mpr c3
    have sa9 : ((l0.length : Int) != (l1.length : Int)) = false:= bne_eq_false_iff_eq.mpr c3
    have jb9 : (l0.length == l1.length) = true:= by first|simpa using c3|(simp at c3 ⊢;omega)
    clear c3
    have H':= mk H
    clear H
    go_enter Try.func34,Try.ntmps34
    go_wp2
    repeat (go_quiet (fail);try go_wp2)
    go_loopg [5] k (fun kq v5 w' => ∃ (o4 : Int),v5 = .int .i64 o4 ∧ Aside0 (laws_eqIntS.l0 kq l0 l1 o4 = some r) ∧ Aside0 (kq ≤ k) ∧ Drawn0 w w')
    case atStart => exact ⟨(0),(by first|rfl|(simp;done)|(simp [*];done)),H',⟨Nat.le_refl _⟩,by repeat (first|exact Drawn0.refl _|apply Drawn0.step)⟩
    case round =>
      clear H'
      try clear c1
      try clear p2
      try clear c3
      try clear va9
      try clear sa9
      try clear jb9
      obtain ⟨o4,rfl,HA,HK1,⟨m1,rfl⟩⟩:= hrel
      cases gk with
     |zero => exact absurd HA.out (by simp [laws_eqIntS.l0])
     |succ k1 =>
        have H:= HA.out
        clear HA
        simp only [laws_eqIntS.l0] at H
        by_cases c4 : o4 < (l0.length : Int)
        · rw [if_pos c4] at H
          have ob5 : decide (o4 < (l0.length : Int)) = true:= decide_eq_true c4
          clear c4
          by_cases c5 : 0 ≤ o4
          · rw [if_pos c5] at H
            have kc9 : decide (0 ≤ o4) = true:= decide_eq_true c5
            clear c5
            by_cases c6 : o4 < (l1.length : Int)
            · rw [if_pos c6] at H
              have jc9 : decide (o4 < (l1.length : Int)) = true:= decide_eq_true c6
              clear c6
              by_cases c7 : (rd l0 o4) = (rd l1 o4)
              · rw [if_pos c7] at H
                have bc6 : ((rd l0 o4) == (rd l1 o4)) = true:= beq_iff_eq.mpr c7
                have ac6 : ((rd l0 o4) != (rd l1 o4)) = false:= bne_eq_false_iff_eq.mpr c7
                clear c7
                have H':= mk H
                clear H
                have ma2 : 0 ≤ (o4 : Int):= of_decide_eq_true (by first|(with_reducible assumption)|assumption)
                have ga2 : o4 < (l0.length : Int):= of_decide_eq_true (by first|(with_reducible assumption)|assumption)
                obtain ⟨ab6,kb5,sa2⟩:= Kd.at_int HR0.out o4 ma2 ga2
                cases kb5
                replace ma2:= eq_true ma2
                replace ga2:= eq_true ga2
                have ka2 : 0 ≤ (o4 : Int):= of_decide_eq_true (by first|(with_reducible assumption)|assumption)
                have da2 : o4 < (l1.length : Int):= of_decide_eq_true (by first|(with_reducible assumption)|assumption)
                obtain ⟨zb5,jb5,qa2⟩:= Kd.at_int HR1.out o4 ka2 da2
                cases jb5
                replace ka2:= eq_true ka2
                replace da2:= eq_true da2
                go_wp2
                repeat (go_quiet (fail);try go_wp2)
                go_roundg k1
                case measure => have:= HK1.out;omega
                case rel => exact ⟨(wrap64 (o4 + 1)),(by first|rfl|(simp;done)|(simp [*];done)),H',⟨by have:= HK1.out;omega⟩,by repeat (first|exact Drawn0.refl _|apply Drawn0.step)⟩
              · rw [if_neg c7] at H
                have bc6 : ((rd l0 o4) == (rd l1 o4)) = false:= beq_eq_false_iff_ne.mpr c7
                have ac6 : ((rd l0 o4) != (rd l1 o4)) = true:= bne_iff_ne.mpr c7
                obtain rfl:= Option.some.inj H
                have ma2 : 0 ≤ (o4 : Int):= of_decide_eq_true (by first|(with_reducible assumption)|assumption)
                have ga2 : o4 < (l0.length : Int):= of_decide_eq_true (by first|(with_reducible assumption)|assumption)
                obtain ⟨ab6,kb5,sa2⟩:= Kd.at_int HR0.out o4 ma2 ga2
                cases kb5
                replace ma2:= eq_true ma2
                replace ga2:= eq_true ga2
                have ka2 : 0 ≤ (o4 : Int):= of_decide_eq_true (by first|(with_reducible assumption)|assumption)
                have da2 : o4 < (l1.length : Int):= of_decide_eq_true (by first|(with_reducible assumption)|assumption)
                obtain ⟨zb5,jb5,qa2⟩:= Kd.at_int HR1.out o4 ka2 da2
                cases jb5
                replace ka2:= eq_true ka2
                replace da2:= eq_true da2
                go_wp2
                repeat (go_quiet (fail);try go_wp2)
                go_ret
                exact ⟨by first|rfl|(simp;done)|(simp [*];done),by repeat (first|exact Drawn0.refl _|apply Drawn0.step)⟩
            · rw [if_neg c6] at H
              exact absurd H (by simp)
          · rw [if_neg c5] at H
            exact absurd H (by simp)
        · rw [if_neg c4] at H
          have ob5 : decide (o4 < (l0.length : Int)) = false:= decide_eq_false c4
          clear c4
          obtain rfl:= Option.some.inj H
          go_wp2
          repeat (go_quiet (fail);try go_wp2)
          go_ret
          exact ⟨by first|rfl|(simp;done)|(simp [*];done),by repeat (first|exact Drawn0.refl _|apply Drawn0.step)⟩
  · rw [if_neg c3] at H
    have va9 : ((l0.length : Int) == (l1.length : Int)) = false:= beq_eq_false_iff_ne.mpr c3
    have sa9 : ((l0.length : Int) != (l1.length : Int)) = true:= bne_iff_ne.mpr c3
    have jb9 : (l0.length == l1.length) = false:= by first|simpa using c3|(simp at c3 ⊢;omega)
    obtain rfl:= Option.some.inj H
    go_enter Try.func34,Try.ntmps34
    go_wp2
    repeat (go_quiet (fail);try go_wp2)
    go_ret
    exact ⟨by first|rfl|(simp;done)|(simp [*];done),by repeat (first|exact Drawn0.refl _|apply Drawn0.step)⟩

/-! ### laws_eqPivot: function 61 -/
def laws_eqPivot.f (a0_0 : Int) (a0_1 : Int) (a1_0 : Int) (a1_1 : Int) : Option (Bool) := if a0_0 = a1_0 then (if a0_1 = a1_1 then (some true) else (some false)) else (some false)
set_option maxHeartbeats 8000000 in
set_option maxRecDepth 100000 in
theorem laws_eqPivot.calls (a0_0 : Int) (a0_1 : Int) (a1_0 : Int) (a1_1 : Int) (r : Bool) (w : World) (h : laws_eqPivot.f a0_0 a0_1 a1_0 a1_1 = some r) :
    Calls Try.prog 61 #[.agg #[.int .i64 a0_0, .int .i64 a0_1], .agg #[.int .i64 a1_0, .int .i64 a1_1]] w fun e w' => e = .returned (.bool r) ∧ Below w.heap.size w w' := by
  have hu50:= Try.underlying50
  have HB:= mk (Below.refl w.heap.size w)
  have H : (if a0_0 = a1_0 then (if a0_1 = a1_1 then (some true) else (some false)) else (some false)) = some r:= h
  clear h
  by_cases c3 : a0_0 = a1_0
  · rw [if_pos c3] at H
    have va9 : (a0_0 == a1_0) = true:= beq_iff_eq.mpr c3
    have sa9 : (a0_0 != a1_0) = false:= bne_eq_false_iff_eq.mpr c3
    clear c3
    by_cases c4 : a0_1 = a1_1
    · rw [if_pos c4] at H
      have ob5 : (a0_1 == a1_1) = true:= beq_iff_eq.mpr c4
      have qc6 : (a0_1 != a1_1) = false:= bne_eq_false_iff_eq.mpr c4
      clear c4
      obtain rfl:= Option.some.inj H
      go_enter Try.func61,Try.ntmps61
      go_wp2_with (first|((with_reducible refine gate_dst (N:= 2) rfl ?_);refine box_event ?hg (N:= 2) ?hd (cs:= #[.int .i64 a0_0,.int .i64 a0_1]) (t:= 50) ?hr ?_;(case hd => rfl);(case hg => rfl);(case hr => first|(go_simp;done)|(go_simp;rfl));intro z2 hg w5 hbox hb;have n0_:= mk (below_step (by repeat (first|(with_reducible first|exact HB.out|apply below_alloc|apply pw_below_drewN|apply below_drew1)|exact HB.out)) hb);have n1_:= mk (hbox);have n2_:= mk ((by rw [hg];exact (below_size (by repeat (first|(with_reducible first|exact HB.out|apply below_alloc|apply pw_below_drewN|apply below_drew1)|exact HB.out))) : w.heap.size ≤ z2));have n3_:= mk ((by rw [hg];exact (below_size (by repeat (first|(with_reducible first|exact HB.out|apply below_alloc|apply pw_below_drewN|apply below_drew1)|exact HB.out))) : w.heap.size ≤ z2));clear HB;have HB:= n0_;have b3:= n1_;have za7:= n2_;have m5:= n3_;clear n0_ n1_ n2_ n3_;clear hb hbox hg)|((with_reducible refine gate_dst (N:= 3) rfl ?_);refine box_event ?hg (N:= 3) ?hd (cs:= #[.int .i64 a1_0,.int .i64 a1_1]) (t:= 50) ?hr ?_;(case hd => rfl);(case hg => rfl);(case hr => first|(go_simp;done)|(go_simp;rfl));intro a4 hg w6 hbox hb;have n0_:= mk (blk_below (g:= z2) (o:= .cells #[.int .i64 a0_0,.int .i64 a0_1] 50 (0,0)) (ub b3.out) hb);have n1_:= mk (below_step (by repeat (first|(with_reducible first|exact HB.out|apply below_alloc|apply pw_below_drewN|apply below_drew1|refine below_set ?_ m5.out)|exact HB.out)) hb);have n2_:= mk (hbox);have n3_:= mk ((by rw [hg];exact (below_size (by repeat (first|(with_reducible first|exact HB.out|apply below_alloc|apply pw_below_drewN|apply below_drew1|refine below_set ?_ m5.out)|exact HB.out))) : w.heap.size ≤ a4));have n4_:= mk ((by rw [hg];exact (below_size (by repeat (first|(with_reducible first|exact HB.out|apply below_alloc|apply pw_below_drewN|apply below_drew1|refine below_set ?_ m5.out)|exact HB.out))) : w.heap.size ≤ a4));have n5_:= mk ((by rw [hg];exact Nat.ne_of_lt (blk_lt (g:= z2) (o:= .cells #[.int .i64 a0_0,.int .i64 a0_1] 50 (0,0)) (ub b3.out)) : z2 ≠ a4));have n6_:= mk ((by rw [hg];exact Nat.ne_of_gt (blk_lt (g:= z2) (o:= .cells #[.int .i64 a0_0,.int .i64 a0_1] 50 (0,0)) (ub b3.out)) : a4 ≠ z2));clear b3;clear HB;have b3:= n0_;have HB:= n1_;have o5:= n2_;have ya7:= n3_;have za0:= n4_;have m4:= n5_;have k4:= n6_;clear n0_ n1_ n2_ n3_ n4_ n5_ n6_;clear hb hbox hg;have jc8:= m4.out;have dc8:= k4.out;have jb8 : w6.cell? ⟨z2,0,none⟩ = some (.int .i64 a0_0):= (blk_cell b3.out 0).trans rfl;have gb8 : w6.cell? ⟨z2,1,none⟩ = some (.int .i64 a0_1):= (blk_cell b3.out 1).trans rfl;have sb7:= blk_frozen b3.out 0;have qb7:= blk_frozen b3.out 1;have ba0 : w6.cell? ⟨a4,0,none⟩ = some (.int .i64 a1_0):= (blk_cell o5.out 0).trans rfl;have aa0 : w6.cell? ⟨a4,1,none⟩ = some (.int .i64 a1_1):= (blk_cell o5.out 1).trans rfl;have d9:= blk_frozen o5.out 0;have b9:= blk_frozen o5.out 1))
      go_ret
      exact ⟨by first|rfl|(simp [errW_none,errW_some] <;> rfl)|(simp [*,errW_none,errW_some] <;> rfl),by repeat (first|(with_reducible first|exact HB.out|apply below_alloc|apply pw_below_drewN|apply below_drew1|refine below_set ?_ m5.out|refine below_set ?_ za0.out)|exact HB.out)⟩
    · rw [if_neg c4] at H
      have ob5 : (a0_1 == a1_1) = false:= beq_eq_false_iff_ne.mpr c4
      have qc6 : (a0_1 != a1_1) = true:= bne_iff_ne.mpr c4
      obtain rfl:= Option.some.inj H
      go_enter Try.func61,Try.ntmps61
      go_wp2_with (first|((with_reducible refine gate_dst (N:= 2) rfl ?_);refine box_event ?hg (N:= 2) ?hd (cs:= #[.int .i64 a0_0,.int .i64 a0_1]) (t:= 50) ?hr ?_;(case hd => rfl);(case hg => rfl);(case hr => first|(go_simp;done)|(go_simp;rfl));intro z2 hg w10 hbox hb;have n0_:= mk (below_step (by repeat (first|(with_reducible first|exact HB.out|apply below_alloc|apply pw_below_drewN|apply below_drew1)|exact HB.out)) hb);have n1_:= mk (hbox);have n2_:= mk ((by rw [hg];exact (below_size (by repeat (first|(with_reducible first|exact HB.out|apply below_alloc|apply pw_below_drewN|apply below_drew1)|exact HB.out))) : w.heap.size ≤ z2));have n3_:= mk ((by rw [hg];exact (below_size (by repeat (first|(with_reducible first|exact HB.out|apply below_alloc|apply pw_below_drewN|apply below_drew1)|exact HB.out))) : w.heap.size ≤ z2));clear HB;have HB:= n0_;have b3:= n1_;have za7:= n2_;have m5:= n3_;clear n0_ n1_ n2_ n3_;clear hb hbox hg)|((with_reducible refine gate_dst (N:= 3) rfl ?_);refine box_event ?hg (N:= 3) ?hd (cs:= #[.int .i64 a1_0,.int .i64 a1_1]) (t:= 50) ?hr ?_;(case hd => rfl);(case hg => rfl);(case hr => first|(go_simp;done)|(go_simp;rfl));intro a4 hg w11 hbox hb;have n0_:= mk (blk_below (g:= z2) (o:= .cells #[.int .i64 a0_0,.int .i64 a0_1] 50 (0,0)) (ub b3.out) hb);have n1_:= mk (below_step (by repeat (first|(with_reducible first|exact HB.out|apply below_alloc|apply pw_below_drewN|apply below_drew1|refine below_set ?_ m5.out)|exact HB.out)) hb);have n2_:= mk (hbox);have n3_:= mk ((by rw [hg];exact (below_size (by repeat (first|(with_reducible first|exact HB.out|apply below_alloc|apply pw_below_drewN|apply below_drew1|refine below_set ?_ m5.out)|exact HB.out))) : w.heap.size ≤ a4));have n4_:= mk ((by rw [hg];exact (below_size (by repeat (first|(with_reducible first|exact HB.out|apply below_alloc|apply pw_below_drewN|apply below_drew1|refine below_set ?_ m5.out)|exact HB.out))) : w.heap.size ≤ a4));have n5_:= mk ((by rw [hg];exact Nat.ne_of_lt (blk_lt (g:= z2) (o:= .cells #[.int .i64 a0_0,.int .i64 a0_1] 50 (0,0)) (ub b3.out)) : z2 ≠ a4));have n6_:= mk ((by rw [hg];exact Nat.ne_of_gt (blk_lt (g:= z2) (o:= .cells #[.int .i64 a0_0,.int .i64 a0_1] 50 (0,0)) (ub b3.out)) : a4 ≠ z2));clear b3;clear HB;have b3:= n0_;have HB:= n1_;have o5:= n2_;have ya7:= n3_;have za0:= n4_;have m4:= n5_;have k4:= n6_;clear n0_ n1_ n2_ n3_ n4_ n5_ n6_;clear hb hbox hg;have bc4:= m4.out;have gc2:= k4.out;have zb4 : w11.cell? ⟨z2,0,none⟩ = some (.int .i64 a0_0):= (blk_cell b3.out 0).trans rfl;have yb4 : w11.cell? ⟨z2,1,none⟩ = some (.int .i64 a0_1):= (blk_cell b3.out 1).trans rfl;have zb2:= blk_frozen b3.out 0;have yb2:= blk_frozen b3.out 1;have vb4 : w11.cell? ⟨a4,0,none⟩ = some (.int .i64 a1_0):= (blk_cell o5.out 0).trans rfl;have sb4 : w11.cell? ⟨a4,1,none⟩ = some (.int .i64 a1_1):= (blk_cell o5.out 1).trans rfl;have vb2:= blk_frozen o5.out 0;have sb2:= blk_frozen o5.out 1))
      go_ret
      exact ⟨by first|rfl|(simp [errW_none,errW_some] <;> rfl)|(simp [*,errW_none,errW_some] <;> rfl),by repeat (first|(with_reducible first|exact HB.out|apply below_alloc|apply pw_below_drewN|apply below_drew1|refine below_set ?_ m5.out|refine below_set ?_ za0.out)|exact HB.out)⟩
  · rw [if_neg c3] at H
    have va9 : (a0_0 == a1_0) = false:= beq_eq_false_iff_ne.mpr c3
    have sa9 : (a0_0 != a1_0) = true:= bne_iff_ne.mpr c3
    obtain rfl:= Option.some.inj H
    go_enter Try.func61,Try.ntmps61
    go_wp2_with (first|((with_reducible refine gate_dst (N:= 2) rfl ?_);refine box_event ?hg (N:= 2) ?hd (cs:= #[.int .i64 a0_0,.int .i64 a0_1]) (t:= 50) ?hr ?_;(case hd => rfl);(case hg => rfl);(case hr => first|(go_simp;done)|(go_simp;rfl));intro z2 hg w15 hbox hb;have n0_:= mk (below_step (by repeat (first|(with_reducible first|exact HB.out|apply below_alloc|apply pw_below_drewN|apply below_drew1)|exact HB.out)) hb);have n1_:= mk (hbox);have n2_:= mk ((by rw [hg];exact (below_size (by repeat (first|(with_reducible first|exact HB.out|apply below_alloc|apply pw_below_drewN|apply below_drew1)|exact HB.out))) : w.heap.size ≤ z2));have n3_:= mk ((by rw [hg];exact (below_size (by repeat (first|(with_reducible first|exact HB.out|apply below_alloc|apply pw_below_drewN|apply below_drew1)|exact HB.out))) : w.heap.size ≤ z2));clear HB;have HB:= n0_;have b3:= n1_;have za7:= n2_;have m5:= n3_;clear n0_ n1_ n2_ n3_;clear hb hbox hg)|((with_reducible refine gate_dst (N:= 3) rfl ?_);refine box_event ?hg (N:= 3) ?hd (cs:= #[.int .i64 a1_0,.int .i64 a1_1]) (t:= 50) ?hr ?_;(case hd => rfl);(case hg => rfl);(case hr => first|(go_simp;done)|(go_simp;rfl));intro a4 hg w16 hbox hb;have n0_:= mk (blk_below (g:= z2) (o:= .cells #[.int .i64 a0_0,.int .i64 a0_1] 50 (0,0)) (ub b3.out) hb);have n1_:= mk (below_step (by repeat (first|(with_reducible first|exact HB.out|apply below_alloc|apply pw_below_drewN|apply below_drew1|refine below_set ?_ m5.out)|exact HB.out)) hb);have n2_:= mk (hbox);have n3_:= mk ((by rw [hg];exact (below_size (by repeat (first|(with_reducible first|exact HB.out|apply below_alloc|apply pw_below_drewN|apply below_drew1|refine below_set ?_ m5.out)|exact HB.out))) : w.heap.size ≤ a4));have n4_:= mk ((by rw [hg];exact (below_size (by repeat (first|(with_reducible first|exact HB.out|apply below_alloc|apply pw_below_drewN|apply below_drew1|refine below_set ?_ m5.out)|exact HB.out))) : w.heap.size ≤ a4));have n5_:= mk ((by rw [hg];exact Nat.ne_of_lt (blk_lt (g:= z2) (o:= .cells #[.int .i64 a0_0,.int .i64 a0_1] 50 (0,0)) (ub b3.out)) : z2 ≠ a4));have n6_:= mk ((by rw [hg];exact Nat.ne_of_gt (blk_lt (g:= z2) (o:= .cells #[.int .i64 a0_0,.int .i64 a0_1] 50 (0,0)) (ub b3.out)) : a4 ≠ z2));clear b3;clear HB;have b3:= n0_;have HB:= n1_;have o5:= n2_;have ya7:= n3_;have za0:= n4_;have m4:= n5_;have k4:= n6_;clear n0_ n1_ n2_ n3_ n4_ n5_ n6_;clear hb hbox hg;have yc3:= m4.out;have ac2:= k4.out;have g7 : w16.cell? ⟨z2,0,none⟩ = some (.int .i64 a0_0):= (blk_cell b3.out 0).trans rfl;have d7 : w16.cell? ⟨z2,1,none⟩ = some (.int .i64 a0_1):= (blk_cell b3.out 1).trans rfl;have b7:= blk_frozen b3.out 0;have a7:= blk_frozen b3.out 1;have qb4 : w16.cell? ⟨a4,0,none⟩ = some (.int .i64 a1_0):= (blk_cell o5.out 0).trans rfl;have ob4 : w16.cell? ⟨a4,1,none⟩ = some (.int .i64 a1_1):= (blk_cell o5.out 1).trans rfl;have qb2:= blk_frozen o5.out 0;have ob2:= blk_frozen o5.out 1))
    go_ret
    exact ⟨by first|rfl|(simp [errW_none,errW_some] <;> rfl)|(simp [*,errW_none,errW_some] <;> rfl),by repeat (first|(with_reducible first|exact HB.out|apply below_alloc|apply pw_below_drewN|apply below_drew1|refine below_set ?_ m5.out|refine below_set ?_ za0.out)|exact HB.out)⟩

end Go.Proofs.Ytlikcmonejefoab.PFnExactRippleDelete
