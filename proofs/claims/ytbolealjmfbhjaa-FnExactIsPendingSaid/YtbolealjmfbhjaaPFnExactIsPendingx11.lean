-- printed by a program of this session, a turned copy of the print of the kit
import Derived.Test.YtbolealjmfbhjaaSq
import Derived.Test.YtbolealjmfbhjaaPFnExactIsPendingx0
import Derived.Test.YtbolealjmfbhjaaPFnExactIsPendingx1
import Derived.Test.YtbolealjmfbhjaaPFnExactIsPendingx2
import Derived.Test.YtbolealjmfbhjaaPFnExactIsPendingx5
import Derived.Test.YtbolealjmfbhjaaPFnExactIsPendingx6
import Derived.Test.YtbolealjmfbhjaaPFnExactIsPendingx9
import Derived.Test.YtbolealjmfbhjaaPFnExactIsPendingx10
namespace Go.Proofs.Ytbolealjmfbhjaa.PFnExactIsPending
open Go.RowKit Go.Proofs.YtbolealjmfbhjaaW.PrintWords Go.Proofs.YtbolealjmfbhjaaW.PrintLast Go.Proofs.YtbolealjmfbhjaaW.PrintMore Go.Proofs.Ytbolealjmfbhjaa.Sq
attribute [local go_sem] max2_int min2_int max_two min_two max_three min_three max_four min_four Giv.cell_twice   -- for this text's walks alone
set_option linter.unusedVariables false
set_option linter.unusedSimpArgs false

/-! ### laws_FnExactIsPending: function 10 -/
def laws_FnExactIsPending.f (k : Nat) (l0_0 : List Int) (l0_1 : List Int) (l0_2 : List (S66)) (l1_0 : List (S118)) (l1_1 : List Int) : Option (Bool) := (laws_szCracker.f l0_0 l0_1 l0_2 1048576).bind fun t249 => (if t249 < 0 then (some true) else ((laws_szPending.f l1_0 l1_1 t249).bind fun t250 => (if t250 < 0 then (some true) else ((laws_toCracker.f k l0_0 l0_1 l0_2).bind fun bt251 => ((laws_toPending.f k l1_0 l1_1).bind fun bt260 => ((spec_IsPending.f k bt251.1 bt251.2.1 bt251.2.2 bt260.1 bt260.2).bind fun t266 => ((laws_toCracker.f k l0_0 l0_1 l0_2).bind fun bt267 => ((laws_toPending.f k l1_0 l1_1).bind fun bt277 => ((impl_IsPending.f k bt267.1 bt267.2.1 bt267.2.2 bt277.1 bt277.2).bind fun t284 => (if (t284 != t266) = true then (some false) else ((laws_toCracker.f k l0_0 l0_1 l0_2).bind fun bt285 => ((laws_eqCracker.f k bt267.1 bt267.2.1 bt267.2.2 bt285.1 bt285.2.1 bt285.2.2).bind fun t294 => (if t294 = true then ((laws_toPending.f k l1_0 l1_1).bind fun bt295 => ((laws_eqPending.f k bt277.1 bt277.2 bt295.1 bt295.2).bind fun t301 => (if t301 = true then (some true) else (some false)))) else (some false))))))))))))))
theorem laws_FnExactIsPending.mono : ∀ a0 a1 a2 a3 a4 k, LeO (laws_FnExactIsPending.f k a0 a1 a2 a3 a4) (laws_FnExactIsPending.f (k + 1) a0 a1 a2 a3 a4) := by
 intro a0 a1 a2 a3 a4 k
 unfold laws_FnExactIsPending.f
 repeat' first
  |(with_reducible exact impl_IsPending.mono _ _ _ _ _ _)
  |(with_reducible exact laws_eqCracker.mono _ _ _ _ _ _ _)
  |(with_reducible exact laws_eqPending.mono _ _ _ _ _)
  |(with_reducible exact laws_toCracker.mono _ _ _ _)
  |(with_reducible exact laws_toPending.mono _ _ _)
  |(with_reducible exact spec_IsPending.mono _ _ _ _ _ _)
  |(with_reducible exact LeO.refl _)
  |(with_reducible exact LeO.none _)
  |(with_reducible refine LeO.ite ?_ ?_)
  |(with_reducible refine LeO.bind ?_ (fun _ => ?_))
  |exact impl_IsPending.mono _ _ _ _ _ _
  |exact laws_eqCracker.mono _ _ _ _ _ _ _
  |exact laws_eqPending.mono _ _ _ _ _
  |exact laws_toCracker.mono _ _ _ _
  |exact laws_toPending.mono _ _ _
  |exact spec_IsPending.mono _ _ _ _ _ _
  |exact LeO.none _
  |refine LeO.ite ?_ ?_
  |refine LeO.bind ?_ (fun _ => ?_)
set_option maxHeartbeats 8000000 in
set_option maxRecDepth 100000 in
theorem laws_FnExactIsPending.calls (k : Nat) (A0_0 : Option Addr) (c0_0 : Nat) (l0_0 : List Int) (A0_1 : Option Addr) (c0_1 : Nat) (l0_1 : List Int) (A0_2 : Option Addr) (c0_2 : Nat) (l0_2 : List (S66)) (A1_0 : Option Addr) (c1_0 : Nat) (l1_0 : List (S118)) (A1_1 : Option Addr) (c1_1 : Nat) (l1_1 : List Int) (r : Bool) (w : World) (hr0_0 : Kd.C (Kd.int .i64) w A0_0 l0_0.length l0_0) (hc0_0 : l0_0.length ≤ c0_0) (hr0_1 : Kd.C (Kd.int .i64) w A0_1 l0_1.length l0_1) (hc0_1 : l0_1.length ≤ c0_1) (hr0_2 : Kd.C k66 w A0_2 l0_2.length l0_2) (hc0_2 : l0_2.length ≤ c0_2) (hr1_0 : Kd.C k118 w A1_0 l1_0.length l1_0) (hc1_0 : l1_0.length ≤ c1_0) (hr1_1 : Kd.C (Kd.int .i64) w A1_1 l1_1.length l1_1) (hc1_1 : l1_1.length ≤ c1_1) (HRT : Aside0 (r = true)) (h : laws_FnExactIsPending.f k l0_0 l0_1 l0_2 l1_0 l1_1 = some r) :
  Calls Try.prog 10 #[.agg #[.slice A0_0 l0_0.length c0_0, .slice A0_1 l0_1.length c0_1, .slice A0_2 l0_2.length c0_2], .agg #[.slice A1_0 l1_0.length c1_0, .slice A1_1 l1_1.length c1_1]] w fun e w' => e = .returned (.bool r) ∧ Below w.heap.size w w' := by
 have hu25:= Try.underlying25
 have hu56:= Try.underlying56
 have hu30:= Try.underlying30
 have hu61:= Try.underlying61
 have HR0_0:= mk hr0_0
 have HC0_0:= mk hc0_0
 clear hr0_0 hc0_0
 have HR0_1:= mk hr0_1
 have HC0_1:= mk hc0_1
 clear hr0_1 hc0_1
 have HR0_2:= mk hr0_2
 have HC0_2:= mk hc0_2
 clear hr0_2 hc0_2
 have HR1_0:= mk hr1_0
 have HC1_0:= mk hc1_0
 clear hr1_0 hc1_0
 have HR1_1:= mk hr1_1
 have HC1_1:= mk hc1_1
 clear hr1_1 hc1_1
 have HB:= mk (Below.refl w.heap.size w)
 have H : ((laws_szCracker.f l0_0 l0_1 l0_2 1048576).bind fun t249 => (if t249 < 0 then (some true) else ((laws_szPending.f l1_0 l1_1 t249).bind fun t250 => (if t250 < 0 then (some true) else ((laws_toCracker.f k l0_0 l0_1 l0_2).bind fun bt251 => ((laws_toPending.f k l1_0 l1_1).bind fun bt260 => ((spec_IsPending.f k bt251.1 bt251.2.1 bt251.2.2 bt260.1 bt260.2).bind fun t266 => ((laws_toCracker.f k l0_0 l0_1 l0_2).bind fun bt267 => ((laws_toPending.f k l1_0 l1_1).bind fun bt277 => ((impl_IsPending.f k bt267.1 bt267.2.1 bt267.2.2 bt277.1 bt277.2).bind fun t284 => (if (t284 != t266) = true then (some false) else ((laws_toCracker.f k l0_0 l0_1 l0_2).bind fun bt285 => ((laws_eqCracker.f k bt267.1 bt267.2.1 bt267.2.2 bt285.1 bt285.2.1 bt285.2.2).bind fun t294 => (if t294 = true then ((laws_toPending.f k l1_0 l1_1).bind fun bt295 => ((laws_eqPending.f k bt277.1 bt277.2 bt295.1 bt295.2).bind fun t301 => (if t301 = true then (some true) else (some false)))) else (some false))))))))))))))) = some r:= h
 clear h
 replace H:= Option.bind_eq_some_iff.mp H
 obtain ⟨t249,A30,H⟩:= H
 replace H : (if t249 < 0 then (some true) else ((laws_szPending.f l1_0 l1_1 t249).bind fun t250 => (if t250 < 0 then (some true) else ((laws_toCracker.f k l0_0 l0_1 l0_2).bind fun bt251 => ((laws_toPending.f k l1_0 l1_1).bind fun bt260 => ((spec_IsPending.f k bt251.1 bt251.2.1 bt251.2.2 bt260.1 bt260.2).bind fun t266 => ((laws_toCracker.f k l0_0 l0_1 l0_2).bind fun bt267 => ((laws_toPending.f k l1_0 l1_1).bind fun bt277 => ((impl_IsPending.f k bt267.1 bt267.2.1 bt267.2.2 bt277.1 bt277.2).bind fun t284 => (if (t284 != t266) = true then (some false) else ((laws_toCracker.f k l0_0 l0_1 l0_2).bind fun bt285 => ((laws_eqCracker.f k bt267.1 bt267.2.1 bt267.2.2 bt285.1 bt285.2.1 bt285.2.2).bind fun t294 => (if t294 = true then ((laws_toPending.f k l1_0 l1_1).bind fun bt295 => ((laws_eqPending.f k bt277.1 bt277.2 bt295.1 bt295.2).bind fun t301 => (if t301 = true then (some true) else (some false)))) else (some false)))))))))))))) = some r:= H
 have A3:= mk A30
 clear A30
 by_cases c4 : t249 < 0
 ·rw [if_pos c4] at H
  have c4b0 : decide (t249 < 0) = true:= decide_eq_true c4
  clear c4
  obtain rfl:= Option.some.inj H
  go_enter Try.func10,Try.ntmps10
  go_wp2_with (first|((with_reducible refine gate_dst (N:= 2) rfl ?_);refine box_event ?hg (N:= 2) ?hd (cs:= #[.slice A0_0 l0_0.length c0_0,.slice A0_1 l0_1.length c0_1,.slice A0_2 l0_2.length c0_2]) (t:= 25) ?hr ?_;(case hd => rfl);(case hg => rfl);(case hr => first|(go_simp;done)|(go_simp;rfl));intro gb247 hg w5 hbox hb;have n0_:= mk (below_step (by repeat (first|(with_reducible first|exact HB.out|apply below_alloc|apply pw_below_drewN|apply below_drew1)|exact HB.out)) hb);have n1_:= mk (hbox);have n2_:= mk ((by rw [hg];exact (below_size (by repeat (first|(with_reducible first|exact HB.out|apply below_alloc|apply pw_below_drewN|apply below_drew1)|exact HB.out))) : w.heap.size ≤ gb247));have n3_:= mk ((by rw [hg];exact (below_size (by repeat (first|(with_reducible first|exact HB.out|apply below_alloc|apply pw_below_drewN|apply below_drew1)|exact HB.out))) : w.heap.size ≤ gb247));clear HB;have HB:= n0_;have BK247:= n1_;have GW247:= n2_;have GE247:= n3_;clear n0_ n1_ n2_ n3_;clear hb hbox hg)|((with_reducible refine gate_dst (N:= 3) rfl ?_);refine box_event ?hg (N:= 3) ?hd (cs:= #[.slice A1_0 l1_0.length c1_0,.slice A1_1 l1_1.length c1_1]) (t:= 56) ?hr ?_;(case hd => rfl);(case hg => rfl);(case hr => first|(go_simp;done)|(go_simp;rfl));intro gb248 hg w6 hbox hb;have n0_:= mk (blk_below (g:= gb247) (o:= .cells #[.slice A0_0 l0_0.length c0_0,.slice A0_1 l0_1.length c0_1,.slice A0_2 l0_2.length c0_2] 25 (0,0)) (ub BK247.out) hb);have n1_:= mk (below_step (by repeat (first|(with_reducible first|exact HB.out|apply below_alloc|apply pw_below_drewN|apply below_drew1|refine below_set ?_ GE247.out)|exact HB.out)) hb);have n2_:= mk (hbox);have n3_:= mk ((by rw [hg];exact (below_size (by repeat (first|(with_reducible first|exact HB.out|apply below_alloc|apply pw_below_drewN|apply below_drew1|refine below_set ?_ GE247.out)|exact HB.out))) : w.heap.size ≤ gb248));have n4_:= mk ((by rw [hg];exact (below_size (by repeat (first|(with_reducible first|exact HB.out|apply below_alloc|apply pw_below_drewN|apply below_drew1|refine below_set ?_ GE247.out)|exact HB.out))) : w.heap.size ≤ gb248));have n5_:= mk ((by rw [hg];exact Nat.ne_of_lt (blk_lt (g:= gb247) (o:= .cells #[.slice A0_0 l0_0.length c0_0,.slice A0_1 l0_1.length c0_1,.slice A0_2 l0_2.length c0_2] 25 (0,0)) (ub BK247.out)) : gb247 ≠ gb248));have n6_:= mk ((by rw [hg];exact Nat.ne_of_gt (blk_lt (g:= gb247) (o:= .cells #[.slice A0_0 l0_0.length c0_0,.slice A0_1 l0_1.length c0_1,.slice A0_2 l0_2.length c0_2] 25 (0,0)) (ub BK247.out)) : gb248 ≠ gb247));clear BK247;clear HB;have BK247:= n0_;have HB:= n1_;have BK248:= n2_;have GW248:= n3_;have GE248:= n4_;have NB247_248:= n5_;have NB248_247:= n6_;clear n0_ n1_ n2_ n3_ n4_ n5_ n6_;clear hb hbox hg;have hnb7:= NB247_248.out;have hnc7:= NB248_247.out;have hcz8_0 : w6.cell? ⟨gb247,0,none⟩ = some (.slice A0_0 l0_0.length c0_0):= (blk_cell BK247.out 0).trans rfl;have hcz8_1 : w6.cell? ⟨gb247,1,none⟩ = some (.slice A0_1 l0_1.length c0_1):= (blk_cell BK247.out 1).trans rfl;have hcz8_2 : w6.cell? ⟨gb247,2,none⟩ = some (.slice A0_2 l0_2.length c0_2):= (blk_cell BK247.out 2).trans rfl;have hfz8_0:= blk_frozen BK247.out 0;have hfz8_1:= blk_frozen BK247.out 1;have hfz8_2:= blk_frozen BK247.out 2)|((with_reducible refine gate_callee (f:= 12) rfl ?_);refine goesL_ (some 12) rfl rfl Try.func12 (by kernel_rfl) rfl #[.agg #[.slice A0_0 l0_0.length c0_0,.slice A0_1 l0_1.length c0_1,.slice A0_2 l0_2.length c0_2],.int .i64 1048576] rfl (by (try simp only [List.map_toArray,List.map_cons,List.map_nil]);first|done|rfl|(simp only [List.length_drop,List.length_take];rfl)) ?_;(with_reducible refine (laws_szCracker.calls _ _ l0_0 _ _ l0_1 _ _ l0_2 1048576 t249 _ ?side1 ?side2 ?side3 ?side4 ?side5 ?side6 A3.out).mono ?_);(case side1 => exact uc (Kd.C_below HR0_0.out HB.out));(case side2 => exact HC0_0.out);(case side3 => exact uc (Kd.C_below HR0_1.out HB.out));(case side4 => exact HC0_1.out);(case side5 => exact uc (Kd.C_below HR0_2.out HB.out));(case side6 => exact HC0_2.out);rintro e w9 ⟨rfl,hb⟩;refine ⟨_,rfl,?_⟩;have n0_:= mk (blk_below (g:= gb247) (o:= .cells #[.slice A0_0 l0_0.length c0_0,.slice A0_1 l0_1.length c0_1,.slice A0_2 l0_2.length c0_2] 25 (0,0)) (ub BK247.out) hb);have n1_:= mk (blk_below (g:= gb248) (o:= .cells #[.slice A1_0 l1_0.length c1_0,.slice A1_1 l1_1.length c1_1] 56 (0,0)) (ub BK248.out) hb);have n2_:= mk (below_step (by repeat (first|(with_reducible first|exact HB.out|apply below_alloc|apply pw_below_drewN|apply below_drew1|refine below_set ?_ GE247.out|refine below_set ?_ GE248.out)|exact HB.out)) hb);clear BK247;clear BK248;clear HB;have BK247:= n0_;have BK248:= n1_;have HB:= n2_;clear n0_ n1_ n2_;(try clear hb);(try clear hb2);(try clear hk);(try clear hi)))
  go_ret
  exact ⟨by first|rfl|(simp [errW_none,errW_some] <;> rfl)|(simp [*,errW_none,errW_some] <;> rfl),by repeat (first|(with_reducible first|exact HB.out|apply below_alloc|apply pw_below_drewN|apply below_drew1|refine below_set ?_ GE247.out|refine below_set ?_ GE248.out)|exact HB.out)⟩
 ·rw [if_neg c4] at H
  have c4b0 : decide (t249 < 0) = false:= decide_eq_false c4
  clear c4
  replace H:= Option.bind_eq_some_iff.mp H
  obtain ⟨t250,A100,H⟩:= H
  replace H : (if t250 < 0 then (some true) else ((laws_toCracker.f k l0_0 l0_1 l0_2).bind fun bt251 => ((laws_toPending.f k l1_0 l1_1).bind fun bt260 => ((spec_IsPending.f k bt251.1 bt251.2.1 bt251.2.2 bt260.1 bt260.2).bind fun t266 => ((laws_toCracker.f k l0_0 l0_1 l0_2).bind fun bt267 => ((laws_toPending.f k l1_0 l1_1).bind fun bt277 => ((impl_IsPending.f k bt267.1 bt267.2.1 bt267.2.2 bt277.1 bt277.2).bind fun t284 => (if (t284 != t266) = true then (some false) else ((laws_toCracker.f k l0_0 l0_1 l0_2).bind fun bt285 => ((laws_eqCracker.f k bt267.1 bt267.2.1 bt267.2.2 bt285.1 bt285.2.1 bt285.2.2).bind fun t294 => (if t294 = true then ((laws_toPending.f k l1_0 l1_1).bind fun bt295 => ((laws_eqPending.f k bt277.1 bt277.2 bt295.1 bt295.2).bind fun t301 => (if t301 = true then (some true) else (some false)))) else (some false)))))))))))) = some r:= H
  have A10:= mk A100
  clear A100
  by_cases c11 : t250 < 0
  ·rw [if_pos c11] at H
   have c11b0 : decide (t250 < 0) = true:= decide_eq_true c11
   clear c11
   obtain rfl:= Option.some.inj H
   go_enter Try.func10,Try.ntmps10
   go_wp2_with (first|((with_reducible refine gate_dst (N:= 2) rfl ?_);refine box_event ?hg (N:= 2) ?hd (cs:= #[.slice A0_0 l0_0.length c0_0,.slice A0_1 l0_1.length c0_1,.slice A0_2 l0_2.length c0_2]) (t:= 25) ?hr ?_;(case hd => rfl);(case hg => rfl);(case hr => first|(go_simp;done)|(go_simp;rfl));intro gb247 hg w12 hbox hb;have n0_:= mk (below_step (by repeat (first|(with_reducible first|exact HB.out|apply below_alloc|apply pw_below_drewN|apply below_drew1)|exact HB.out)) hb);have n1_:= mk (hbox);have n2_:= mk ((by rw [hg];exact (below_size (by repeat (first|(with_reducible first|exact HB.out|apply below_alloc|apply pw_below_drewN|apply below_drew1)|exact HB.out))) : w.heap.size ≤ gb247));have n3_:= mk ((by rw [hg];exact (below_size (by repeat (first|(with_reducible first|exact HB.out|apply below_alloc|apply pw_below_drewN|apply below_drew1)|exact HB.out))) : w.heap.size ≤ gb247));clear HB;have HB:= n0_;have BK247:= n1_;have GW247:= n2_;have GE247:= n3_;clear n0_ n1_ n2_ n3_;clear hb hbox hg)|((with_reducible refine gate_dst (N:= 3) rfl ?_);refine box_event ?hg (N:= 3) ?hd (cs:= #[.slice A1_0 l1_0.length c1_0,.slice A1_1 l1_1.length c1_1]) (t:= 56) ?hr ?_;(case hd => rfl);(case hg => rfl);(case hr => first|(go_simp;done)|(go_simp;rfl));intro gb248 hg w13 hbox hb;have n0_:= mk (blk_below (g:= gb247) (o:= .cells #[.slice A0_0 l0_0.length c0_0,.slice A0_1 l0_1.length c0_1,.slice A0_2 l0_2.length c0_2] 25 (0,0)) (ub BK247.out) hb);have n1_:= mk (below_step (by repeat (first|(with_reducible first|exact HB.out|apply below_alloc|apply pw_below_drewN|apply below_drew1|refine below_set ?_ GE247.out)|exact HB.out)) hb);have n2_:= mk (hbox);have n3_:= mk ((by rw [hg];exact (below_size (by repeat (first|(with_reducible first|exact HB.out|apply below_alloc|apply pw_below_drewN|apply below_drew1|refine below_set ?_ GE247.out)|exact HB.out))) : w.heap.size ≤ gb248));have n4_:= mk ((by rw [hg];exact (below_size (by repeat (first|(with_reducible first|exact HB.out|apply below_alloc|apply pw_below_drewN|apply below_drew1|refine below_set ?_ GE247.out)|exact HB.out))) : w.heap.size ≤ gb248));have n5_:= mk ((by rw [hg];exact Nat.ne_of_lt (blk_lt (g:= gb247) (o:= .cells #[.slice A0_0 l0_0.length c0_0,.slice A0_1 l0_1.length c0_1,.slice A0_2 l0_2.length c0_2] 25 (0,0)) (ub BK247.out)) : gb247 ≠ gb248));have n6_:= mk ((by rw [hg];exact Nat.ne_of_gt (blk_lt (g:= gb247) (o:= .cells #[.slice A0_0 l0_0.length c0_0,.slice A0_1 l0_1.length c0_1,.slice A0_2 l0_2.length c0_2] 25 (0,0)) (ub BK247.out)) : gb248 ≠ gb247));clear BK247;clear HB;have BK247:= n0_;have HB:= n1_;have BK248:= n2_;have GW248:= n3_;have GE248:= n4_;have NB247_248:= n5_;have NB248_247:= n6_;clear n0_ n1_ n2_ n3_ n4_ n5_ n6_;clear hb hbox hg;have hnb14:= NB247_248.out;have hnc14:= NB248_247.out;have hcz15_0 : w13.cell? ⟨gb247,0,none⟩ = some (.slice A0_0 l0_0.length c0_0):= (blk_cell BK247.out 0).trans rfl;have hcz15_1 : w13.cell? ⟨gb247,1,none⟩ = some (.slice A0_1 l0_1.length c0_1):= (blk_cell BK247.out 1).trans rfl;have hcz15_2 : w13.cell? ⟨gb247,2,none⟩ = some (.slice A0_2 l0_2.length c0_2):= (blk_cell BK247.out 2).trans rfl;have hfz15_0:= blk_frozen BK247.out 0;have hfz15_1:= blk_frozen BK247.out 1;have hfz15_2:= blk_frozen BK247.out 2)|((with_reducible refine gate_callee (f:= 12) rfl ?_);refine goesL_ (some 12) rfl rfl Try.func12 (by kernel_rfl) rfl #[.agg #[.slice A0_0 l0_0.length c0_0,.slice A0_1 l0_1.length c0_1,.slice A0_2 l0_2.length c0_2],.int .i64 1048576] rfl (by (try simp only [List.map_toArray,List.map_cons,List.map_nil]);first|done|rfl|(simp only [List.length_drop,List.length_take];rfl)) ?_;(with_reducible refine (laws_szCracker.calls _ _ l0_0 _ _ l0_1 _ _ l0_2 1048576 t249 _ ?side1 ?side2 ?side3 ?side4 ?side5 ?side6 A3.out).mono ?_);(case side1 => exact uc (Kd.C_below HR0_0.out HB.out));(case side2 => exact HC0_0.out);(case side3 => exact uc (Kd.C_below HR0_1.out HB.out));(case side4 => exact HC0_1.out);(case side5 => exact uc (Kd.C_below HR0_2.out HB.out));(case side6 => exact HC0_2.out);rintro e w16 ⟨rfl,hb⟩;refine ⟨_,rfl,?_⟩;have n0_:= mk (blk_below (g:= gb247) (o:= .cells #[.slice A0_0 l0_0.length c0_0,.slice A0_1 l0_1.length c0_1,.slice A0_2 l0_2.length c0_2] 25 (0,0)) (ub BK247.out) hb);have n1_:= mk (blk_below (g:= gb248) (o:= .cells #[.slice A1_0 l1_0.length c1_0,.slice A1_1 l1_1.length c1_1] 56 (0,0)) (ub BK248.out) hb);have n2_:= mk (below_step (by repeat (first|(with_reducible first|exact HB.out|apply below_alloc|apply pw_below_drewN|apply below_drew1|refine below_set ?_ GE247.out|refine below_set ?_ GE248.out)|exact HB.out)) hb);clear BK247;clear BK248;clear HB;have BK247:= n0_;have BK248:= n1_;have HB:= n2_;clear n0_ n1_ n2_;(try clear hb);(try clear hb2);(try clear hk);(try clear hi);have hcz17_0 : w16.cell? ⟨gb248,0,none⟩ = some (.slice A1_0 l1_0.length c1_0):= (blk_cell BK248.out 0).trans rfl;have hcz17_1 : w16.cell? ⟨gb248,1,none⟩ = some (.slice A1_1 l1_1.length c1_1):= (blk_cell BK248.out 1).trans rfl;have hfz17_0:= blk_frozen BK248.out 0;have hfz17_1:= blk_frozen BK248.out 1)|((with_reducible refine gate_callee (f:= 36) rfl ?_);refine goesL_ (some 17) rfl rfl Try.func36 (by kernel_rfl) rfl #[.agg #[.slice A1_0 l1_0.length c1_0,.slice A1_1 l1_1.length c1_1],.int .i64 t249] rfl (by (try simp only [List.map_toArray,List.map_cons,List.map_nil]);first|done|rfl|(simp only [List.length_drop,List.length_take];rfl)) ?_;(with_reducible refine (laws_szPending.calls _ _ l1_0 _ _ l1_1 t249 t250 _ ?side1 ?side2 ?side3 ?side4 A10.out).mono ?_);(case side1 => exact uc (Kd.C_below HR1_0.out HB.out));(case side2 => exact HC1_0.out);(case side3 => exact uc (Kd.C_below HR1_1.out HB.out));(case side4 => exact HC1_1.out);rintro e w18 ⟨rfl,hb⟩;refine ⟨_,rfl,?_⟩;have n0_:= mk (blk_below (g:= gb247) (o:= .cells #[.slice A0_0 l0_0.length c0_0,.slice A0_1 l0_1.length c0_1,.slice A0_2 l0_2.length c0_2] 25 (0,0)) (ub BK247.out) hb);have n1_:= mk (blk_below (g:= gb248) (o:= .cells #[.slice A1_0 l1_0.length c1_0,.slice A1_1 l1_1.length c1_1] 56 (0,0)) (ub BK248.out) hb);have n2_:= mk (below_step (by repeat (first|(with_reducible first|exact HB.out|apply below_alloc|apply pw_below_drewN|apply below_drew1|refine below_set ?_ GE247.out|refine below_set ?_ GE248.out)|exact HB.out)) hb);clear BK247;clear BK248;clear HB;have BK247:= n0_;have BK248:= n1_;have HB:= n2_;clear n0_ n1_ n2_;(try clear hb);(try clear hb2);(try clear hk);(try clear hi)))
   go_ret
   exact ⟨by first|rfl|(simp [errW_none,errW_some] <;> rfl)|(simp [*,errW_none,errW_some] <;> rfl),by repeat (first|(with_reducible first|exact HB.out|apply below_alloc|apply pw_below_drewN|apply below_drew1|refine below_set ?_ GE247.out|refine below_set ?_ GE248.out)|exact HB.out)⟩
  ·rw [if_neg c11] at H
   have c11b0 : decide (t250 < 0) = false:= decide_eq_false c11
   clear c11
   replace H:= Option.bind_eq_some_iff.mp H
   obtain ⟨⟨t251,t254,t257⟩,A190,H⟩:= H
   replace H : ((laws_toPending.f k l1_0 l1_1).bind fun bt260 => ((spec_IsPending.f k t251 t254 t257 bt260.1 bt260.2).bind fun t266 => ((laws_toCracker.f k l0_0 l0_1 l0_2).bind fun bt267 => ((laws_toPending.f k l1_0 l1_1).bind fun bt277 => ((impl_IsPending.f k bt267.1 bt267.2.1 bt267.2.2 bt277.1 bt277.2).bind fun t284 => (if (t284 != t266) = true then (some false) else ((laws_toCracker.f k l0_0 l0_1 l0_2).bind fun bt285 => ((laws_eqCracker.f k bt267.1 bt267.2.1 bt267.2.2 bt285.1 bt285.2.1 bt285.2.2).bind fun t294 => (if t294 = true then ((laws_toPending.f k l1_0 l1_1).bind fun bt295 => ((laws_eqPending.f k bt277.1 bt277.2 bt295.1 bt295.2).bind fun t301 => (if t301 = true then (some true) else (some false)))) else (some false)))))))))) = some r:= H
   have A19:= mk A190
   clear A190
   replace H:= Option.bind_eq_some_iff.mp H
   obtain ⟨⟨t260,t263⟩,A200,H⟩:= H
   replace H : ((spec_IsPending.f k t251 t254 t257 t260 t263).bind fun t266 => ((laws_toCracker.f k l0_0 l0_1 l0_2).bind fun bt267 => ((laws_toPending.f k l1_0 l1_1).bind fun bt277 => ((impl_IsPending.f k bt267.1 bt267.2.1 bt267.2.2 bt277.1 bt277.2).bind fun t284 => (if (t284 != t266) = true then (some false) else ((laws_toCracker.f k l0_0 l0_1 l0_2).bind fun bt285 => ((laws_eqCracker.f k bt267.1 bt267.2.1 bt267.2.2 bt285.1 bt285.2.1 bt285.2.2).bind fun t294 => (if t294 = true then ((laws_toPending.f k l1_0 l1_1).bind fun bt295 => ((laws_eqPending.f k bt277.1 bt277.2 bt295.1 bt295.2).bind fun t301 => (if t301 = true then (some true) else (some false)))) else (some false))))))))) = some r:= H
   have A20:= mk A200
   clear A200
   replace H:= Option.bind_eq_some_iff.mp H
   obtain ⟨t266,A210,H⟩:= H
   replace H : ((laws_toCracker.f k l0_0 l0_1 l0_2).bind fun bt267 => ((laws_toPending.f k l1_0 l1_1).bind fun bt277 => ((impl_IsPending.f k bt267.1 bt267.2.1 bt267.2.2 bt277.1 bt277.2).bind fun t284 => (if (t284 != t266) = true then (some false) else ((laws_toCracker.f k l0_0 l0_1 l0_2).bind fun bt285 => ((laws_eqCracker.f k bt267.1 bt267.2.1 bt267.2.2 bt285.1 bt285.2.1 bt285.2.2).bind fun t294 => (if t294 = true then ((laws_toPending.f k l1_0 l1_1).bind fun bt295 => ((laws_eqPending.f k bt277.1 bt277.2 bt295.1 bt295.2).bind fun t301 => (if t301 = true then (some true) else (some false)))) else (some false)))))))) = some r:= H
   have A21:= mk A210
   clear A210
   replace H:= Option.bind_eq_some_iff.mp H
   obtain ⟨⟨t267,t270,t273⟩,A220,H⟩:= H
   replace H : ((laws_toPending.f k l1_0 l1_1).bind fun bt277 => ((impl_IsPending.f k t267 t270 t273 bt277.1 bt277.2).bind fun t284 => (if (t284 != t266) = true then (some false) else ((laws_toCracker.f k l0_0 l0_1 l0_2).bind fun bt285 => ((laws_eqCracker.f k t267 t270 t273 bt285.1 bt285.2.1 bt285.2.2).bind fun t294 => (if t294 = true then ((laws_toPending.f k l1_0 l1_1).bind fun bt295 => ((laws_eqPending.f k bt277.1 bt277.2 bt295.1 bt295.2).bind fun t301 => (if t301 = true then (some true) else (some false)))) else (some false))))))) = some r:= H
   have A22:= mk A220
   clear A220
   replace H:= Option.bind_eq_some_iff.mp H
   obtain ⟨⟨t277,t280⟩,A230,H⟩:= H
   replace H : ((impl_IsPending.f k t267 t270 t273 t277 t280).bind fun t284 => (if (t284 != t266) = true then (some false) else ((laws_toCracker.f k l0_0 l0_1 l0_2).bind fun bt285 => ((laws_eqCracker.f k t267 t270 t273 bt285.1 bt285.2.1 bt285.2.2).bind fun t294 => (if t294 = true then ((laws_toPending.f k l1_0 l1_1).bind fun bt295 => ((laws_eqPending.f k t277 t280 bt295.1 bt295.2).bind fun t301 => (if t301 = true then (some true) else (some false)))) else (some false)))))) = some r:= H
   have A23:= mk A230
   clear A230
   replace H:= Option.bind_eq_some_iff.mp H
   obtain ⟨t284,A240,H⟩:= H
   replace H : (if (t284 != t266) = true then (some false) else ((laws_toCracker.f k l0_0 l0_1 l0_2).bind fun bt285 => ((laws_eqCracker.f k t267 t270 t273 bt285.1 bt285.2.1 bt285.2.2).bind fun t294 => (if t294 = true then ((laws_toPending.f k l1_0 l1_1).bind fun bt295 => ((laws_eqPending.f k t277 t280 bt295.1 bt295.2).bind fun t301 => (if t301 = true then (some true) else (some false)))) else (some false))))) = some r:= H
   have A24:= mk A240
   clear A240
   by_cases c25 : (t284 != t266) = true
   ·rw [if_pos c25] at H
    have c25b0 : (t284 != t266) = true:= c25
    (try (have c25b1 : decide (t284 = t266) = false:= by simpa using c25))
    (try (have c25b2 : (t284 == t266) = false:= by simpa using c25))
    (try (have c25b3 : ¬ (t284 = t266):= by simpa using c25))
    clear c25
    exact absurd ((Option.some.inj H).trans HRT.out) (by decide)
   ·rw [if_neg c25] at H
    have c25b0 : (t284 != t266) = false:= by simpa using c25
    (try (have c25b1 : decide (t284 = t266) = true:= by simpa using c25))
    (try (have c25b2 : (t284 == t266) = true:= by simpa using c25))
    clear c25
    replace H:= Option.bind_eq_some_iff.mp H
    obtain ⟨⟨t285,t288,t291⟩,A260,H⟩:= H
    replace H : ((laws_eqCracker.f k t267 t270 t273 t285 t288 t291).bind fun t294 => (if t294 = true then ((laws_toPending.f k l1_0 l1_1).bind fun bt295 => ((laws_eqPending.f k t277 t280 bt295.1 bt295.2).bind fun t301 => (if t301 = true then (some true) else (some false)))) else (some false))) = some r:= H
    have A26:= mk A260
    clear A260
    replace H:= Option.bind_eq_some_iff.mp H
    obtain ⟨t294,A270,H⟩:= H
    replace H : (if t294 = true then ((laws_toPending.f k l1_0 l1_1).bind fun bt295 => ((laws_eqPending.f k t277 t280 bt295.1 bt295.2).bind fun t301 => (if t301 = true then (some true) else (some false)))) else (some false)) = some r:= H
    have A27:= mk A270
    clear A270
    by_cases c28 : t294 = true
    ·subst c28
     have H1 : ((laws_toPending.f k l1_0 l1_1).bind fun bt295 => ((laws_eqPending.f k t277 t280 bt295.1 bt295.2).bind fun t301 => (if t301 = true then (some true) else (some false)))) = some r:= by rw [if_pos rfl] at H;exact H
     clear H
     have H:= H1
     clear H1
     replace H:= Option.bind_eq_some_iff.mp H
     obtain ⟨⟨t295,t298⟩,A290,H⟩:= H
     replace H : ((laws_eqPending.f k t277 t280 t295 t298).bind fun t301 => (if t301 = true then (some true) else (some false))) = some r:= H
     have A29:= mk A290
     clear A290
     replace H:= Option.bind_eq_some_iff.mp H
     obtain ⟨t301,A300,H⟩:= H
     replace H : (if t301 = true then (some true) else (some false)) = some r:= H
     have A30:= mk A300
     clear A300
     by_cases c31 : t301 = true
     ·subst c31
      have H1 : (some true) = some r:= by rw [if_pos rfl] at H;exact H
      clear H
      have H:= H1
      clear H1
      obtain rfl:= Option.some.inj H
      go_enter Try.func10,Try.ntmps10
      try go_wp2_with (first|((with_reducible refine gate_dst (N:= 2) rfl ?_);refine box_event ?hg (N:= 2) ?hd (cs:= #[.slice A0_0 l0_0.length c0_0,.slice A0_1 l0_1.length c0_1,.slice A0_2 l0_2.length c0_2]) (t:= 25) ?hr ?_;(case hd => rfl);(case hg => rfl);(case hr => first|(go_simp;done)|(go_simp;rfl));intro gb247 hg w32 hbox hb;have n0_:= mk (below_step (by repeat (first|(with_reducible first|exact HB.out|apply below_alloc|apply pw_below_drewN|apply below_drew1)|exact HB.out)) hb);have n1_:= mk (hbox);have n2_:= mk ((by rw [hg];exact (below_size (by repeat (first|(with_reducible first|exact HB.out|apply below_alloc|apply pw_below_drewN|apply below_drew1)|exact HB.out))) : w.heap.size ≤ gb247));have n3_:= mk ((by rw [hg];exact (below_size (by repeat (first|(with_reducible first|exact HB.out|apply below_alloc|apply pw_below_drewN|apply below_drew1)|exact HB.out))) : w.heap.size ≤ gb247));clear HB;have HB:= n0_;have BK247:= n1_;have GW247:= n2_;have GE247:= n3_;clear n0_ n1_ n2_ n3_;clear hb hbox hg)|((with_reducible refine gate_dst (N:= 3) rfl ?_);refine box_event ?hg (N:= 3) ?hd (cs:= #[.slice A1_0 l1_0.length c1_0,.slice A1_1 l1_1.length c1_1]) (t:= 56) ?hr ?_;(case hd => rfl);(case hg => rfl);(case hr => first|(go_simp;done)|(go_simp;rfl));intro gb248 hg w33 hbox hb;have n0_:= mk (blk_below (g:= gb247) (o:= .cells #[.slice A0_0 l0_0.length c0_0,.slice A0_1 l0_1.length c0_1,.slice A0_2 l0_2.length c0_2] 25 (0,0)) (ub BK247.out) hb);have n1_:= mk (below_step (by repeat (first|(with_reducible first|exact HB.out|apply below_alloc|apply pw_below_drewN|apply below_drew1|refine below_set ?_ GE247.out)|exact HB.out)) hb);have n2_:= mk (hbox);have n3_:= mk ((by rw [hg];exact (below_size (by repeat (first|(with_reducible first|exact HB.out|apply below_alloc|apply pw_below_drewN|apply below_drew1|refine below_set ?_ GE247.out)|exact HB.out))) : w.heap.size ≤ gb248));have n4_:= mk ((by rw [hg];exact (below_size (by repeat (first|(with_reducible first|exact HB.out|apply below_alloc|apply pw_below_drewN|apply below_drew1|refine below_set ?_ GE247.out)|exact HB.out))) : w.heap.size ≤ gb248));have n5_:= mk ((by rw [hg];exact Nat.ne_of_lt (blk_lt (g:= gb247) (o:= .cells #[.slice A0_0 l0_0.length c0_0,.slice A0_1 l0_1.length c0_1,.slice A0_2 l0_2.length c0_2] 25 (0,0)) (ub BK247.out)) : gb247 ≠ gb248));have n6_:= mk ((by rw [hg];exact Nat.ne_of_gt (blk_lt (g:= gb247) (o:= .cells #[.slice A0_0 l0_0.length c0_0,.slice A0_1 l0_1.length c0_1,.slice A0_2 l0_2.length c0_2] 25 (0,0)) (ub BK247.out)) : gb248 ≠ gb247));clear BK247;clear HB;have BK247:= n0_;have HB:= n1_;have BK248:= n2_;have GW248:= n3_;have GE248:= n4_;have NB247_248:= n5_;have NB248_247:= n6_;clear n0_ n1_ n2_ n3_ n4_ n5_ n6_;clear hb hbox hg;have hnb34:= NB247_248.out;have hnc34:= NB248_247.out;have hcz35_0 : w33.cell? ⟨gb247,0,none⟩ = some (.slice A0_0 l0_0.length c0_0):= (blk_cell BK247.out 0).trans rfl;have hcz35_1 : w33.cell? ⟨gb247,1,none⟩ = some (.slice A0_1 l0_1.length c0_1):= (blk_cell BK247.out 1).trans rfl;have hcz35_2 : w33.cell? ⟨gb247,2,none⟩ = some (.slice A0_2 l0_2.length c0_2):= (blk_cell BK247.out 2).trans rfl;have hfz35_0:= blk_frozen BK247.out 0;have hfz35_1:= blk_frozen BK247.out 1;have hfz35_2:= blk_frozen BK247.out 2)|((with_reducible refine gate_callee (f:= 12) rfl ?_);refine goesL_ (some 12) rfl rfl Try.func12 (by kernel_rfl) rfl #[.agg #[.slice A0_0 l0_0.length c0_0,.slice A0_1 l0_1.length c0_1,.slice A0_2 l0_2.length c0_2],.int .i64 1048576] rfl (by (try simp only [List.map_toArray,List.map_cons,List.map_nil]);first|done|rfl|(simp only [List.length_drop,List.length_take];rfl)) ?_;(with_reducible refine (laws_szCracker.calls _ _ l0_0 _ _ l0_1 _ _ l0_2 1048576 t249 _ ?side1 ?side2 ?side3 ?side4 ?side5 ?side6 A3.out).mono ?_);(case side1 => exact uc (Kd.C_below HR0_0.out HB.out));(case side2 => exact HC0_0.out);(case side3 => exact uc (Kd.C_below HR0_1.out HB.out));(case side4 => exact HC0_1.out);(case side5 => exact uc (Kd.C_below HR0_2.out HB.out));(case side6 => exact HC0_2.out);rintro e w36 ⟨rfl,hb⟩;refine ⟨_,rfl,?_⟩;have n0_:= mk (blk_below (g:= gb247) (o:= .cells #[.slice A0_0 l0_0.length c0_0,.slice A0_1 l0_1.length c0_1,.slice A0_2 l0_2.length c0_2] 25 (0,0)) (ub BK247.out) hb);have n1_:= mk (blk_below (g:= gb248) (o:= .cells #[.slice A1_0 l1_0.length c1_0,.slice A1_1 l1_1.length c1_1] 56 (0,0)) (ub BK248.out) hb);have n2_:= mk (below_step (by repeat (first|(with_reducible first|exact HB.out|apply below_alloc|apply pw_below_drewN|apply below_drew1|refine below_set ?_ GE247.out|refine below_set ?_ GE248.out)|exact HB.out)) hb);clear BK247;clear BK248;clear HB;have BK247:= n0_;have BK248:= n1_;have HB:= n2_;clear n0_ n1_ n2_;(try clear hb);(try clear hb2);(try clear hk);(try clear hi);have hcz37_0 : w36.cell? ⟨gb248,0,none⟩ = some (.slice A1_0 l1_0.length c1_0):= (blk_cell BK248.out 0).trans rfl;have hcz37_1 : w36.cell? ⟨gb248,1,none⟩ = some (.slice A1_1 l1_1.length c1_1):= (blk_cell BK248.out 1).trans rfl;have hfz37_0:= blk_frozen BK248.out 0;have hfz37_1:= blk_frozen BK248.out 1)|((with_reducible refine gate_callee (f:= 36) rfl ?_);refine goesL_ (some 17) rfl rfl Try.func36 (by kernel_rfl) rfl #[.agg #[.slice A1_0 l1_0.length c1_0,.slice A1_1 l1_1.length c1_1],.int .i64 t249] rfl (by (try simp only [List.map_toArray,List.map_cons,List.map_nil]);first|done|rfl|(simp only [List.length_drop,List.length_take];rfl)) ?_;(with_reducible refine (laws_szPending.calls _ _ l1_0 _ _ l1_1 t249 t250 _ ?side1 ?side2 ?side3 ?side4 A10.out).mono ?_);(case side1 => exact uc (Kd.C_below HR1_0.out HB.out));(case side2 => exact HC1_0.out);(case side3 => exact uc (Kd.C_below HR1_1.out HB.out));(case side4 => exact HC1_1.out);rintro e w38 ⟨rfl,hb⟩;refine ⟨_,rfl,?_⟩;have n0_:= mk (blk_below (g:= gb247) (o:= .cells #[.slice A0_0 l0_0.length c0_0,.slice A0_1 l0_1.length c0_1,.slice A0_2 l0_2.length c0_2] 25 (0,0)) (ub BK247.out) hb);have n1_:= mk (blk_below (g:= gb248) (o:= .cells #[.slice A1_0 l1_0.length c1_0,.slice A1_1 l1_1.length c1_1] 56 (0,0)) (ub BK248.out) hb);have n2_:= mk (below_step (by repeat (first|(with_reducible first|exact HB.out|apply below_alloc|apply pw_below_drewN|apply below_drew1|refine below_set ?_ GE247.out|refine below_set ?_ GE248.out)|exact HB.out)) hb);clear BK247;clear BK248;clear HB;have BK247:= n0_;have BK248:= n1_;have HB:= n2_;clear n0_ n1_ n2_;(try clear hb);(try clear hb2);(try clear hk);(try clear hi)))
      have n0_:= mk (blk_drew BK247.out)
      have n1_:= mk (blk_drew BK248.out)
      have n2_:= mk (below_drew1 HB.out)
      clear BK247
      clear BK248
      clear HB
      have BK247:= n0_
      have BK248:= n1_
      have HB:= n2_
      clear n0_ n1_ n2_
      refine start_ (n:= 6) (S:= fun w' => w'.cell? ⟨gb247,0,none⟩ = some (.slice A0_0 l0_0.length c0_0) ∧ w'.cell? ⟨gb247,1,none⟩ = some (.slice A0_1 l0_1.length c0_1) ∧ w'.cell? ⟨gb247,2,none⟩ = some (.slice A0_2 l0_2.length c0_2) ∧ w'.cell? ⟨gb248,0,none⟩ = some (.slice A1_0 l1_0.length c1_0) ∧ w'.cell? ⟨gb248,1,none⟩ = some (.slice A1_1 l1_1.length c1_1)) (ds:= []) #[F_,F_,F_,F_,F_,F_] (by kernel_rfl) rfl rfl ⟨(blk_cell BK247.out 0).trans rfl,(blk_cell BK247.out 1).trans rfl,(blk_cell BK247.out 2).trans rfl,(blk_cell BK248.out 0).trans rfl,(blk_cell BK248.out 1).trans rfl⟩ (fun hHeld => ?_)
      generalize w38.drew = w39 at BK247 BK248 HB hHeld ⊢
      refine take_ (i:= 0) (N:= some 20) (v:= ?_) (a':= ?_) #[T_,F_,F_,F_,F_,F_] rfl rfl (by kernel_rfl) (fun _ _ _ h => h) (Or.inl ⟨by rfl,?_⟩) hHeld ?_ ?_
      rotate_left
      ·rintro w' ⟨s0,s1,s2,s3,s4⟩
       go_simp
       with_reducible rfl
      rotate_left
      ·simp only [Act.put,List.setIfInBounds_toArray,List.set_cons_zero,List.set_cons_succ,i64_w,i32_w]
       rfl
      refine take_ (i:= 2) (N:= some 22) (v:= ?_) (a':= ?_) #[T_,F_,T_,F_,F_,F_] rfl rfl (by kernel_rfl) (fun _ _ _ h => h) (Or.inl ⟨by rfl,?_⟩) hHeld ?_ ?_
      rotate_left
      ·rintro w' ⟨s0,s1,s2,s3,s4⟩
       go_simp
       with_reducible rfl
      rotate_left
      ·simp only [Act.put,List.setIfInBounds_toArray,List.set_cons_zero,List.set_cons_succ,i64_w,i32_w]
       rfl
      refine one_ (i:= 1) (N:= some 21) #[T_,T_,T_,F_,F_,F_] rfl rfl (by kernel_rfl) (by decide) (fun K hK => ?_)
      refine goes_ Try.func14 (by kernel_rfl) rfl #[.agg #[.slice A0_0 l0_0.length c0_0,.slice A0_1 l0_1.length c0_1,.slice A0_2 l0_2.length c0_2]] (by rfl) rfl rfl (by (try simp only [List.map_toArray,List.map_cons,List.map_nil]);first|done|rfl|(simp only [List.length_drop,List.length_take];rfl)) ?_
      with_reducible refine (laws_toCracker.calls k _ _ l0_0 _ _ l0_1 _ _ l0_2 t251 t254 t257 _ ?side1 ?side2 ?side3 ?side4 ?side5 ?side6 A19.out).mono ?_
      (case side1 => exact uc (Kd.C_below HR0_0.out HB.out))
      (case side2 => exact HC0_0.out)
      (case side3 => exact uc (Kd.C_below HR0_1.out HB.out))
      (case side4 => exact HC0_1.out)
      (case side5 => exact uc (Kd.C_below HR0_2.out HB.out))
      (case side6 => exact HC0_2.out)
      rintro e w40 ⟨v252,v255,v258,rfl,ho0,ho1,ho2,hb⟩
      refine ⟨_,rfl,?_⟩
      have n0_:= mk (Kd.R_lower ho0 (below_size (by repeat (first|(with_reducible first|exact HB.out|apply below_alloc|apply pw_below_drewN|apply below_drew1|refine below_set ?_ GE247.out|refine below_set ?_ GE248.out)|exact HB.out))))
      have n1_:= mk (Kd.R_lower ho1 (below_size (by repeat (first|(with_reducible first|exact HB.out|apply below_alloc|apply pw_below_drewN|apply below_drew1|refine below_set ?_ GE247.out|refine below_set ?_ GE248.out)|exact HB.out))))
      have n2_:= mk (Kd.R_lower ho2 (below_size (by repeat (first|(with_reducible first|exact HB.out|apply below_alloc|apply pw_below_drewN|apply below_drew1|refine below_set ?_ GE247.out|refine below_set ?_ GE248.out)|exact HB.out))))
      have n3_:= mk (blk_below (g:= gb247) (o:= .cells #[.slice A0_0 l0_0.length c0_0,.slice A0_1 l0_1.length c0_1,.slice A0_2 l0_2.length c0_2] 25 (0,0)) (ub BK247.out) hb)
      have n4_:= mk (blk_below (g:= gb248) (o:= .cells #[.slice A1_0 l1_0.length c1_0,.slice A1_1 l1_1.length c1_1] 56 (0,0)) (ub BK248.out) hb)
      have n5_:= mk (below_step (by repeat (first|(with_reducible first|exact HB.out|apply below_alloc|apply pw_below_drewN|apply below_drew1|refine below_set ?_ GE247.out|refine below_set ?_ GE248.out)|exact HB.out)) hb)
      clear BK247
      clear BK248
      clear HB
      have HO253:= n0_
      have HO256:= n1_
      have HO259:= n2_
      have BK247:= n3_
      have BK248:= n4_
      have HB:= n5_
      clear n0_ n1_ n2_ n3_ n4_ n5_
      (try clear hb)
      (try clear hb2)
      (try clear hk)
      (try clear hi)
      (try clear ho0)
      (try clear ho1)
      (try clear ho2)
      refine hK.out _ _ ⟨(blk_cell BK247.out 0).trans rfl,(blk_cell BK247.out 1).trans rfl,(blk_cell BK247.out 2).trans rfl,(blk_cell BK248.out 0).trans rfl,(blk_cell BK248.out 1).trans rfl⟩ (fun hHeld => ?_)
      clear hK K
      refine norm_ (a':= ?_) ?_ ?_
      rotate_left
      ·show Act.put _ (some 21) _ = _
       simp only [Act.put,List.setIfInBounds_toArray,List.set_cons_zero,List.set_cons_succ,i64_w,i32_w]
       rfl
      refine one_ (i:= 3) (N:= some 23) #[T_,T_,T_,T_,F_,F_] rfl rfl (by kernel_rfl) (by decide) (fun K hK => ?_)
      refine goes_ Try.func38 (by kernel_rfl) rfl #[.agg #[.slice A1_0 l1_0.length c1_0,.slice A1_1 l1_1.length c1_1]] (by rfl) rfl rfl (by (try simp only [List.map_toArray,List.map_cons,List.map_nil]);first|done|rfl|(simp only [List.length_drop,List.length_take];rfl)) ?_
      with_reducible refine (laws_toPending.calls k _ _ l1_0 _ _ l1_1 t260 t263 _ ?side1 ?side2 ?side3 ?side4 A20.out).mono ?_
      (case side1 => exact uc (Kd.C_below HR1_0.out HB.out))
      (case side2 => exact HC1_0.out)
      (case side3 => exact uc (Kd.C_below HR1_1.out HB.out))
      (case side4 => exact HC1_1.out)
      rintro e w41 ⟨v261,v264,rfl,ho0,ho1,hb⟩
      refine ⟨_,rfl,?_⟩
      have n0_:= mk (Kd.R_elder' (up HO253.out) (Kd.R_base ho1) hb)
      have n1_:= mk (Kd.R_elder' (up HO256.out) (Kd.R_base ho1) hb)
      have n2_:= mk (Kd.R_below (up HO259.out) hb)
      have n3_:= mk (Kd.R_lower ho0 (below_size (by repeat (first|(with_reducible first|exact HB.out|apply below_alloc|apply pw_below_drewN|apply below_drew1|refine below_set ?_ GE247.out|refine below_set ?_ GE248.out)|exact HB.out))))
      have n4_:= mk (Kd.R_lower (Kd.R_new' (Kd.R_new' ho1 (Kd.R_lt (up HO253.out))) (Kd.R_lt (up HO256.out))) (below_size (by repeat (first|(with_reducible first|exact HB.out|apply below_alloc|apply pw_below_drewN|apply below_drew1|refine below_set ?_ GE247.out|refine below_set ?_ GE248.out)|exact HB.out))))
      have n5_:= mk (blk_below (g:= gb247) (o:= .cells #[.slice A0_0 l0_0.length c0_0,.slice A0_1 l0_1.length c0_1,.slice A0_2 l0_2.length c0_2] 25 (0,0)) (ub BK247.out) hb)
      have n6_:= mk (blk_below (g:= gb248) (o:= .cells #[.slice A1_0 l1_0.length c1_0,.slice A1_1 l1_1.length c1_1] 56 (0,0)) (ub BK248.out) hb)
      have n7_:= mk (below_step (by repeat (first|(with_reducible first|exact HB.out|apply below_alloc|apply pw_below_drewN|apply below_drew1|refine below_set ?_ GE247.out|refine below_set ?_ GE248.out)|exact HB.out)) hb)
      clear HO253
      clear HO256
      clear HO259
      clear BK247
      clear BK248
      clear HB
      have HO253:= n0_
      have HO256:= n1_
      have HO259:= n2_
      have HO262:= n3_
      have HO265:= n4_
      have BK247:= n5_
      have BK248:= n6_
      have HB:= n7_
      clear n0_ n1_ n2_ n3_ n4_ n5_ n6_ n7_
      (try clear hb)
      (try clear hb2)
      (try clear hk)
      (try clear hi)
      (try clear ho0)
      (try clear ho1)
      obtain ⟨Ao42,co42,eo42⟩:= Kd.R_slice HO253.out
      (first|subst eo42|(injection eo42 with f1_ f2_ f3_;have f4_:= f1_.symm;have f5_:= f3_.symm;clear f1_ f2_ f3_;subst f4_;subst f5_))
      obtain ⟨Ao43,co43,eo43⟩:= Kd.R_slice HO256.out
      (first|subst eo43|(injection eo43 with f1_ f2_ f3_;have f4_:= f1_.symm;have f5_:= f3_.symm;clear f1_ f2_ f3_;subst f4_;subst f5_))
      obtain ⟨Ao44,co44,eo44⟩:= Kd.R_slice HO259.out
      (first|subst eo44|(injection eo44 with f1_ f2_ f3_;have f4_:= f1_.symm;have f5_:= f3_.symm;clear f1_ f2_ f3_;subst f4_;subst f5_))
      obtain ⟨Ao45,co45,eo45⟩:= Kd.R_slice HO262.out
      (first|subst eo45|(injection eo45 with f1_ f2_ f3_;have f4_:= f1_.symm;have f5_:= f3_.symm;clear f1_ f2_ f3_;subst f4_;subst f5_))
      obtain ⟨Ao46,co46,eo46⟩:= Kd.R_slice HO265.out
      (first|subst eo46|(injection eo46 with f1_ f2_ f3_;have f4_:= f1_.symm;have f5_:= f3_.symm;clear f1_ f2_ f3_;subst f4_;subst f5_))
      refine hK.out _ _ ⟨(blk_cell BK247.out 0).trans rfl,(blk_cell BK247.out 1).trans rfl,(blk_cell BK247.out 2).trans rfl,(blk_cell BK248.out 0).trans rfl,(blk_cell BK248.out 1).trans rfl⟩ (fun hHeld => ?_)
      clear hK K
      refine norm_ (a':= ?_) ?_ ?_
      rotate_left
      ·show Act.put _ (some 23) _ = _
       simp only [Act.put,List.setIfInBounds_toArray,List.set_cons_zero,List.set_cons_succ,i64_w,i32_w]
       rfl
      refine one_ (i:= 4) (N:= some 24) #[T_,T_,T_,T_,T_,F_] rfl rfl (by kernel_rfl) (by decide) (fun K hK => ?_)
      refine goes_ Try.func37 (by kernel_rfl) rfl #[.agg #[.slice Ao42 t251.length co42,.slice Ao43 t254.length co43,.slice Ao44 t257.length co44],.agg #[.slice Ao45 t260.length co45,.slice Ao46 t263.length co46]] (by rfl) rfl rfl (by (try simp only [List.map_toArray,List.map_cons,List.map_nil]);first|done|rfl|(simp only [List.length_drop,List.length_take];rfl)) ?_
      with_reducible refine (spec_IsPending.calls k _ _ t251 _ _ t254 _ _ t257 _ _ t260 _ _ t263 t266 _ ?side1 ?side2 ?side3 ?side4 ?side5 ?side6 ?side7 ?side8 ?side9 ?side10 A21.out).mono ?_
      (case side1 => exact uc (Kd.R_reads' HO253.out).2.2)
      (case side2 => exact (Kd.R_reads' HO253.out).2.1)
      (case side3 => exact uc (Kd.R_reads' HO256.out).2.2)
      (case side4 => exact (Kd.R_reads' HO256.out).2.1)
      (case side5 => exact uc (Kd.R_reads' HO259.out).2.2)
      (case side6 => exact (Kd.R_reads' HO259.out).2.1)
      (case side7 => exact uc (Kd.R_reads' HO262.out).2.2)
      (case side8 => exact (Kd.R_reads' HO262.out).2.1)
      (case side9 => exact uc (Kd.R_reads' HO265.out).2.2)
      (case side10 => exact (Kd.R_reads' HO265.out).2.1)
      rintro e w47 ⟨rfl,hb⟩
      refine ⟨_,rfl,?_⟩
      have n0_:= mk (Kd.R_below (up HO253.out) hb)
      have n1_:= mk (Kd.R_below (up HO256.out) hb)
      have n2_:= mk (Kd.R_below (up HO259.out) hb)
      have n3_:= mk (Kd.R_below (up HO262.out) hb)
      have n4_:= mk (Kd.R_below (up HO265.out) hb)
      have n5_:= mk (blk_below (g:= gb247) (o:= .cells #[.slice A0_0 l0_0.length c0_0,.slice A0_1 l0_1.length c0_1,.slice A0_2 l0_2.length c0_2] 25 (0,0)) (ub BK247.out) hb)
      have n6_:= mk (blk_below (g:= gb248) (o:= .cells #[.slice A1_0 l1_0.length c1_0,.slice A1_1 l1_1.length c1_1] 56 (0,0)) (ub BK248.out) hb)
      have n7_:= mk (below_step (by repeat (first|(with_reducible first|exact HB.out|apply below_alloc|apply pw_below_drewN|apply below_drew1|refine below_set ?_ GE247.out|refine below_set ?_ GE248.out)|exact HB.out)) hb)
      clear HO253
      clear HO256
      clear HO259
      clear HO262
      clear HO265
      clear BK247
      clear BK248
      clear HB
      have HO253:= n0_
      have HO256:= n1_
      have HO259:= n2_
      have HO262:= n3_
      have HO265:= n4_
      have BK247:= n5_
      have BK248:= n6_
      have HB:= n7_
      clear n0_ n1_ n2_ n3_ n4_ n5_ n6_ n7_
      (try clear hb)
      (try clear hb2)
      (try clear hk)
      (try clear hi)
      refine hK.out _ _ ⟨(blk_cell BK247.out 0).trans rfl,(blk_cell BK247.out 1).trans rfl,(blk_cell BK247.out 2).trans rfl,(blk_cell BK248.out 0).trans rfl,(blk_cell BK248.out 1).trans rfl⟩ (fun hHeld => ?_)
      clear hK K
      refine norm_ (a':= ?_) ?_ ?_
      rotate_left
      ·show Act.put _ (some 24) _ = _
       simp only [Act.put,List.setIfInBounds_toArray,List.set_cons_zero,List.set_cons_succ,i64_w,i32_w]
       rfl
      refine pure_ (i:= 5) (N:= some 6) (v:= ?_) (a':= ?_) #[T_,T_,T_,T_,T_,T_] rfl rfl (by kernel_rfl) (fun _ _ _ h => h) (Or.inl ⟨by rfl,?_⟩) ?_ ?_
      rotate_left
      ·intro w'
       go_simp
       with_reducible rfl
      rotate_left
      ·simp only [Act.put,List.setIfInBounds_toArray,List.set_cons_zero,List.set_cons_succ,i64_w,i32_w]
       rfl
      refine done_ (by kernel_rfl) ?_
      have hcz48_0 : w47.cell? ⟨gb247,0,none⟩ = some (.slice A0_0 l0_0.length c0_0):= (blk_cell BK247.out 0).trans rfl
      have hcz48_1 : w47.cell? ⟨gb247,1,none⟩ = some (.slice A0_1 l0_1.length c0_1):= (blk_cell BK247.out 1).trans rfl
      have hcz48_2 : w47.cell? ⟨gb247,2,none⟩ = some (.slice A0_2 l0_2.length c0_2):= (blk_cell BK247.out 2).trans rfl
      have hfz48_0:= blk_frozen BK247.out 0
      have hfz48_1:= blk_frozen BK247.out 1
      have hfz48_2:= blk_frozen BK247.out 2
      try go_wp2_with (first|((with_reducible refine gate_callee (f:= 14) rfl ?_);refine goesL_ (some 26) rfl rfl Try.func14 (by kernel_rfl) rfl #[.agg #[.slice A0_0 l0_0.length c0_0,.slice A0_1 l0_1.length c0_1,.slice A0_2 l0_2.length c0_2]] rfl (by (try simp only [List.map_toArray,List.map_cons,List.map_nil]);first|done|rfl|(simp only [List.length_drop,List.length_take];rfl)) ?_;(with_reducible refine (laws_toCracker.calls k _ _ l0_0 _ _ l0_1 _ _ l0_2 t267 t270 t273 _ ?side1 ?side2 ?side3 ?side4 ?side5 ?side6 A22.out).mono ?_);(case side1 => exact uc (Kd.C_below HR0_0.out HB.out));(case side2 => exact HC0_0.out);(case side3 => exact uc (Kd.C_below HR0_1.out HB.out));(case side4 => exact HC0_1.out);(case side5 => exact uc (Kd.C_below HR0_2.out HB.out));(case side6 => exact HC0_2.out);rintro e w49 ⟨v268,v271,v274,rfl,ho0,ho1,ho2,hb⟩;refine ⟨_,rfl,?_⟩;have n0_:= mk (Kd.R_mono (Kd.R_told (Kd.R_told (Kd.R_old (up HO253.out) hb) (Kd.R_base ho0)) (Kd.R_base ho1)) (fun _ h_ => h_.1));have n1_:= mk (Kd.R_mono (Kd.R_told (Kd.R_told (Kd.R_old (up HO256.out) hb) (Kd.R_base ho0)) (Kd.R_base ho1)) (fun _ h_ => h_.1));have n2_:= mk (Kd.R_elder' (up HO259.out) (Kd.R_base ho2) hb);have n3_:= mk (Kd.R_below (up HO262.out) hb);have n4_:= mk (Kd.R_mono (Kd.R_told (Kd.R_told (Kd.R_old (up HO265.out) hb) (Kd.R_base ho0)) (Kd.R_base ho1)) (fun _ h_ => h_.1));have n5_:= mk (Kd.R_lower (Kd.R_new' (Kd.R_new' (Kd.R_new' ho0 (Kd.R_lt (up HO253.out))) (Kd.R_lt (up HO256.out))) (Kd.R_lt (up HO265.out))) (below_size (by repeat (first|(with_reducible first|exact HB.out|apply below_alloc|apply pw_below_drewN|apply below_drew1|refine below_set ?_ GE247.out|refine below_set ?_ GE248.out)|exact HB.out))));have n6_:= mk (Kd.R_lower (Kd.R_new' (Kd.R_new' (Kd.R_new' ho1 (Kd.R_lt (up HO253.out))) (Kd.R_lt (up HO256.out))) (Kd.R_lt (up HO265.out))) (below_size (by repeat (first|(with_reducible first|exact HB.out|apply below_alloc|apply pw_below_drewN|apply below_drew1|refine below_set ?_ GE247.out|refine below_set ?_ GE248.out)|exact HB.out))));have n7_:= mk (Kd.R_lower (Kd.R_new' ho2 (Kd.R_lt (up HO259.out))) (below_size (by repeat (first|(with_reducible first|exact HB.out|apply below_alloc|apply pw_below_drewN|apply below_drew1|refine below_set ?_ GE247.out|refine below_set ?_ GE248.out)|exact HB.out))));have n8_:= mk (blk_below (g:= gb247) (o:= .cells #[.slice A0_0 l0_0.length c0_0,.slice A0_1 l0_1.length c0_1,.slice A0_2 l0_2.length c0_2] 25 (0,0)) (ub BK247.out) hb);have n9_:= mk (blk_below (g:= gb248) (o:= .cells #[.slice A1_0 l1_0.length c1_0,.slice A1_1 l1_1.length c1_1] 56 (0,0)) (ub BK248.out) hb);have n10_:= mk (below_step (by repeat (first|(with_reducible first|exact HB.out|apply below_alloc|apply pw_below_drewN|apply below_drew1|refine below_set ?_ GE247.out|refine below_set ?_ GE248.out)|exact HB.out)) hb);clear HO253;clear HO256;clear HO259;clear HO262;clear HO265;clear BK247;clear BK248;clear HB;have HO253:= n0_;have HO256:= n1_;have HO259:= n2_;have HO262:= n3_;have HO265:= n4_;have HO269:= n5_;have HO272:= n6_;have HO275:= n7_;have BK247:= n8_;have BK248:= n9_;have HB:= n10_;clear n0_ n1_ n2_ n3_ n4_ n5_ n6_ n7_ n8_ n9_ n10_;(try clear hb);(try clear hb2);(try clear hk);(try clear hi);(try clear ho0);(try clear ho1);(try clear ho2))|((with_reducible refine gate_dst (N:= 7) rfl ?_);refine box_event ?hg (N:= 7) ?hd (cs:= #[.slice none 0 0,.slice none 0 0,.slice none 0 0]) (t:= 30) ?hr ?_;(case hd => rfl);(case hg => rfl);(case hr => first|(go_simp;done)|(go_simp;rfl));intro gb276 hg w50 hbox hb;have n0_:= mk (Kd.R_below (up HO253.out) hb);have n1_:= mk (Kd.R_below (up HO256.out) hb);have n2_:= mk (Kd.R_below (up HO259.out) hb);have n3_:= mk (Kd.R_below (up HO262.out) hb);have n4_:= mk (Kd.R_below (up HO265.out) hb);have n5_:= mk (Kd.R_below (up HO269.out) hb);have n6_:= mk (Kd.R_below (up HO272.out) hb);have n7_:= mk (Kd.R_below (up HO275.out) hb);have n8_:= mk (blk_below (g:= gb247) (o:= .cells #[.slice A0_0 l0_0.length c0_0,.slice A0_1 l0_1.length c0_1,.slice A0_2 l0_2.length c0_2] 25 (0,0)) (ub BK247.out) hb);have n9_:= mk (blk_below (g:= gb248) (o:= .cells #[.slice A1_0 l1_0.length c1_0,.slice A1_1 l1_1.length c1_1] 56 (0,0)) (ub BK248.out) hb);have n10_:= mk (below_step (by repeat (first|(with_reducible first|exact HB.out|apply below_alloc|apply pw_below_drewN|apply below_drew1|refine below_set ?_ GE247.out|refine below_set ?_ GE248.out)|exact HB.out)) hb);have n11_:= mk (hbox);have n12_:= mk ((by rw [hg];exact (below_size (by repeat (first|(with_reducible first|exact HB.out|apply below_alloc|apply pw_below_drewN|apply below_drew1|refine below_set ?_ GE247.out|refine below_set ?_ GE248.out)|exact HB.out))) : w.heap.size ≤ gb276));have n13_:= mk ((by rw [hg];exact (below_size (by repeat (first|(with_reducible first|exact HB.out|apply below_alloc|apply pw_below_drewN|apply below_drew1|refine below_set ?_ GE247.out|refine below_set ?_ GE248.out)|exact HB.out))) : w.heap.size ≤ gb276));have n14_:= mk ((by rw [hg];exact Nat.ne_of_lt (blk_lt (g:= gb247) (o:= .cells #[.slice A0_0 l0_0.length c0_0,.slice A0_1 l0_1.length c0_1,.slice A0_2 l0_2.length c0_2] 25 (0,0)) (ub BK247.out)) : gb247 ≠ gb276));have n15_:= mk ((by rw [hg];exact Nat.ne_of_gt (blk_lt (g:= gb247) (o:= .cells #[.slice A0_0 l0_0.length c0_0,.slice A0_1 l0_1.length c0_1,.slice A0_2 l0_2.length c0_2] 25 (0,0)) (ub BK247.out)) : gb276 ≠ gb247));have n16_:= mk ((by rw [hg];exact Nat.ne_of_lt (blk_lt (g:= gb248) (o:= .cells #[.slice A1_0 l1_0.length c1_0,.slice A1_1 l1_1.length c1_1] 56 (0,0)) (ub BK248.out)) : gb248 ≠ gb276));have n17_:= mk ((by rw [hg];exact Nat.ne_of_gt (blk_lt (g:= gb248) (o:= .cells #[.slice A1_0 l1_0.length c1_0,.slice A1_1 l1_1.length c1_1] 56 (0,0)) (ub BK248.out)) : gb276 ≠ gb248));clear HO253;clear HO256;clear HO259;clear HO262;clear HO265;clear HO269;clear HO272;clear HO275;clear BK247;clear BK248;clear HB;have HO253:= n0_;have HO256:= n1_;have HO259:= n2_;have HO262:= n3_;have HO265:= n4_;have HO269:= n5_;have HO272:= n6_;have HO275:= n7_;have BK247:= n8_;have BK248:= n9_;have HB:= n10_;have BK276:= n11_;have GW276:= n12_;have GE276:= n13_;have NB247_276:= n14_;have NB276_247:= n15_;have NB248_276:= n16_;have NB276_248:= n17_;clear n0_ n1_ n2_ n3_ n4_ n5_ n6_ n7_ n8_ n9_ n10_ n11_ n12_ n13_ n14_ n15_ n16_ n17_;clear hb hbox hg;obtain ⟨Ao51,co51,eo51⟩:= Kd.R_slice HO269.out;subst eo51;have hnb52:= NB276_247.out;have hnc52:= NB247_276.out;have hnb53:= NB276_248.out;have hnc53:= NB248_276.out;have hcz54_0 : w50.cell? ⟨gb276,0,none⟩ = some (.slice none 0 0):= (blk_cell BK276.out 0).trans rfl;have hcz54_1 : w50.cell? ⟨gb276,1,none⟩ = some (.slice none 0 0):= (blk_cell BK276.out 1).trans rfl;have hcz54_2 : w50.cell? ⟨gb276,2,none⟩ = some (.slice none 0 0):= (blk_cell BK276.out 2).trans rfl;have hfz54_0:= blk_frozen BK276.out 0;have hfz54_1:= blk_frozen BK276.out 1;have hfz54_2:= blk_frozen BK276.out 2;obtain ⟨Ao55,co55,eo55⟩:= Kd.R_slice HO272.out;subst eo55;obtain ⟨Ao56,co56,eo56⟩:= Kd.R_slice HO275.out;subst eo56;have hcz57_0 : w50.cell? ⟨gb248,0,none⟩ = some (.slice A1_0 l1_0.length c1_0):= (blk_cell BK248.out 0).trans rfl;have hcz57_1 : w50.cell? ⟨gb248,1,none⟩ = some (.slice A1_1 l1_1.length c1_1):= (blk_cell BK248.out 1).trans rfl;have hfz57_0:= blk_frozen BK248.out 0;have hfz57_1:= blk_frozen BK248.out 1)|((with_reducible refine gate_callee (f:= 38) rfl ?_);refine goesL_ (some 28) rfl rfl Try.func38 (by kernel_rfl) rfl #[.agg #[.slice A1_0 l1_0.length c1_0,.slice A1_1 l1_1.length c1_1]] rfl (by (try simp only [List.map_toArray,List.map_cons,List.map_nil]);first|done|rfl|(simp only [List.length_drop,List.length_take];rfl)) ?_;(with_reducible refine (laws_toPending.calls k _ _ l1_0 _ _ l1_1 t277 t280 _ ?side1 ?side2 ?side3 ?side4 A23.out).mono ?_);(case side1 => exact Kd.C_below HR1_0.out (by repeat (first|(with_reducible first|exact HB.out|apply below_alloc|apply pw_below_drewN|apply below_drew1|refine below_set ?_ GE247.out|refine below_set ?_ GE248.out|refine below_set ?_ GE276.out)|exact HB.out)));(case side2 => exact HC1_0.out);(case side3 => exact Kd.C_below HR1_1.out (by repeat (first|(with_reducible first|exact HB.out|apply below_alloc|apply pw_below_drewN|apply below_drew1|refine below_set ?_ GE247.out|refine below_set ?_ GE248.out|refine below_set ?_ GE276.out)|exact HB.out)));(case side4 => exact HC1_1.out);rintro e w58 ⟨v278,v281,rfl,ho0,ho1,hb⟩;refine ⟨_,rfl,?_⟩;have n0_:= mk (Kd.R_elder' (by exact up ((Kd.R_mono (Kd.R_far (p:= ⟨gb276,2,none⟩) (Kd.R_far (p:= ⟨gb276,1,none⟩) (Kd.R_far (p:= ⟨gb276,0,none⟩) (Kd.R_types HO253.out BK276.out (by decide)) (fun _ hk => hk.2) (.slice Ao51 t267.length co51)) (fun _ hk => hk.2) (.slice Ao55 t270.length co55)) (fun _ hk => hk.2) (.slice Ao56 t273.length co56)) (fun _ h_ => h_.1)))) (Kd.R_base ho1) hb);have n1_:= mk (Kd.R_elder' (by exact up ((Kd.R_mono (Kd.R_far (p:= ⟨gb276,2,none⟩) (Kd.R_far (p:= ⟨gb276,1,none⟩) (Kd.R_far (p:= ⟨gb276,0,none⟩) (Kd.R_types HO256.out BK276.out (by decide)) (fun _ hk => hk.2) (.slice Ao51 t267.length co51)) (fun _ hk => hk.2) (.slice Ao55 t270.length co55)) (fun _ hk => hk.2) (.slice Ao56 t273.length co56)) (fun _ h_ => h_.1)))) (Kd.R_base ho1) hb);have n2_:= mk (Kd.R_below (by exact up ((Kd.R_mono (Kd.R_far (p:= ⟨gb276,2,none⟩) (Kd.R_far (p:= ⟨gb276,1,none⟩) (Kd.R_far (p:= ⟨gb276,0,none⟩) (Kd.R_types HO259.out BK276.out (by decide)) (fun _ hk => hk.2) (.slice Ao51 t267.length co51)) (fun _ hk => hk.2) (.slice Ao55 t270.length co55)) (fun _ hk => hk.2) (.slice Ao56 t273.length co56)) (fun _ h_ => h_.1)))) hb);have n3_:= mk (Kd.R_elder' (by exact up ((Kd.R_mono (Kd.R_far (p:= ⟨gb276,2,none⟩) (Kd.R_far (p:= ⟨gb276,1,none⟩) (Kd.R_far (p:= ⟨gb276,0,none⟩) (Kd.R_types HO262.out BK276.out (by decide)) (fun _ hk => hk.2) (.slice Ao51 t267.length co51)) (fun _ hk => hk.2) (.slice Ao55 t270.length co55)) (fun _ hk => hk.2) (.slice Ao56 t273.length co56)) (fun _ h_ => h_.1)))) (Kd.R_base ho0) hb);have n4_:= mk (Kd.R_elder' (by exact up ((Kd.R_mono (Kd.R_far (p:= ⟨gb276,2,none⟩) (Kd.R_far (p:= ⟨gb276,1,none⟩) (Kd.R_far (p:= ⟨gb276,0,none⟩) (Kd.R_types HO265.out BK276.out (by decide)) (fun _ hk => hk.2) (.slice Ao51 t267.length co51)) (fun _ hk => hk.2) (.slice Ao55 t270.length co55)) (fun _ hk => hk.2) (.slice Ao56 t273.length co56)) (fun _ h_ => h_.1)))) (Kd.R_base ho1) hb);have n5_:= mk (Kd.R_elder' (by exact up ((Kd.R_mono (Kd.R_far (p:= ⟨gb276,2,none⟩) (Kd.R_far (p:= ⟨gb276,1,none⟩) (Kd.R_far (p:= ⟨gb276,0,none⟩) (Kd.R_types HO269.out BK276.out (by decide)) (fun _ hk => hk.2) (.slice Ao51 t267.length co51)) (fun _ hk => hk.2) (.slice Ao55 t270.length co55)) (fun _ hk => hk.2) (.slice Ao56 t273.length co56)) (fun _ h_ => h_.1)))) (Kd.R_base ho1) hb);have n6_:= mk (Kd.R_elder' (by exact up ((Kd.R_mono (Kd.R_far (p:= ⟨gb276,2,none⟩) (Kd.R_far (p:= ⟨gb276,1,none⟩) (Kd.R_far (p:= ⟨gb276,0,none⟩) (Kd.R_types HO272.out BK276.out (by decide)) (fun _ hk => hk.2) (.slice Ao51 t267.length co51)) (fun _ hk => hk.2) (.slice Ao55 t270.length co55)) (fun _ hk => hk.2) (.slice Ao56 t273.length co56)) (fun _ h_ => h_.1)))) (Kd.R_base ho1) hb);have n7_:= mk (Kd.R_below (by exact up ((Kd.R_mono (Kd.R_far (p:= ⟨gb276,2,none⟩) (Kd.R_far (p:= ⟨gb276,1,none⟩) (Kd.R_far (p:= ⟨gb276,0,none⟩) (Kd.R_types HO275.out BK276.out (by decide)) (fun _ hk => hk.2) (.slice Ao51 t267.length co51)) (fun _ hk => hk.2) (.slice Ao55 t270.length co55)) (fun _ hk => hk.2) (.slice Ao56 t273.length co56)) (fun _ h_ => h_.1)))) hb);have n8_:= mk (Kd.R_lower (Kd.R_new' ho0 (Kd.R_lt (by exact up ((Kd.R_mono (Kd.R_far (p:= ⟨gb276,2,none⟩) (Kd.R_far (p:= ⟨gb276,1,none⟩) (Kd.R_far (p:= ⟨gb276,0,none⟩) (Kd.R_types HO262.out BK276.out (by decide)) (fun _ hk => hk.2) (.slice Ao51 t267.length co51)) (fun _ hk => hk.2) (.slice Ao55 t270.length co55)) (fun _ hk => hk.2) (.slice Ao56 t273.length co56)) (fun _ h_ => h_.1)))))) (below_size (by repeat (first|(with_reducible first|exact HB.out|apply below_alloc|apply pw_below_drewN|apply below_drew1|refine below_set ?_ GE247.out|refine below_set ?_ GE248.out|refine below_set ?_ GE276.out)|exact HB.out))));have n9_:= mk (Kd.R_lower (Kd.R_new' (Kd.R_new' (Kd.R_new' (Kd.R_new' (Kd.R_new' ho1 (Kd.R_lt (by exact up ((Kd.R_mono (Kd.R_far (p:= ⟨gb276,2,none⟩) (Kd.R_far (p:= ⟨gb276,1,none⟩) (Kd.R_far (p:= ⟨gb276,0,none⟩) (Kd.R_types HO253.out BK276.out (by decide)) (fun _ hk => hk.2) (.slice Ao51 t267.length co51)) (fun _ hk => hk.2) (.slice Ao55 t270.length co55)) (fun _ hk => hk.2) (.slice Ao56 t273.length co56)) (fun _ h_ => h_.1)))))) (Kd.R_lt (by exact up ((Kd.R_mono (Kd.R_far (p:= ⟨gb276,2,none⟩) (Kd.R_far (p:= ⟨gb276,1,none⟩) (Kd.R_far (p:= ⟨gb276,0,none⟩) (Kd.R_types HO256.out BK276.out (by decide)) (fun _ hk => hk.2) (.slice Ao51 t267.length co51)) (fun _ hk => hk.2) (.slice Ao55 t270.length co55)) (fun _ hk => hk.2) (.slice Ao56 t273.length co56)) (fun _ h_ => h_.1)))))) (Kd.R_lt (by exact up ((Kd.R_mono (Kd.R_far (p:= ⟨gb276,2,none⟩) (Kd.R_far (p:= ⟨gb276,1,none⟩) (Kd.R_far (p:= ⟨gb276,0,none⟩) (Kd.R_types HO265.out BK276.out (by decide)) (fun _ hk => hk.2) (.slice Ao51 t267.length co51)) (fun _ hk => hk.2) (.slice Ao55 t270.length co55)) (fun _ hk => hk.2) (.slice Ao56 t273.length co56)) (fun _ h_ => h_.1)))))) (Kd.R_lt (by exact up ((Kd.R_mono (Kd.R_far (p:= ⟨gb276,2,none⟩) (Kd.R_far (p:= ⟨gb276,1,none⟩) (Kd.R_far (p:= ⟨gb276,0,none⟩) (Kd.R_types HO269.out BK276.out (by decide)) (fun _ hk => hk.2) (.slice Ao51 t267.length co51)) (fun _ hk => hk.2) (.slice Ao55 t270.length co55)) (fun _ hk => hk.2) (.slice Ao56 t273.length co56)) (fun _ h_ => h_.1)))))) (Kd.R_lt (by exact up ((Kd.R_mono (Kd.R_far (p:= ⟨gb276,2,none⟩) (Kd.R_far (p:= ⟨gb276,1,none⟩) (Kd.R_far (p:= ⟨gb276,0,none⟩) (Kd.R_types HO272.out BK276.out (by decide)) (fun _ hk => hk.2) (.slice Ao51 t267.length co51)) (fun _ hk => hk.2) (.slice Ao55 t270.length co55)) (fun _ hk => hk.2) (.slice Ao56 t273.length co56)) (fun _ h_ => h_.1)))))) (below_size (by repeat (first|(with_reducible first|exact HB.out|apply below_alloc|apply pw_below_drewN|apply below_drew1|refine below_set ?_ GE247.out|refine below_set ?_ GE248.out|refine below_set ?_ GE276.out)|exact HB.out))));have n10_:= mk (blk_below (g:= gb247) (o:= .cells #[.slice A0_0 l0_0.length c0_0,.slice A0_1 l0_1.length c0_1,.slice A0_2 l0_2.length c0_2] 25 (0,0)) (by (with_reducible repeat (first|refine blk_drewN ?_ _|refine blk_drew ?_|refine blk_alloc ?_ _));refine blk_far ?_ NB247_276.out _;(with_reducible repeat (first|refine blk_drewN ?_ _|refine blk_drew ?_|refine blk_alloc ?_ _));refine blk_far ?_ NB247_276.out _;(with_reducible repeat (first|refine blk_drewN ?_ _|refine blk_drew ?_|refine blk_alloc ?_ _));refine blk_far ?_ NB247_276.out _;(with_reducible repeat (first|refine blk_drewN ?_ _|refine blk_drew ?_|refine blk_alloc ?_ _));exact BK247.out) hb);have n11_:= mk (blk_below (g:= gb248) (o:= .cells #[.slice A1_0 l1_0.length c1_0,.slice A1_1 l1_1.length c1_1] 56 (0,0)) (by (with_reducible repeat (first|refine blk_drewN ?_ _|refine blk_drew ?_|refine blk_alloc ?_ _));refine blk_far ?_ NB248_276.out _;(with_reducible repeat (first|refine blk_drewN ?_ _|refine blk_drew ?_|refine blk_alloc ?_ _));refine blk_far ?_ NB248_276.out _;(with_reducible repeat (first|refine blk_drewN ?_ _|refine blk_drew ?_|refine blk_alloc ?_ _));refine blk_far ?_ NB248_276.out _;(with_reducible repeat (first|refine blk_drewN ?_ _|refine blk_drew ?_|refine blk_alloc ?_ _));exact BK248.out) hb);have n12_:= mk (blk_below (g:= gb276) (o:= .cells #[.slice Ao51 t267.length co51,.slice Ao55 t270.length co55,.slice Ao56 t273.length co56] 30 (0,0)) (by (with_reducible repeat (first|refine blk_drewN ?_ _|refine blk_drew ?_|refine blk_alloc ?_ _));refine blk_put (cs:= #[.slice Ao51 t267.length co51,.slice Ao55 t270.length co55,.slice none 0 0]) ?_ 2 _ rfl;(with_reducible repeat (first|refine blk_drewN ?_ _|refine blk_drew ?_|refine blk_alloc ?_ _));refine blk_put (cs:= #[.slice Ao51 t267.length co51,.slice none 0 0,.slice none 0 0]) ?_ 1 _ rfl;(with_reducible repeat (first|refine blk_drewN ?_ _|refine blk_drew ?_|refine blk_alloc ?_ _));refine blk_put (cs:= #[.slice none 0 0,.slice none 0 0,.slice none 0 0]) ?_ 0 _ rfl;(with_reducible repeat (first|refine blk_drewN ?_ _|refine blk_drew ?_|refine blk_alloc ?_ _));exact BK276.out) hb);have n13_:= mk (below_step (by repeat (first|(with_reducible first|exact HB.out|apply below_alloc|apply pw_below_drewN|apply below_drew1|refine below_set ?_ GE247.out|refine below_set ?_ GE248.out|refine below_set ?_ GE276.out)|exact HB.out)) hb);clear HO253;clear HO256;clear HO259;clear HO262;clear HO265;clear HO269;clear HO272;clear HO275;clear BK247;clear BK248;clear BK276;clear HB;have HO253:= n0_;have HO256:= n1_;have HO259:= n2_;have HO262:= n3_;have HO265:= n4_;have HO269:= n5_;have HO272:= n6_;have HO275:= n7_;have HO279:= n8_;have HO282:= n9_;have BK247:= n10_;have BK248:= n11_;have BK276:= n12_;have HB:= n13_;clear n0_ n1_ n2_ n3_ n4_ n5_ n6_ n7_ n8_ n9_ n10_ n11_ n12_ n13_;(try clear hb);(try clear hb2);(try clear hk);(try clear hi);(try clear ho0);(try clear ho1))|((with_reducible refine gate_dst (N:= 8) rfl ?_);refine box_event ?hg (N:= 8) ?hd (cs:= #[.slice none 0 0,.slice none 0 0]) (t:= 61) ?hr ?_;(case hd => rfl);(case hg => rfl);(case hr => first|(go_simp;done)|(go_simp;rfl));intro gb283 hg w59 hbox hb;have n0_:= mk (Kd.R_below (up HO253.out) hb);have n1_:= mk (Kd.R_below (up HO256.out) hb);have n2_:= mk (Kd.R_below (up HO259.out) hb);have n3_:= mk (Kd.R_below (up HO262.out) hb);have n4_:= mk (Kd.R_below (up HO265.out) hb);have n5_:= mk (Kd.R_below (up HO269.out) hb);have n6_:= mk (Kd.R_below (up HO272.out) hb);have n7_:= mk (Kd.R_below (up HO275.out) hb);have n8_:= mk (Kd.R_below (up HO279.out) hb);have n9_:= mk (Kd.R_below (up HO282.out) hb);have n10_:= mk (blk_below (g:= gb247) (o:= .cells #[.slice A0_0 l0_0.length c0_0,.slice A0_1 l0_1.length c0_1,.slice A0_2 l0_2.length c0_2] 25 (0,0)) (ub BK247.out) hb);have n11_:= mk (blk_below (g:= gb248) (o:= .cells #[.slice A1_0 l1_0.length c1_0,.slice A1_1 l1_1.length c1_1] 56 (0,0)) (ub BK248.out) hb);have n12_:= mk (blk_below (g:= gb276) (o:= .cells #[.slice Ao51 t267.length co51,.slice Ao55 t270.length co55,.slice Ao56 t273.length co56] 30 (0,0)) (ub BK276.out) hb);have n13_:= mk (below_step (by repeat (first|(with_reducible first|exact HB.out|apply below_alloc|apply pw_below_drewN|apply below_drew1|refine below_set ?_ GE247.out|refine below_set ?_ GE248.out|refine below_set ?_ GE276.out)|exact HB.out)) hb);have n14_:= mk (hbox);have n15_:= mk ((by rw [hg];exact (below_size (by repeat (first|(with_reducible first|exact HB.out|apply below_alloc|apply pw_below_drewN|apply below_drew1|refine below_set ?_ GE247.out|refine below_set ?_ GE248.out|refine below_set ?_ GE276.out)|exact HB.out))) : w.heap.size ≤ gb283));have n16_:= mk ((by rw [hg];exact (below_size (by repeat (first|(with_reducible first|exact HB.out|apply below_alloc|apply pw_below_drewN|apply below_drew1|refine below_set ?_ GE247.out|refine below_set ?_ GE248.out|refine below_set ?_ GE276.out)|exact HB.out))) : w.heap.size ≤ gb283));have n17_:= mk ((by rw [hg];exact Nat.ne_of_lt (blk_lt (g:= gb247) (o:= .cells #[.slice A0_0 l0_0.length c0_0,.slice A0_1 l0_1.length c0_1,.slice A0_2 l0_2.length c0_2] 25 (0,0)) (ub BK247.out)) : gb247 ≠ gb283));have n18_:= mk ((by rw [hg];exact Nat.ne_of_gt (blk_lt (g:= gb247) (o:= .cells #[.slice A0_0 l0_0.length c0_0,.slice A0_1 l0_1.length c0_1,.slice A0_2 l0_2.length c0_2] 25 (0,0)) (ub BK247.out)) : gb283 ≠ gb247));have n19_:= mk ((by rw [hg];exact Nat.ne_of_lt (blk_lt (g:= gb248) (o:= .cells #[.slice A1_0 l1_0.length c1_0,.slice A1_1 l1_1.length c1_1] 56 (0,0)) (ub BK248.out)) : gb248 ≠ gb283));have n20_:= mk ((by rw [hg];exact Nat.ne_of_gt (blk_lt (g:= gb248) (o:= .cells #[.slice A1_0 l1_0.length c1_0,.slice A1_1 l1_1.length c1_1] 56 (0,0)) (ub BK248.out)) : gb283 ≠ gb248));have n21_:= mk ((by rw [hg];exact Nat.ne_of_lt (blk_lt (g:= gb276) (o:= .cells #[.slice Ao51 t267.length co51,.slice Ao55 t270.length co55,.slice Ao56 t273.length co56] 30 (0,0)) (ub BK276.out)) : gb276 ≠ gb283));have n22_:= mk ((by rw [hg];exact Nat.ne_of_gt (blk_lt (g:= gb276) (o:= .cells #[.slice Ao51 t267.length co51,.slice Ao55 t270.length co55,.slice Ao56 t273.length co56] 30 (0,0)) (ub BK276.out)) : gb283 ≠ gb276));clear HO253;clear HO256;clear HO259;clear HO262;clear HO265;clear HO269;clear HO272;clear HO275;clear HO279;clear HO282;clear BK247;clear BK248;clear BK276;clear HB;have HO253:= n0_;have HO256:= n1_;have HO259:= n2_;have HO262:= n3_;have HO265:= n4_;have HO269:= n5_;have HO272:= n6_;have HO275:= n7_;have HO279:= n8_;have HO282:= n9_;have BK247:= n10_;have BK248:= n11_;have BK276:= n12_;have HB:= n13_;have BK283:= n14_;have GW283:= n15_;have GE283:= n16_;have NB247_283:= n17_;have NB283_247:= n18_;have NB248_283:= n19_;have NB283_248:= n20_;have NB276_283:= n21_;have NB283_276:= n22_;clear n0_ n1_ n2_ n3_ n4_ n5_ n6_ n7_ n8_ n9_ n10_ n11_ n12_ n13_ n14_ n15_ n16_ n17_ n18_ n19_ n20_ n21_ n22_;clear hb hbox hg;obtain ⟨Ao60,co60,eo60⟩:= Kd.R_slice HO279.out;subst eo60;have hnb61:= NB283_247.out;have hnc61:= NB247_283.out;have hnb62:= NB283_248.out;have hnc62:= NB248_283.out;have hnb63:= NB283_276.out;have hnc63:= NB276_283.out;have hcz64_0 : w59.cell? ⟨gb283,0,none⟩ = some (.slice none 0 0):= (blk_cell BK283.out 0).trans rfl;have hcz64_1 : w59.cell? ⟨gb283,1,none⟩ = some (.slice none 0 0):= (blk_cell BK283.out 1).trans rfl;have hfz64_0:= blk_frozen BK283.out 0;have hfz64_1:= blk_frozen BK283.out 1;obtain ⟨Ao65,co65,eo65⟩:= Kd.R_slice HO282.out;subst eo65;have hcz66_0 : w59.cell? ⟨gb276,0,none⟩ = some (.slice Ao51 t267.length co51):= (blk_cell BK276.out 0).trans rfl;have hcz66_1 : w59.cell? ⟨gb276,1,none⟩ = some (.slice Ao55 t270.length co55):= (blk_cell BK276.out 1).trans rfl;have hcz66_2 : w59.cell? ⟨gb276,2,none⟩ = some (.slice Ao56 t273.length co56):= (blk_cell BK276.out 2).trans rfl;have hfz66_0:= blk_frozen BK276.out 0;have hfz66_1:= blk_frozen BK276.out 1;have hfz66_2:= blk_frozen BK276.out 2)|((with_reducible refine gate_callee (f:= 39) rfl ?_);refine goesL_ (some 31) rfl rfl Try.func39 (by kernel_rfl) rfl #[.agg #[.slice Ao51 t267.length co51,.slice Ao55 t270.length co55,.slice Ao56 t273.length co56],.agg #[.slice Ao60 t277.length co60,.slice Ao65 t280.length co65]] rfl (by (try simp only [List.map_toArray,List.map_cons,List.map_nil]);first|done|rfl|(simp only [List.length_drop,List.length_take];rfl)) ?_;(with_reducible refine (impl_IsPending.calls k _ _ t267 _ _ t270 _ _ t273 _ _ t277 _ _ t280 t284 _ ?side1 ?side2 ?side3 ?side4 ?side5 ?side6 ?side7 ?side8 ?side9 ?side10 A24.out).mono ?_);(case side1 => refine (Kd.R_reads' (e:= 3) (base:= w.heap.size) (ok:= fun k_ => ((((some k_ ≠ (.slice Ao55 t270.length co55 : Value).ownBlock ∧ some k_ ≠ (.slice Ao42 t251.length co42 : Value).ownBlock) ∧ some k_ ≠ (.slice Ao43 t254.length co43 : Value).ownBlock) ∧ some k_ ≠ (.slice Ao46 t263.length co46 : Value).ownBlock) ∧ some k_ ≠ (.slice Ao65 t280.length co65 : Value).ownBlock)) (n:= t267.length) (c:= co51) ?_).2.2;exact (by exact up ((Kd.R_mono (Kd.R_far (p:= ⟨gb283,1,none⟩) (Kd.R_far (p:= ⟨gb283,0,none⟩) (Kd.R_types HO269.out BK283.out (by decide)) (fun _ hk => hk.2) (.slice Ao60 t277.length co60)) (fun _ hk => hk.2) (.slice Ao65 t280.length co65)) (fun _ h_ => h_.1)))));(case side2 => exact (Kd.R_reads' HO269.out).2.1);(case side3 => refine (Kd.R_reads' (e:= 3) (base:= w.heap.size) (ok:= fun k_ => ((((some k_ ≠ (.slice Ao51 t267.length co51 : Value).ownBlock ∧ some k_ ≠ (.slice Ao42 t251.length co42 : Value).ownBlock) ∧ some k_ ≠ (.slice Ao43 t254.length co43 : Value).ownBlock) ∧ some k_ ≠ (.slice Ao46 t263.length co46 : Value).ownBlock) ∧ some k_ ≠ (.slice Ao65 t280.length co65 : Value).ownBlock)) (n:= t270.length) (c:= co55) ?_).2.2;exact (by exact up ((Kd.R_mono (Kd.R_far (p:= ⟨gb283,1,none⟩) (Kd.R_far (p:= ⟨gb283,0,none⟩) (Kd.R_types HO272.out BK283.out (by decide)) (fun _ hk => hk.2) (.slice Ao60 t277.length co60)) (fun _ hk => hk.2) (.slice Ao65 t280.length co65)) (fun _ h_ => h_.1)))));(case side4 => exact (Kd.R_reads' HO272.out).2.1);(case side5 => refine (Kd.R_reads' (e:= 69) (base:= w.heap.size) (ok:= fun k_ => (True ∧ some k_ ≠ (.slice Ao44 t257.length co44 : Value).ownBlock)) (n:= t273.length) (c:= co56) ?_).2.2;exact (by exact up ((Kd.R_mono (Kd.R_far (p:= ⟨gb283,1,none⟩) (Kd.R_far (p:= ⟨gb283,0,none⟩) (Kd.R_types HO275.out BK283.out (by decide)) (fun _ hk => hk.2) (.slice Ao60 t277.length co60)) (fun _ hk => hk.2) (.slice Ao65 t280.length co65)) (fun _ h_ => h_.1)))));(case side6 => exact (Kd.R_reads' HO275.out).2.1);(case side7 => refine (Kd.R_reads' (e:= 96) (base:= w.heap.size) (ok:= fun k_ => (True ∧ some k_ ≠ (.slice Ao45 t260.length co45 : Value).ownBlock)) (n:= t277.length) (c:= co60) ?_).2.2;exact (by exact up ((Kd.R_mono (Kd.R_far (p:= ⟨gb283,1,none⟩) (Kd.R_far (p:= ⟨gb283,0,none⟩) (Kd.R_types HO279.out BK283.out (by decide)) (fun _ hk => hk.2) (.slice Ao60 t277.length co60)) (fun _ hk => hk.2) (.slice Ao65 t280.length co65)) (fun _ h_ => h_.1)))));(case side8 => exact (Kd.R_reads' HO279.out).2.1);(case side9 => refine (Kd.R_reads' (e:= 3) (base:= w.heap.size) (ok:= fun k_ => (((((True ∧ some k_ ≠ (.slice Ao42 t251.length co42 : Value).ownBlock) ∧ some k_ ≠ (.slice Ao43 t254.length co43 : Value).ownBlock) ∧ some k_ ≠ (.slice Ao46 t263.length co46 : Value).ownBlock) ∧ some k_ ≠ (.slice Ao51 t267.length co51 : Value).ownBlock) ∧ some k_ ≠ (.slice Ao55 t270.length co55 : Value).ownBlock)) (n:= t280.length) (c:= co65) ?_).2.2;exact (by exact up ((Kd.R_mono (Kd.R_far (p:= ⟨gb283,1,none⟩) (Kd.R_far (p:= ⟨gb283,0,none⟩) (Kd.R_types HO282.out BK283.out (by decide)) (fun _ hk => hk.2) (.slice Ao60 t277.length co60)) (fun _ hk => hk.2) (.slice Ao65 t280.length co65)) (fun _ h_ => h_.1)))));(case side10 => exact (Kd.R_reads' HO282.out).2.1);rintro e w67 ⟨rfl,hb⟩;refine ⟨_,rfl,?_⟩;have n0_:= mk (Kd.R_below (by exact up ((Kd.R_mono (Kd.R_far (p:= ⟨gb283,1,none⟩) (Kd.R_far (p:= ⟨gb283,0,none⟩) (Kd.R_types HO253.out BK283.out (by decide)) (fun _ hk => hk.2) (.slice Ao60 t277.length co60)) (fun _ hk => hk.2) (.slice Ao65 t280.length co65)) (fun _ h_ => h_.1)))) hb);have n1_:= mk (Kd.R_below (by exact up ((Kd.R_mono (Kd.R_far (p:= ⟨gb283,1,none⟩) (Kd.R_far (p:= ⟨gb283,0,none⟩) (Kd.R_types HO256.out BK283.out (by decide)) (fun _ hk => hk.2) (.slice Ao60 t277.length co60)) (fun _ hk => hk.2) (.slice Ao65 t280.length co65)) (fun _ h_ => h_.1)))) hb);have n2_:= mk (Kd.R_below (by exact up ((Kd.R_mono (Kd.R_far (p:= ⟨gb283,1,none⟩) (Kd.R_far (p:= ⟨gb283,0,none⟩) (Kd.R_types HO259.out BK283.out (by decide)) (fun _ hk => hk.2) (.slice Ao60 t277.length co60)) (fun _ hk => hk.2) (.slice Ao65 t280.length co65)) (fun _ h_ => h_.1)))) hb);have n3_:= mk (Kd.R_below (by exact up ((Kd.R_mono (Kd.R_far (p:= ⟨gb283,1,none⟩) (Kd.R_far (p:= ⟨gb283,0,none⟩) (Kd.R_types HO262.out BK283.out (by decide)) (fun _ hk => hk.2) (.slice Ao60 t277.length co60)) (fun _ hk => hk.2) (.slice Ao65 t280.length co65)) (fun _ h_ => h_.1)))) hb);have n4_:= mk (Kd.R_below (by exact up ((Kd.R_mono (Kd.R_far (p:= ⟨gb283,1,none⟩) (Kd.R_far (p:= ⟨gb283,0,none⟩) (Kd.R_types HO265.out BK283.out (by decide)) (fun _ hk => hk.2) (.slice Ao60 t277.length co60)) (fun _ hk => hk.2) (.slice Ao65 t280.length co65)) (fun _ h_ => h_.1)))) hb);have n5_:= mk (Kd.R_below (by exact up ((Kd.R_mono (Kd.R_far (p:= ⟨gb283,1,none⟩) (Kd.R_far (p:= ⟨gb283,0,none⟩) (Kd.R_types HO269.out BK283.out (by decide)) (fun _ hk => hk.2) (.slice Ao60 t277.length co60)) (fun _ hk => hk.2) (.slice Ao65 t280.length co65)) (fun _ h_ => h_.1)))) hb);have n6_:= mk (Kd.R_below (by exact up ((Kd.R_mono (Kd.R_far (p:= ⟨gb283,1,none⟩) (Kd.R_far (p:= ⟨gb283,0,none⟩) (Kd.R_types HO272.out BK283.out (by decide)) (fun _ hk => hk.2) (.slice Ao60 t277.length co60)) (fun _ hk => hk.2) (.slice Ao65 t280.length co65)) (fun _ h_ => h_.1)))) hb);have n7_:= mk (Kd.R_below (by exact up ((Kd.R_mono (Kd.R_far (p:= ⟨gb283,1,none⟩) (Kd.R_far (p:= ⟨gb283,0,none⟩) (Kd.R_types HO275.out BK283.out (by decide)) (fun _ hk => hk.2) (.slice Ao60 t277.length co60)) (fun _ hk => hk.2) (.slice Ao65 t280.length co65)) (fun _ h_ => h_.1)))) hb);have n8_:= mk (Kd.R_below (by exact up ((Kd.R_mono (Kd.R_far (p:= ⟨gb283,1,none⟩) (Kd.R_far (p:= ⟨gb283,0,none⟩) (Kd.R_types HO279.out BK283.out (by decide)) (fun _ hk => hk.2) (.slice Ao60 t277.length co60)) (fun _ hk => hk.2) (.slice Ao65 t280.length co65)) (fun _ h_ => h_.1)))) hb);have n9_:= mk (Kd.R_below (by exact up ((Kd.R_mono (Kd.R_far (p:= ⟨gb283,1,none⟩) (Kd.R_far (p:= ⟨gb283,0,none⟩) (Kd.R_types HO282.out BK283.out (by decide)) (fun _ hk => hk.2) (.slice Ao60 t277.length co60)) (fun _ hk => hk.2) (.slice Ao65 t280.length co65)) (fun _ h_ => h_.1)))) hb);have n10_:= mk (blk_below (g:= gb247) (o:= .cells #[.slice A0_0 l0_0.length c0_0,.slice A0_1 l0_1.length c0_1,.slice A0_2 l0_2.length c0_2] 25 (0,0)) (by (with_reducible repeat (first|refine blk_drewN ?_ _|refine blk_drew ?_|refine blk_alloc ?_ _));refine blk_far ?_ NB247_283.out _;(with_reducible repeat (first|refine blk_drewN ?_ _|refine blk_drew ?_|refine blk_alloc ?_ _));refine blk_far ?_ NB247_283.out _;(with_reducible repeat (first|refine blk_drewN ?_ _|refine blk_drew ?_|refine blk_alloc ?_ _));exact BK247.out) hb);have n11_:= mk (blk_below (g:= gb248) (o:= .cells #[.slice A1_0 l1_0.length c1_0,.slice A1_1 l1_1.length c1_1] 56 (0,0)) (by (with_reducible repeat (first|refine blk_drewN ?_ _|refine blk_drew ?_|refine blk_alloc ?_ _));refine blk_far ?_ NB248_283.out _;(with_reducible repeat (first|refine blk_drewN ?_ _|refine blk_drew ?_|refine blk_alloc ?_ _));refine blk_far ?_ NB248_283.out _;(with_reducible repeat (first|refine blk_drewN ?_ _|refine blk_drew ?_|refine blk_alloc ?_ _));exact BK248.out) hb);have n12_:= mk (blk_below (g:= gb276) (o:= .cells #[.slice Ao51 t267.length co51,.slice Ao55 t270.length co55,.slice Ao56 t273.length co56] 30 (0,0)) (by (with_reducible repeat (first|refine blk_drewN ?_ _|refine blk_drew ?_|refine blk_alloc ?_ _));refine blk_far ?_ NB276_283.out _;(with_reducible repeat (first|refine blk_drewN ?_ _|refine blk_drew ?_|refine blk_alloc ?_ _));refine blk_far ?_ NB276_283.out _;(with_reducible repeat (first|refine blk_drewN ?_ _|refine blk_drew ?_|refine blk_alloc ?_ _));exact BK276.out) hb);have n13_:= mk (blk_below (g:= gb283) (o:= .cells #[.slice Ao60 t277.length co60,.slice Ao65 t280.length co65] 61 (0,0)) (by (with_reducible repeat (first|refine blk_drewN ?_ _|refine blk_drew ?_|refine blk_alloc ?_ _));refine blk_put (cs:= #[.slice Ao60 t277.length co60,.slice none 0 0]) ?_ 1 _ rfl;(with_reducible repeat (first|refine blk_drewN ?_ _|refine blk_drew ?_|refine blk_alloc ?_ _));refine blk_put (cs:= #[.slice none 0 0,.slice none 0 0]) ?_ 0 _ rfl;(with_reducible repeat (first|refine blk_drewN ?_ _|refine blk_drew ?_|refine blk_alloc ?_ _));exact BK283.out) hb);have n14_:= mk (below_step (by repeat (first|(with_reducible first|exact HB.out|apply below_alloc|apply pw_below_drewN|apply below_drew1|refine below_set ?_ GE247.out|refine below_set ?_ GE248.out|refine below_set ?_ GE276.out|refine below_set ?_ GE283.out)|exact HB.out)) hb);clear HO253;clear HO256;clear HO259;clear HO262;clear HO265;clear HO269;clear HO272;clear HO275;clear HO279;clear HO282;clear BK247;clear BK248;clear BK276;clear BK283;clear HB;have HO253:= n0_;have HO256:= n1_;have HO259:= n2_;have HO262:= n3_;have HO265:= n4_;have HO269:= n5_;have HO272:= n6_;have HO275:= n7_;have HO279:= n8_;have HO282:= n9_;have BK247:= n10_;have BK248:= n11_;have BK276:= n12_;have BK283:= n13_;have HB:= n14_;clear n0_ n1_ n2_ n3_ n4_ n5_ n6_ n7_ n8_ n9_ n10_ n11_ n12_ n13_ n14_;(try clear hb);(try clear hb2);(try clear hk);(try clear hi)))
      have n0_:= mk (Kd.R_drew HO253.out)
      have n1_:= mk (Kd.R_drew HO256.out)
      have n2_:= mk (Kd.R_drew HO259.out)
      have n3_:= mk (Kd.R_drew HO262.out)
      have n4_:= mk (Kd.R_drew HO265.out)
      have n5_:= mk (Kd.R_drew HO269.out)
      have n6_:= mk (Kd.R_drew HO272.out)
      have n7_:= mk (Kd.R_drew HO275.out)
      have n8_:= mk (Kd.R_drew HO279.out)
      have n9_:= mk (Kd.R_drew HO282.out)
      have n10_:= mk (blk_drew BK247.out)
      have n11_:= mk (blk_drew BK248.out)
      have n12_:= mk (blk_drew BK276.out)
      have n13_:= mk (blk_drew BK283.out)
      have n14_:= mk (below_drew1 HB.out)
      clear HO253
      clear HO256
      clear HO259
      clear HO262
      clear HO265
      clear HO269
      clear HO272
      clear HO275
      clear HO279
      clear HO282
      clear BK247
      clear BK248
      clear BK276
      clear BK283
      clear HB
      have HO253:= n0_
      have HO256:= n1_
      have HO259:= n2_
      have HO262:= n3_
      have HO265:= n4_
      have HO269:= n5_
      have HO272:= n6_
      have HO275:= n7_
      have HO279:= n8_
      have HO282:= n9_
      have BK247:= n10_
      have BK248:= n11_
      have BK276:= n12_
      have BK283:= n13_
      have HB:= n14_
      clear n0_ n1_ n2_ n3_ n4_ n5_ n6_ n7_ n8_ n9_ n10_ n11_ n12_ n13_ n14_
      refine start_ (n:= 5) (S:= fun w' => w'.cell? ⟨gb276,0,none⟩ = some (.slice Ao51 t267.length co51) ∧ w'.cell? ⟨gb276,1,none⟩ = some (.slice Ao55 t270.length co55) ∧ w'.cell? ⟨gb276,2,none⟩ = some (.slice Ao56 t273.length co56) ∧ w'.cell? ⟨gb247,0,none⟩ = some (.slice A0_0 l0_0.length c0_0) ∧ w'.cell? ⟨gb247,1,none⟩ = some (.slice A0_1 l0_1.length c0_1) ∧ w'.cell? ⟨gb247,2,none⟩ = some (.slice A0_2 l0_2.length c0_2)) (ds:= []) #[F_,F_,F_,F_,F_] (by kernel_rfl) rfl rfl ⟨(blk_cell BK276.out 0).trans rfl,(blk_cell BK276.out 1).trans rfl,(blk_cell BK276.out 2).trans rfl,(blk_cell BK247.out 0).trans rfl,(blk_cell BK247.out 1).trans rfl,(blk_cell BK247.out 2).trans rfl⟩ (fun hHeld => ?_)
      generalize w67.drew = w68 at HO253 HO256 HO259 HO262 HO265 HO269 HO272 HO275 HO279 HO282 BK247 BK248 BK276 BK283 HB hHeld ⊢
      refine take_ (i:= 0) (N:= some 35) (v:= ?_) (a':= ?_) #[T_,F_,F_,F_,F_] rfl rfl (by kernel_rfl) (fun _ _ _ h => h) (Or.inl ⟨by rfl,?_⟩) hHeld ?_ ?_
      rotate_left
      ·rintro w' ⟨s0,s1,s2,s3,s4,s5⟩
       go_simp
       with_reducible rfl
      rotate_left
      ·simp only [Act.put,List.setIfInBounds_toArray,List.set_cons_zero,List.set_cons_succ,i64_w,i32_w]
       rfl
      refine take_ (i:= 1) (N:= some 36) (v:= ?_) (a':= ?_) #[T_,T_,F_,F_,F_] rfl rfl (by kernel_rfl) (fun _ _ _ h => h) (Or.inl ⟨by rfl,?_⟩) hHeld ?_ ?_
      rotate_left
      ·rintro w' ⟨s0,s1,s2,s3,s4,s5⟩
       go_simp
       with_reducible rfl
      rotate_left
      ·simp only [Act.put,List.setIfInBounds_toArray,List.set_cons_zero,List.set_cons_succ,i64_w,i32_w]
       rfl
      refine one_ (i:= 2) (N:= some 37) #[T_,T_,T_,F_,F_] rfl rfl (by kernel_rfl) (by decide) (fun K hK => ?_)
      refine goes_ Try.func14 (by kernel_rfl) rfl #[.agg #[.slice A0_0 l0_0.length c0_0,.slice A0_1 l0_1.length c0_1,.slice A0_2 l0_2.length c0_2]] (by rfl) rfl rfl (by (try simp only [List.map_toArray,List.map_cons,List.map_nil]);first|done|rfl|(simp only [List.length_drop,List.length_take];rfl)) ?_
      with_reducible refine (laws_toCracker.calls k _ _ l0_0 _ _ l0_1 _ _ l0_2 t285 t288 t291 _ ?side1 ?side2 ?side3 ?side4 ?side5 ?side6 A26.out).mono ?_
      (case side1 => exact uc (Kd.C_below HR0_0.out HB.out))
      (case side2 => exact HC0_0.out)
      (case side3 => exact uc (Kd.C_below HR0_1.out HB.out))
      (case side4 => exact HC0_1.out)
      (case side5 => exact uc (Kd.C_below HR0_2.out HB.out))
      (case side6 => exact HC0_2.out)
      rintro e w69 ⟨v286,v289,v292,rfl,ho0,ho1,ho2,hb⟩
      refine ⟨_,rfl,?_⟩
      have n0_:= mk (Kd.R_mono (Kd.R_told (Kd.R_told (Kd.R_old (up HO253.out) hb) (Kd.R_base ho0)) (Kd.R_base ho1)) (fun _ h_ => h_.1))
      have n1_:= mk (Kd.R_mono (Kd.R_told (Kd.R_told (Kd.R_old (up HO256.out) hb) (Kd.R_base ho0)) (Kd.R_base ho1)) (fun _ h_ => h_.1))
      have n2_:= mk (Kd.R_elder' (up HO259.out) (Kd.R_base ho2) hb)
      have n3_:= mk (Kd.R_below (up HO262.out) hb)
      have n4_:= mk (Kd.R_mono (Kd.R_told (Kd.R_told (Kd.R_old (up HO265.out) hb) (Kd.R_base ho0)) (Kd.R_base ho1)) (fun _ h_ => h_.1))
      have n5_:= mk (Kd.R_mono (Kd.R_told (Kd.R_told (Kd.R_old (up HO269.out) hb) (Kd.R_base ho0)) (Kd.R_base ho1)) (fun _ h_ => h_.1))
      have n6_:= mk (Kd.R_mono (Kd.R_told (Kd.R_told (Kd.R_old (up HO272.out) hb) (Kd.R_base ho0)) (Kd.R_base ho1)) (fun _ h_ => h_.1))
      have n7_:= mk (Kd.R_elder' (up HO275.out) (Kd.R_base ho2) hb)
      have n8_:= mk (Kd.R_below (up HO279.out) hb)
      have n9_:= mk (Kd.R_mono (Kd.R_told (Kd.R_told (Kd.R_old (up HO282.out) hb) (Kd.R_base ho0)) (Kd.R_base ho1)) (fun _ h_ => h_.1))
      have n10_:= mk (Kd.R_lower (Kd.R_new' (Kd.R_new' (Kd.R_new' (Kd.R_new' (Kd.R_new' (Kd.R_new' ho0 (Kd.R_lt (up HO253.out))) (Kd.R_lt (up HO256.out))) (Kd.R_lt (up HO265.out))) (Kd.R_lt (up HO269.out))) (Kd.R_lt (up HO272.out))) (Kd.R_lt (up HO282.out))) (below_size (by repeat (first|(with_reducible first|exact HB.out|apply below_alloc|apply pw_below_drewN|apply below_drew1|refine below_set ?_ GE247.out|refine below_set ?_ GE248.out|refine below_set ?_ GE276.out|refine below_set ?_ GE283.out)|exact HB.out))))
      have n11_:= mk (Kd.R_lower (Kd.R_new' (Kd.R_new' (Kd.R_new' (Kd.R_new' (Kd.R_new' (Kd.R_new' ho1 (Kd.R_lt (up HO253.out))) (Kd.R_lt (up HO256.out))) (Kd.R_lt (up HO265.out))) (Kd.R_lt (up HO269.out))) (Kd.R_lt (up HO272.out))) (Kd.R_lt (up HO282.out))) (below_size (by repeat (first|(with_reducible first|exact HB.out|apply below_alloc|apply pw_below_drewN|apply below_drew1|refine below_set ?_ GE247.out|refine below_set ?_ GE248.out|refine below_set ?_ GE276.out|refine below_set ?_ GE283.out)|exact HB.out))))
      have n12_:= mk (Kd.R_lower (Kd.R_new' (Kd.R_new' ho2 (Kd.R_lt (up HO259.out))) (Kd.R_lt (up HO275.out))) (below_size (by repeat (first|(with_reducible first|exact HB.out|apply below_alloc|apply pw_below_drewN|apply below_drew1|refine below_set ?_ GE247.out|refine below_set ?_ GE248.out|refine below_set ?_ GE276.out|refine below_set ?_ GE283.out)|exact HB.out))))
      have n13_:= mk (blk_below (g:= gb247) (o:= .cells #[.slice A0_0 l0_0.length c0_0,.slice A0_1 l0_1.length c0_1,.slice A0_2 l0_2.length c0_2] 25 (0,0)) (ub BK247.out) hb)
      have n14_:= mk (blk_below (g:= gb248) (o:= .cells #[.slice A1_0 l1_0.length c1_0,.slice A1_1 l1_1.length c1_1] 56 (0,0)) (ub BK248.out) hb)
      have n15_:= mk (blk_below (g:= gb276) (o:= .cells #[.slice Ao51 t267.length co51,.slice Ao55 t270.length co55,.slice Ao56 t273.length co56] 30 (0,0)) (ub BK276.out) hb)
      have n16_:= mk (blk_below (g:= gb283) (o:= .cells #[.slice Ao60 t277.length co60,.slice Ao65 t280.length co65] 61 (0,0)) (ub BK283.out) hb)
      have n17_:= mk (below_step (by repeat (first|(with_reducible first|exact HB.out|apply below_alloc|apply pw_below_drewN|apply below_drew1|refine below_set ?_ GE247.out|refine below_set ?_ GE248.out|refine below_set ?_ GE276.out|refine below_set ?_ GE283.out)|exact HB.out)) hb)
      clear HO253
      clear HO256
      clear HO259
      clear HO262
      clear HO265
      clear HO269
      clear HO272
      clear HO275
      clear HO279
      clear HO282
      clear BK247
      clear BK248
      clear BK276
      clear BK283
      clear HB
      have HO253:= n0_
      have HO256:= n1_
      have HO259:= n2_
      have HO262:= n3_
      have HO265:= n4_
      have HO269:= n5_
      have HO272:= n6_
      have HO275:= n7_
      have HO279:= n8_
      have HO282:= n9_
      have HO287:= n10_
      have HO290:= n11_
      have HO293:= n12_
      have BK247:= n13_
      have BK248:= n14_
      have BK276:= n15_
      have BK283:= n16_
      have HB:= n17_
      clear n0_ n1_ n2_ n3_ n4_ n5_ n6_ n7_ n8_ n9_ n10_ n11_ n12_ n13_ n14_ n15_ n16_ n17_
      (try clear hb)
      (try clear hb2)
      (try clear hk)
      (try clear hi)
      (try clear ho0)
      (try clear ho1)
      (try clear ho2)
      obtain ⟨Ao70,co70,eo70⟩:= Kd.R_slice HO287.out
      (first|subst eo70|(injection eo70 with f1_ f2_ f3_;have f4_:= f1_.symm;have f5_:= f3_.symm;clear f1_ f2_ f3_;subst f4_;subst f5_))
      obtain ⟨Ao71,co71,eo71⟩:= Kd.R_slice HO290.out
      (first|subst eo71|(injection eo71 with f1_ f2_ f3_;have f4_:= f1_.symm;have f5_:= f3_.symm;clear f1_ f2_ f3_;subst f4_;subst f5_))
      obtain ⟨Ao72,co72,eo72⟩:= Kd.R_slice HO293.out
      (first|subst eo72|(injection eo72 with f1_ f2_ f3_;have f4_:= f1_.symm;have f5_:= f3_.symm;clear f1_ f2_ f3_;subst f4_;subst f5_))
      refine hK.out _ _ ⟨(blk_cell BK276.out 0).trans rfl,(blk_cell BK276.out 1).trans rfl,(blk_cell BK276.out 2).trans rfl,(blk_cell BK247.out 0).trans rfl,(blk_cell BK247.out 1).trans rfl,(blk_cell BK247.out 2).trans rfl⟩ (fun hHeld => ?_)
      clear hK K
      refine norm_ (a':= ?_) ?_ ?_
      rotate_left
      ·show Act.put _ (some 37) _ = _
       simp only [Act.put,List.setIfInBounds_toArray,List.set_cons_zero,List.set_cons_succ,i64_w,i32_w]
       rfl
      refine one_ (i:= 3) (N:= some 38) #[T_,T_,T_,T_,F_] rfl rfl (by kernel_rfl) (by decide) (fun K hK => ?_)
      refine goes_ Try.func16 (by kernel_rfl) rfl #[.agg #[.slice Ao51 t267.length co51,.slice Ao55 t270.length co55,.slice Ao56 t273.length co56],.agg #[.slice Ao70 t285.length co70,.slice Ao71 t288.length co71,.slice Ao72 t291.length co72]] (by rfl) rfl rfl (by (try simp only [List.map_toArray,List.map_cons,List.map_nil]);first|done|rfl|(simp only [List.length_drop,List.length_take];rfl)) ?_
      with_reducible refine (laws_eqCracker.calls k _ _ t267 _ _ t270 _ _ t273 _ _ t285 _ _ t288 _ _ t291 true _ ?side1 ?side2 ?side3 ?side4 ?side5 ?side6 ?side7 ?side8 ?side9 ?side10 ?side11 ?side12 A27.out).mono ?_
      (case side1 => exact uc (Kd.R_reads' HO269.out).2.2)
      (case side2 => exact (Kd.R_reads' HO269.out).2.1)
      (case side3 => exact uc (Kd.R_reads' HO272.out).2.2)
      (case side4 => exact (Kd.R_reads' HO272.out).2.1)
      (case side5 => exact uc (Kd.R_reads' HO275.out).2.2)
      (case side6 => exact (Kd.R_reads' HO275.out).2.1)
      (case side7 => exact uc (Kd.R_reads' HO287.out).2.2)
      (case side8 => exact (Kd.R_reads' HO287.out).2.1)
      (case side9 => exact uc (Kd.R_reads' HO290.out).2.2)
      (case side10 => exact (Kd.R_reads' HO290.out).2.1)
      (case side11 => exact uc (Kd.R_reads' HO293.out).2.2)
      (case side12 => exact (Kd.R_reads' HO293.out).2.1)
      rintro e w73 ⟨rfl,hb⟩
      refine ⟨_,rfl,?_⟩
      have n0_:= mk (Kd.R_below (up HO253.out) hb)
      have n1_:= mk (Kd.R_below (up HO256.out) hb)
      have n2_:= mk (Kd.R_below (up HO259.out) hb)
      have n3_:= mk (Kd.R_below (up HO262.out) hb)
      have n4_:= mk (Kd.R_below (up HO265.out) hb)
      have n5_:= mk (Kd.R_below (up HO269.out) hb)
      have n6_:= mk (Kd.R_below (up HO272.out) hb)
      have n7_:= mk (Kd.R_below (up HO275.out) hb)
      have n8_:= mk (Kd.R_below (up HO279.out) hb)
      have n9_:= mk (Kd.R_below (up HO282.out) hb)
      have n10_:= mk (Kd.R_below (up HO287.out) hb)
      have n11_:= mk (Kd.R_below (up HO290.out) hb)
      have n12_:= mk (Kd.R_below (up HO293.out) hb)
      have n13_:= mk (blk_below (g:= gb247) (o:= .cells #[.slice A0_0 l0_0.length c0_0,.slice A0_1 l0_1.length c0_1,.slice A0_2 l0_2.length c0_2] 25 (0,0)) (ub BK247.out) hb)
      have n14_:= mk (blk_below (g:= gb248) (o:= .cells #[.slice A1_0 l1_0.length c1_0,.slice A1_1 l1_1.length c1_1] 56 (0,0)) (ub BK248.out) hb)
      have n15_:= mk (blk_below (g:= gb276) (o:= .cells #[.slice Ao51 t267.length co51,.slice Ao55 t270.length co55,.slice Ao56 t273.length co56] 30 (0,0)) (ub BK276.out) hb)
      have n16_:= mk (blk_below (g:= gb283) (o:= .cells #[.slice Ao60 t277.length co60,.slice Ao65 t280.length co65] 61 (0,0)) (ub BK283.out) hb)
      have n17_:= mk (below_step (by repeat (first|(with_reducible first|exact HB.out|apply below_alloc|apply pw_below_drewN|apply below_drew1|refine below_set ?_ GE247.out|refine below_set ?_ GE248.out|refine below_set ?_ GE276.out|refine below_set ?_ GE283.out)|exact HB.out)) hb)
      clear HO253
      clear HO256
      clear HO259
      clear HO262
      clear HO265
      clear HO269
      clear HO272
      clear HO275
      clear HO279
      clear HO282
      clear HO287
      clear HO290
      clear HO293
      clear BK247
      clear BK248
      clear BK276
      clear BK283
      clear HB
      have HO253:= n0_
      have HO256:= n1_
      have HO259:= n2_
      have HO262:= n3_
      have HO265:= n4_
      have HO269:= n5_
      have HO272:= n6_
      have HO275:= n7_
      have HO279:= n8_
      have HO282:= n9_
      have HO287:= n10_
      have HO290:= n11_
      have HO293:= n12_
      have BK247:= n13_
      have BK248:= n14_
      have BK276:= n15_
      have BK283:= n16_
      have HB:= n17_
      clear n0_ n1_ n2_ n3_ n4_ n5_ n6_ n7_ n8_ n9_ n10_ n11_ n12_ n13_ n14_ n15_ n16_ n17_
      (try clear hb)
      (try clear hb2)
      (try clear hk)
      (try clear hi)
      refine hK.out _ _ ⟨(blk_cell BK276.out 0).trans rfl,(blk_cell BK276.out 1).trans rfl,(blk_cell BK276.out 2).trans rfl,(blk_cell BK247.out 0).trans rfl,(blk_cell BK247.out 1).trans rfl,(blk_cell BK247.out 2).trans rfl⟩ (fun hHeld => ?_)
      clear hK K
      refine norm_ (a':= ?_) ?_ ?_
      rotate_left
      ·show Act.put _ (some 38) _ = _
       simp only [Act.put,List.setIfInBounds_toArray,List.set_cons_zero,List.set_cons_succ,i64_w,i32_w]
       rfl
      refine pure_ (i:= 4) (N:= some 39) (v:= ?_) (a':= ?_) #[T_,T_,T_,T_,T_] rfl rfl (by kernel_rfl) (fun _ _ _ h => h) (Or.inl ⟨by rfl,?_⟩) ?_ ?_
      rotate_left
      ·intro w'
       go_simp
       with_reducible rfl
      rotate_left
      ·simp only [Act.put,List.setIfInBounds_toArray,List.set_cons_zero,List.set_cons_succ,i64_w,i32_w]
       rfl
      refine done_ (by kernel_rfl) ?_
      try go_wp2
      have n0_:= mk (Kd.R_drew HO253.out)
      have n1_:= mk (Kd.R_drew HO256.out)
      have n2_:= mk (Kd.R_drew HO259.out)
      have n3_:= mk (Kd.R_drew HO262.out)
      have n4_:= mk (Kd.R_drew HO265.out)
      have n5_:= mk (Kd.R_drew HO269.out)
      have n6_:= mk (Kd.R_drew HO272.out)
      have n7_:= mk (Kd.R_drew HO275.out)
      have n8_:= mk (Kd.R_drew HO279.out)
      have n9_:= mk (Kd.R_drew HO282.out)
      have n10_:= mk (Kd.R_drew HO287.out)
      have n11_:= mk (Kd.R_drew HO290.out)
      have n12_:= mk (Kd.R_drew HO293.out)
      have n13_:= mk (blk_drew BK247.out)
      have n14_:= mk (blk_drew BK248.out)
      have n15_:= mk (blk_drew BK276.out)
      have n16_:= mk (blk_drew BK283.out)
      have n17_:= mk (below_drew1 HB.out)
      clear HO253
      clear HO256
      clear HO259
      clear HO262
      clear HO265
      clear HO269
      clear HO272
      clear HO275
      clear HO279
      clear HO282
      clear HO287
      clear HO290
      clear HO293
      clear BK247
      clear BK248
      clear BK276
      clear BK283
      clear HB
      have HO253:= n0_
      have HO256:= n1_
      have HO259:= n2_
      have HO262:= n3_
      have HO265:= n4_
      have HO269:= n5_
      have HO272:= n6_
      have HO275:= n7_
      have HO279:= n8_
      have HO282:= n9_
      have HO287:= n10_
      have HO290:= n11_
      have HO293:= n12_
      have BK247:= n13_
      have BK248:= n14_
      have BK276:= n15_
      have BK283:= n16_
      have HB:= n17_
      clear n0_ n1_ n2_ n3_ n4_ n5_ n6_ n7_ n8_ n9_ n10_ n11_ n12_ n13_ n14_ n15_ n16_ n17_
      refine start_ (n:= 5) (S:= fun w' => w'.cell? ⟨gb283,0,none⟩ = some (.slice Ao60 t277.length co60) ∧ w'.cell? ⟨gb283,1,none⟩ = some (.slice Ao65 t280.length co65) ∧ w'.cell? ⟨gb248,0,none⟩ = some (.slice A1_0 l1_0.length c1_0) ∧ w'.cell? ⟨gb248,1,none⟩ = some (.slice A1_1 l1_1.length c1_1)) (ds:= []) #[F_,F_,F_,F_,F_] (by kernel_rfl) rfl rfl ⟨(blk_cell BK283.out 0).trans rfl,(blk_cell BK283.out 1).trans rfl,(blk_cell BK248.out 0).trans rfl,(blk_cell BK248.out 1).trans rfl⟩ (fun hHeld => ?_)
      generalize w73.drew = w74 at HO253 HO256 HO259 HO262 HO265 HO269 HO272 HO275 HO279 HO282 HO287 HO290 HO293 BK247 BK248 BK276 BK283 HB hHeld ⊢
      refine take_ (i:= 0) (N:= some 40) (v:= ?_) (a':= ?_) #[T_,F_,F_,F_,F_] rfl rfl (by kernel_rfl) (fun _ _ _ h => h) (Or.inl ⟨by rfl,?_⟩) hHeld ?_ ?_
      rotate_left
      ·rintro w' ⟨s0,s1,s2,s3⟩
       go_simp
       with_reducible rfl
      rotate_left
      ·simp only [Act.put,List.setIfInBounds_toArray,List.set_cons_zero,List.set_cons_succ,i64_w,i32_w]
       rfl
      refine take_ (i:= 1) (N:= some 41) (v:= ?_) (a':= ?_) #[T_,T_,F_,F_,F_] rfl rfl (by kernel_rfl) (fun _ _ _ h => h) (Or.inl ⟨by rfl,?_⟩) hHeld ?_ ?_
      rotate_left
      ·rintro w' ⟨s0,s1,s2,s3⟩
       go_simp
       with_reducible rfl
      rotate_left
      ·simp only [Act.put,List.setIfInBounds_toArray,List.set_cons_zero,List.set_cons_succ,i64_w,i32_w]
       rfl
      refine one_ (i:= 2) (N:= some 42) #[T_,T_,T_,F_,F_] rfl rfl (by kernel_rfl) (by decide) (fun K hK => ?_)
      refine goes_ Try.func38 (by kernel_rfl) rfl #[.agg #[.slice A1_0 l1_0.length c1_0,.slice A1_1 l1_1.length c1_1]] (by rfl) rfl rfl (by (try simp only [List.map_toArray,List.map_cons,List.map_nil]);first|done|rfl|(simp only [List.length_drop,List.length_take];rfl)) ?_
      with_reducible refine (laws_toPending.calls k _ _ l1_0 _ _ l1_1 t295 t298 _ ?side1 ?side2 ?side3 ?side4 A29.out).mono ?_
      (case side1 => exact uc (Kd.C_below HR1_0.out HB.out))
      (case side2 => exact HC1_0.out)
      (case side3 => exact uc (Kd.C_below HR1_1.out HB.out))
      (case side4 => exact HC1_1.out)
      rintro e w75 ⟨v296,v299,rfl,ho0,ho1,hb⟩
      refine ⟨_,rfl,?_⟩
      have n0_:= mk (Kd.R_elder' (up HO253.out) (Kd.R_base ho1) hb)
      have n1_:= mk (Kd.R_elder' (up HO256.out) (Kd.R_base ho1) hb)
      have n2_:= mk (Kd.R_below (up HO259.out) hb)
      have n3_:= mk (Kd.R_elder' (up HO262.out) (Kd.R_base ho0) hb)
      have n4_:= mk (Kd.R_elder' (up HO265.out) (Kd.R_base ho1) hb)
      have n5_:= mk (Kd.R_elder' (up HO269.out) (Kd.R_base ho1) hb)
      have n6_:= mk (Kd.R_elder' (up HO272.out) (Kd.R_base ho1) hb)
      have n7_:= mk (Kd.R_below (up HO275.out) hb)
      have n8_:= mk (Kd.R_elder' (up HO279.out) (Kd.R_base ho0) hb)
      have n9_:= mk (Kd.R_elder' (up HO282.out) (Kd.R_base ho1) hb)
      have n10_:= mk (Kd.R_elder' (up HO287.out) (Kd.R_base ho1) hb)
      have n11_:= mk (Kd.R_elder' (up HO290.out) (Kd.R_base ho1) hb)
      have n12_:= mk (Kd.R_below (up HO293.out) hb)
      have n13_:= mk (Kd.R_lower (Kd.R_new' (Kd.R_new' ho0 (Kd.R_lt (up HO262.out))) (Kd.R_lt (up HO279.out))) (below_size (by repeat (first|(with_reducible first|exact HB.out|apply below_alloc|apply pw_below_drewN|apply below_drew1|refine below_set ?_ GE247.out|refine below_set ?_ GE248.out|refine below_set ?_ GE276.out|refine below_set ?_ GE283.out)|exact HB.out))))
      have n14_:= mk (Kd.R_lower (Kd.R_new' (Kd.R_new' (Kd.R_new' (Kd.R_new' (Kd.R_new' (Kd.R_new' (Kd.R_new' (Kd.R_new' ho1 (Kd.R_lt (up HO253.out))) (Kd.R_lt (up HO256.out))) (Kd.R_lt (up HO265.out))) (Kd.R_lt (up HO269.out))) (Kd.R_lt (up HO272.out))) (Kd.R_lt (up HO282.out))) (Kd.R_lt (up HO287.out))) (Kd.R_lt (up HO290.out))) (below_size (by repeat (first|(with_reducible first|exact HB.out|apply below_alloc|apply pw_below_drewN|apply below_drew1|refine below_set ?_ GE247.out|refine below_set ?_ GE248.out|refine below_set ?_ GE276.out|refine below_set ?_ GE283.out)|exact HB.out))))
      have n15_:= mk (blk_below (g:= gb247) (o:= .cells #[.slice A0_0 l0_0.length c0_0,.slice A0_1 l0_1.length c0_1,.slice A0_2 l0_2.length c0_2] 25 (0,0)) (ub BK247.out) hb)
      have n16_:= mk (blk_below (g:= gb248) (o:= .cells #[.slice A1_0 l1_0.length c1_0,.slice A1_1 l1_1.length c1_1] 56 (0,0)) (ub BK248.out) hb)
      have n17_:= mk (blk_below (g:= gb276) (o:= .cells #[.slice Ao51 t267.length co51,.slice Ao55 t270.length co55,.slice Ao56 t273.length co56] 30 (0,0)) (ub BK276.out) hb)
      have n18_:= mk (blk_below (g:= gb283) (o:= .cells #[.slice Ao60 t277.length co60,.slice Ao65 t280.length co65] 61 (0,0)) (ub BK283.out) hb)
      have n19_:= mk (below_step (by repeat (first|(with_reducible first|exact HB.out|apply below_alloc|apply pw_below_drewN|apply below_drew1|refine below_set ?_ GE247.out|refine below_set ?_ GE248.out|refine below_set ?_ GE276.out|refine below_set ?_ GE283.out)|exact HB.out)) hb)
      clear HO253
      clear HO256
      clear HO259
      clear HO262
      clear HO265
      clear HO269
      clear HO272
      clear HO275
      clear HO279
      clear HO282
      clear HO287
      clear HO290
      clear HO293
      clear BK247
      clear BK248
      clear BK276
      clear BK283
      clear HB
      have HO253:= n0_
      have HO256:= n1_
      have HO259:= n2_
      have HO262:= n3_
      have HO265:= n4_
      have HO269:= n5_
      have HO272:= n6_
      have HO275:= n7_
      have HO279:= n8_
      have HO282:= n9_
      have HO287:= n10_
      have HO290:= n11_
      have HO293:= n12_
      have HO297:= n13_
      have HO300:= n14_
      have BK247:= n15_
      have BK248:= n16_
      have BK276:= n17_
      have BK283:= n18_
      have HB:= n19_
      clear n0_ n1_ n2_ n3_ n4_ n5_ n6_ n7_ n8_ n9_ n10_ n11_ n12_ n13_ n14_ n15_ n16_ n17_ n18_ n19_
      (try clear hb)
      (try clear hb2)
      (try clear hk)
      (try clear hi)
      (try clear ho0)
      (try clear ho1)
      obtain ⟨Ao76,co76,eo76⟩:= Kd.R_slice HO297.out
      (first|subst eo76|(injection eo76 with f1_ f2_ f3_;have f4_:= f1_.symm;have f5_:= f3_.symm;clear f1_ f2_ f3_;subst f4_;subst f5_))
      obtain ⟨Ao77,co77,eo77⟩:= Kd.R_slice HO300.out
      (first|subst eo77|(injection eo77 with f1_ f2_ f3_;have f4_:= f1_.symm;have f5_:= f3_.symm;clear f1_ f2_ f3_;subst f4_;subst f5_))
      refine hK.out _ _ ⟨(blk_cell BK283.out 0).trans rfl,(blk_cell BK283.out 1).trans rfl,(blk_cell BK248.out 0).trans rfl,(blk_cell BK248.out 1).trans rfl⟩ (fun hHeld => ?_)
      clear hK K
      refine norm_ (a':= ?_) ?_ ?_
      rotate_left
      ·show Act.put _ (some 42) _ = _
       simp only [Act.put,List.setIfInBounds_toArray,List.set_cons_zero,List.set_cons_succ,i64_w,i32_w]
       rfl
      refine one_ (i:= 3) (N:= some 43) #[T_,T_,T_,T_,F_] rfl rfl (by kernel_rfl) (by decide) (fun K hK => ?_)
      refine goes_ Try.func40 (by kernel_rfl) rfl #[.agg #[.slice Ao60 t277.length co60,.slice Ao65 t280.length co65],.agg #[.slice Ao76 t295.length co76,.slice Ao77 t298.length co77]] (by rfl) rfl rfl (by (try simp only [List.map_toArray,List.map_cons,List.map_nil]);first|done|rfl|(simp only [List.length_drop,List.length_take];rfl)) ?_
      with_reducible refine (laws_eqPending.calls k _ _ t277 _ _ t280 _ _ t295 _ _ t298 true _ ?side1 ?side2 ?side3 ?side4 ?side5 ?side6 ?side7 ?side8 A30.out).mono ?_
      (case side1 => exact uc (Kd.R_reads' HO279.out).2.2)
      (case side2 => exact (Kd.R_reads' HO279.out).2.1)
      (case side3 => exact uc (Kd.R_reads' HO282.out).2.2)
      (case side4 => exact (Kd.R_reads' HO282.out).2.1)
      (case side5 => exact uc (Kd.R_reads' HO297.out).2.2)
      (case side6 => exact (Kd.R_reads' HO297.out).2.1)
      (case side7 => exact uc (Kd.R_reads' HO300.out).2.2)
      (case side8 => exact (Kd.R_reads' HO300.out).2.1)
      rintro e w78 ⟨rfl,hb⟩
      refine ⟨_,rfl,?_⟩
      have n0_:= mk (Kd.R_below (up HO253.out) hb)
      have n1_:= mk (Kd.R_below (up HO256.out) hb)
      have n2_:= mk (Kd.R_below (up HO259.out) hb)
      have n3_:= mk (Kd.R_below (up HO262.out) hb)
      have n4_:= mk (Kd.R_below (up HO265.out) hb)
      have n5_:= mk (Kd.R_below (up HO269.out) hb)
      have n6_:= mk (Kd.R_below (up HO272.out) hb)
      have n7_:= mk (Kd.R_below (up HO275.out) hb)
      have n8_:= mk (Kd.R_below (up HO279.out) hb)
      have n9_:= mk (Kd.R_below (up HO282.out) hb)
      have n10_:= mk (Kd.R_below (up HO287.out) hb)
      have n11_:= mk (Kd.R_below (up HO290.out) hb)
      have n12_:= mk (Kd.R_below (up HO293.out) hb)
      have n13_:= mk (Kd.R_below (up HO297.out) hb)
      have n14_:= mk (Kd.R_below (up HO300.out) hb)
      have n15_:= mk (blk_below (g:= gb247) (o:= .cells #[.slice A0_0 l0_0.length c0_0,.slice A0_1 l0_1.length c0_1,.slice A0_2 l0_2.length c0_2] 25 (0,0)) (ub BK247.out) hb)
      have n16_:= mk (blk_below (g:= gb248) (o:= .cells #[.slice A1_0 l1_0.length c1_0,.slice A1_1 l1_1.length c1_1] 56 (0,0)) (ub BK248.out) hb)
      have n17_:= mk (blk_below (g:= gb276) (o:= .cells #[.slice Ao51 t267.length co51,.slice Ao55 t270.length co55,.slice Ao56 t273.length co56] 30 (0,0)) (ub BK276.out) hb)
      have n18_:= mk (blk_below (g:= gb283) (o:= .cells #[.slice Ao60 t277.length co60,.slice Ao65 t280.length co65] 61 (0,0)) (ub BK283.out) hb)
      have n19_:= mk (below_step (by repeat (first|(with_reducible first|exact HB.out|apply below_alloc|apply pw_below_drewN|apply below_drew1|refine below_set ?_ GE247.out|refine below_set ?_ GE248.out|refine below_set ?_ GE276.out|refine below_set ?_ GE283.out)|exact HB.out)) hb)
      clear HO253
      clear HO256
      clear HO259
      clear HO262
      clear HO265
      clear HO269
      clear HO272
      clear HO275
      clear HO279
      clear HO282
      clear HO287
      clear HO290
      clear HO293
      clear HO297
      clear HO300
      clear BK247
      clear BK248
      clear BK276
      clear BK283
      clear HB
      have HO253:= n0_
      have HO256:= n1_
      have HO259:= n2_
      have HO262:= n3_
      have HO265:= n4_
      have HO269:= n5_
      have HO272:= n6_
      have HO275:= n7_
      have HO279:= n8_
      have HO282:= n9_
      have HO287:= n10_
      have HO290:= n11_
      have HO293:= n12_
      have HO297:= n13_
      have HO300:= n14_
      have BK247:= n15_
      have BK248:= n16_
      have BK276:= n17_
      have BK283:= n18_
      have HB:= n19_
      clear n0_ n1_ n2_ n3_ n4_ n5_ n6_ n7_ n8_ n9_ n10_ n11_ n12_ n13_ n14_ n15_ n16_ n17_ n18_ n19_
      (try clear hb)
      (try clear hb2)
      (try clear hk)
      (try clear hi)
      refine hK.out _ _ ⟨(blk_cell BK283.out 0).trans rfl,(blk_cell BK283.out 1).trans rfl,(blk_cell BK248.out 0).trans rfl,(blk_cell BK248.out 1).trans rfl⟩ (fun hHeld => ?_)
      clear hK K
      refine norm_ (a':= ?_) ?_ ?_
      rotate_left
      ·show Act.put _ (some 43) _ = _
       simp only [Act.put,List.setIfInBounds_toArray,List.set_cons_zero,List.set_cons_succ,i64_w,i32_w]
       rfl
      refine pure_ (i:= 4) (N:= some 44) (v:= ?_) (a':= ?_) #[T_,T_,T_,T_,T_] rfl rfl (by kernel_rfl) (fun _ _ _ h => h) (Or.inl ⟨by rfl,?_⟩) ?_ ?_
      rotate_left
      ·intro w'
       go_simp
       with_reducible rfl
      rotate_left
      ·simp only [Act.put,List.setIfInBounds_toArray,List.set_cons_zero,List.set_cons_succ,i64_w,i32_w]
       rfl
      refine done_ (by kernel_rfl) ?_
      try go_wp2
      go_ret
      exact ⟨by first|rfl|(simp [errW_none,errW_some] <;> rfl)|(simp [*,errW_none,errW_some] <;> rfl),by repeat (first|(with_reducible first|exact HB.out|apply below_alloc|apply pw_below_drewN|apply below_drew1|refine below_set ?_ GE247.out|refine below_set ?_ GE248.out|refine below_set ?_ GE276.out|refine below_set ?_ GE283.out)|exact HB.out)⟩
     ·replace c31:= Bool.eq_false_iff.mpr c31
      subst c31
      have H1 : (some false) = some r:= by rw [if_neg (show ¬ (false = true) by decide)] at H;exact H
      clear H
      have H:= H1
      clear H1
      exact absurd ((Option.some.inj H).trans HRT.out) (by decide)
    ·replace c28:= Bool.eq_false_iff.mpr c28
     subst c28
     have H1 : (some false) = some r:= by rw [if_neg (show ¬ (false = true) by decide)] at H;exact H
     clear H
     have H:= H1
     clear H1
     exact absurd ((Option.some.inj H).trans HRT.out) (by decide)

end Go.Proofs.Ytbolealjmfbhjaa.PFnExactIsPending
