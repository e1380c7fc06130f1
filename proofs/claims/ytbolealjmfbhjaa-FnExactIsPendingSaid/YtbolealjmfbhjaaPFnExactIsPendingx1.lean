-- printed by a program of this session, a turned copy of the print of the kit
import Derived.Test.YtbolealjmfbhjaaSq
import Derived.Test.YtbolealjmfbhjaaPFnExactIsPendingx0
namespace Go.Proofs.Ytbolealjmfbhjaa.PFnExactIsPending
open Go.RowKit Go.Proofs.YtbolealjmfbhjaaW.PrintWords Go.Proofs.YtbolealjmfbhjaaW.PrintLast Go.Proofs.YtbolealjmfbhjaaW.PrintMore Go.Proofs.Ytbolealjmfbhjaa.Sq
attribute [local go_sem] max2_int min2_int max_two min_two max_three min_three max_four min_four Giv.cell_twice   -- for this text's walks alone
set_option linter.unusedVariables false
set_option linter.unusedSimpArgs false

/-! ### laws_szIntS: function 46 -/
def laws_szIntS.f (l0 : List Int) (a1 : Int) : Option (Int) := if (wrap64 (a1 - (l0.length : Int))) < 0 then (some (-1)) else (some (wrap64 (a1 - (l0.length : Int))))
set_option maxHeartbeats 8000000 in
set_option maxRecDepth 100000 in
theorem laws_szIntS.calls (A0 : Option Addr) (c0 : Nat) (l0 : List Int) (a1 : Int) (r : Int) (w : World) (hr0 : Kd.C (Kd.int .i64) w A0 l0.length l0) (hc0 : l0.length ≤ c0) (h : laws_szIntS.f l0 a1 = some r) :
    Calls Try.prog 46 #[.slice A0 l0.length c0, .int .i64 a1] w fun e w' => e = .returned (.int .i64 r) ∧ Drawn0 w w' := by
  have HR0:= mk hr0
  have HC0:= mk hc0
  clear hr0 hc0
  have H : (if (wrap64 (a1 - (l0.length : Int))) < 0 then (some (-1)) else (some (wrap64 (a1 - (l0.length : Int))))) = some r:= h
  clear h
  by_cases c3 : (wrap64 (a1 - (l0.length : Int))) < 0
  · rw [if_pos c3] at H
    have c3b0 : decide ((wrap64 (a1 - (l0.length : Int))) < 0) = true:= decide_eq_true c3
    clear c3
    obtain rfl:= Option.some.inj H
    go_enter Try.func46,Try.ntmps46
    go_wp2
    go_ret
    exact ⟨by first|rfl|(simp;done)|(simp [*];done),by repeat (first|exact Drawn0.refl _|apply Drawn0.step)⟩
  · rw [if_neg c3] at H
    have c3b0 : decide ((wrap64 (a1 - (l0.length : Int))) < 0) = false:= decide_eq_false c3
    clear c3
    obtain rfl:= Option.some.inj H
    go_enter Try.func46,Try.ntmps46
    go_wp2
    go_ret
    exact ⟨by first|rfl|(simp;done)|(simp [*];done),by repeat (first|exact Drawn0.refl _|apply Drawn0.step)⟩

/-! ### laws_szPivotS: function 47 -/
def laws_szPivotS.f (l0 : List (S66)) (a1 : Int) : Option (Int) := if (wrap64 (a1 - (l0.length : Int))) < 0 then (some (-1)) else (some (wrap64 (a1 - (l0.length : Int))))
set_option maxHeartbeats 8000000 in
set_option maxRecDepth 100000 in
theorem laws_szPivotS.calls (A0 : Option Addr) (c0 : Nat) (l0 : List (S66)) (a1 : Int) (r : Int) (w : World) (hr0 : Kd.C k66 w A0 l0.length l0) (hc0 : l0.length ≤ c0) (h : laws_szPivotS.f l0 a1 = some r) :
    Calls Try.prog 47 #[.slice A0 l0.length c0, .int .i64 a1] w fun e w' => e = .returned (.int .i64 r) ∧ Drawn0 w w' := by
  have HR0:= mk hr0
  have HC0:= mk hc0
  clear hr0 hc0
  have H : (if (wrap64 (a1 - (l0.length : Int))) < 0 then (some (-1)) else (some (wrap64 (a1 - (l0.length : Int))))) = some r:= h
  clear h
  by_cases c3 : (wrap64 (a1 - (l0.length : Int))) < 0
  · rw [if_pos c3] at H
    have c3b0 : decide ((wrap64 (a1 - (l0.length : Int))) < 0) = true:= decide_eq_true c3
    clear c3
    obtain rfl:= Option.some.inj H
    go_enter Try.func47,Try.ntmps47
    go_wp2
    go_ret
    exact ⟨by first|rfl|(simp;done)|(simp [*];done),by repeat (first|exact Drawn0.refl _|apply Drawn0.step)⟩
  · rw [if_neg c3] at H
    have c3b0 : decide ((wrap64 (a1 - (l0.length : Int))) < 0) = false:= decide_eq_false c3
    clear c3
    obtain rfl:= Option.some.inj H
    go_enter Try.func47,Try.ntmps47
    go_wp2
    go_ret
    exact ⟨by first|rfl|(simp;done)|(simp [*];done),by repeat (first|exact Drawn0.refl _|apply Drawn0.step)⟩

/-! ### laws_szCracker: function 12 -/
def laws_szCracker.f (l0_0 : List Int) (l0_1 : List Int) (l0_2 : List (S66)) (a1 : Int) : Option (Int) := (laws_szIntS.f l0_0 a1).bind fun t102 => (if t102 < 0 then (some (-1)) else ((laws_szIntS.f l0_1 t102).bind fun t103 => (if t103 < 0 then (some (-1)) else ((laws_szPivotS.f l0_2 t103).bind fun t104 => (if t104 < 0 then (some (-1)) else (some t104))))))
set_option maxHeartbeats 8000000 in
set_option maxRecDepth 100000 in
theorem laws_szCracker.calls (A0_0 : Option Addr) (c0_0 : Nat) (l0_0 : List Int) (A0_1 : Option Addr) (c0_1 : Nat) (l0_1 : List Int) (A0_2 : Option Addr) (c0_2 : Nat) (l0_2 : List (S66)) (a1 : Int) (r : Int) (w : World) (hr0_0 : Kd.C (Kd.int .i64) w A0_0 l0_0.length l0_0) (hc0_0 : l0_0.length ≤ c0_0) (hr0_1 : Kd.C (Kd.int .i64) w A0_1 l0_1.length l0_1) (hc0_1 : l0_1.length ≤ c0_1) (hr0_2 : Kd.C k66 w A0_2 l0_2.length l0_2) (hc0_2 : l0_2.length ≤ c0_2) (h : laws_szCracker.f l0_0 l0_1 l0_2 a1 = some r) :
    Calls Try.prog 12 #[.agg #[.slice A0_0 l0_0.length c0_0, .slice A0_1 l0_1.length c0_1, .slice A0_2 l0_2.length c0_2], .int .i64 a1] w fun e w' => e = .returned (.int .i64 r) ∧ Below w.heap.size w w' := by
  have hu25:= Try.underlying25
  have HR0_0:= mk hr0_0
  have HC0_0:= mk hc0_0
  clear hr0_0 hc0_0
  have HR0_1:= mk hr0_1
  have HC0_1:= mk hc0_1
  clear hr0_1 hc0_1
  have HR0_2:= mk hr0_2
  have HC0_2:= mk hc0_2
  clear hr0_2 hc0_2
  have HB:= mk (Below.refl w.heap.size w)
  have H : ((laws_szIntS.f l0_0 a1).bind fun t102 => (if t102 < 0 then (some (-1)) else ((laws_szIntS.f l0_1 t102).bind fun t103 => (if t103 < 0 then (some (-1)) else ((laws_szPivotS.f l0_2 t103).bind fun t104 => (if t104 < 0 then (some (-1)) else (some t104))))))) = some r:= h
  clear h
  replace H:= Option.bind_eq_some_iff.mp H
  obtain ⟨t102,A30,H⟩:= H
  replace H : (if t102 < 0 then (some (-1)) else ((laws_szIntS.f l0_1 t102).bind fun t103 => (if t103 < 0 then (some (-1)) else ((laws_szPivotS.f l0_2 t103).bind fun t104 => (if t104 < 0 then (some (-1)) else (some t104)))))) = some r:= H
  have A3:= mk A30
  clear A30
  by_cases c4 : t102 < 0
  · rw [if_pos c4] at H
    have c4b0 : decide (t102 < 0) = true:= decide_eq_true c4
    clear c4
    obtain rfl:= Option.some.inj H
    go_enter Try.func12,Try.ntmps12
    go_wp2_with (first|((with_reducible refine gate_dst (N:= 2) rfl ?_);refine box_event ?hg (N:= 2) ?hd (cs:= #[.slice A0_0 l0_0.length c0_0,.slice A0_1 l0_1.length c0_1,.slice A0_2 l0_2.length c0_2]) (t:= 25) ?hr ?_;(case hd => rfl);(case hg => rfl);(case hr => first|(go_simp;done)|(go_simp;rfl));intro gb101 hg w5 hbox hb;have n0_:= mk (below_step (by repeat (first|(with_reducible first|exact HB.out|apply below_alloc|apply pw_below_drewN|apply below_drew1)|exact HB.out)) hb);have n1_:= mk (hbox);have n2_:= mk ((by rw [hg];exact (below_size (by repeat (first|(with_reducible first|exact HB.out|apply below_alloc|apply pw_below_drewN|apply below_drew1)|exact HB.out))) : w.heap.size ≤ gb101));have n3_:= mk ((by rw [hg];exact (below_size (by repeat (first|(with_reducible first|exact HB.out|apply below_alloc|apply pw_below_drewN|apply below_drew1)|exact HB.out))) : w.heap.size ≤ gb101));clear HB;have HB:= n0_;have BK101:= n1_;have GW101:= n2_;have GE101:= n3_;clear n0_ n1_ n2_ n3_;clear hb hbox hg;have hcz6_0 : w5.cell? ⟨gb101,0,none⟩ = some (.slice A0_0 l0_0.length c0_0):= (blk_cell BK101.out 0).trans rfl;have hcz6_1 : w5.cell? ⟨gb101,1,none⟩ = some (.slice A0_1 l0_1.length c0_1):= (blk_cell BK101.out 1).trans rfl;have hcz6_2 : w5.cell? ⟨gb101,2,none⟩ = some (.slice A0_2 l0_2.length c0_2):= (blk_cell BK101.out 2).trans rfl;have hfz6_0:= blk_frozen BK101.out 0;have hfz6_1:= blk_frozen BK101.out 1;have hfz6_2:= blk_frozen BK101.out 2)|((with_reducible refine gate_callee (f:= 46) rfl ?_);refine goesL_ (some 8) rfl rfl Try.func46 (by kernel_rfl) rfl #[.slice A0_0 l0_0.length c0_0,.int .i64 a1] rfl (by (try simp only [List.map_toArray,List.map_cons,List.map_nil]);first|done|rfl|(simp only [List.length_drop,List.length_take];rfl)) ?_;(with_reducible refine (laws_szIntS.calls _ _ l0_0 a1 t102 _ ?side1 ?side2 A3.out).mono ?_);(case side1 => exact uc (Kd.C_below HR0_0.out HB.out));(case side2 => exact HC0_0.out);rintro e w' ⟨rfl,⟨nd,rfl⟩⟩;refine ⟨_,rfl,?_⟩))
    go_ret
    exact ⟨by first|rfl|(simp [errW_none,errW_some] <;> rfl)|(simp [*,errW_none,errW_some] <;> rfl),by repeat (first|(with_reducible first|exact HB.out|apply below_alloc|apply pw_below_drewN|apply below_drew1|refine below_set ?_ GE101.out)|exact HB.out)⟩
  · rw [if_neg c4] at H
    have c4b0 : decide (t102 < 0) = false:= decide_eq_false c4
    clear c4
    replace H:= Option.bind_eq_some_iff.mp H
    obtain ⟨t103,A70,H⟩:= H
    replace H : (if t103 < 0 then (some (-1)) else ((laws_szPivotS.f l0_2 t103).bind fun t104 => (if t104 < 0 then (some (-1)) else (some t104)))) = some r:= H
    have A7:= mk A70
    clear A70
    by_cases c8 : t103 < 0
    · rw [if_pos c8] at H
      have c8b0 : decide (t103 < 0) = true:= decide_eq_true c8
      clear c8
      obtain rfl:= Option.some.inj H
      go_enter Try.func12,Try.ntmps12
      go_wp2_with (first|((with_reducible refine gate_dst (N:= 2) rfl ?_);refine box_event ?hg (N:= 2) ?hd (cs:= #[.slice A0_0 l0_0.length c0_0,.slice A0_1 l0_1.length c0_1,.slice A0_2 l0_2.length c0_2]) (t:= 25) ?hr ?_;(case hd => rfl);(case hg => rfl);(case hr => first|(go_simp;done)|(go_simp;rfl));intro gb101 hg w9 hbox hb;have n0_:= mk (below_step (by repeat (first|(with_reducible first|exact HB.out|apply below_alloc|apply pw_below_drewN|apply below_drew1)|exact HB.out)) hb);have n1_:= mk (hbox);have n2_:= mk ((by rw [hg];exact (below_size (by repeat (first|(with_reducible first|exact HB.out|apply below_alloc|apply pw_below_drewN|apply below_drew1)|exact HB.out))) : w.heap.size ≤ gb101));have n3_:= mk ((by rw [hg];exact (below_size (by repeat (first|(with_reducible first|exact HB.out|apply below_alloc|apply pw_below_drewN|apply below_drew1)|exact HB.out))) : w.heap.size ≤ gb101));clear HB;have HB:= n0_;have BK101:= n1_;have GW101:= n2_;have GE101:= n3_;clear n0_ n1_ n2_ n3_;clear hb hbox hg;have hcz10_0 : w9.cell? ⟨gb101,0,none⟩ = some (.slice A0_0 l0_0.length c0_0):= (blk_cell BK101.out 0).trans rfl;have hcz10_1 : w9.cell? ⟨gb101,1,none⟩ = some (.slice A0_1 l0_1.length c0_1):= (blk_cell BK101.out 1).trans rfl;have hcz10_2 : w9.cell? ⟨gb101,2,none⟩ = some (.slice A0_2 l0_2.length c0_2):= (blk_cell BK101.out 2).trans rfl;have hfz10_0:= blk_frozen BK101.out 0;have hfz10_1:= blk_frozen BK101.out 1;have hfz10_2:= blk_frozen BK101.out 2)|((with_reducible refine gate_callee (f:= 46) rfl ?_);refine goesL_ (some 8) rfl rfl Try.func46 (by kernel_rfl) rfl #[.slice A0_0 l0_0.length c0_0,.int .i64 a1] rfl (by (try simp only [List.map_toArray,List.map_cons,List.map_nil]);first|done|rfl|(simp only [List.length_drop,List.length_take];rfl)) ?_;(with_reducible refine (laws_szIntS.calls _ _ l0_0 a1 t102 _ ?side1 ?side2 A3.out).mono ?_);(case side1 => exact uc (Kd.C_below HR0_0.out HB.out));(case side2 => exact HC0_0.out);rintro e w' ⟨rfl,⟨nd,rfl⟩⟩;refine ⟨_,rfl,?_⟩)|((with_reducible refine gate_callee (f:= 46) rfl ?_);refine goesL_ (some 14) rfl rfl Try.func46 (by kernel_rfl) rfl #[.slice A0_1 l0_1.length c0_1,.int .i64 t102] rfl (by (try simp only [List.map_toArray,List.map_cons,List.map_nil]);first|done|rfl|(simp only [List.length_drop,List.length_take];rfl)) ?_;(with_reducible refine (laws_szIntS.calls _ _ l0_1 t102 t103 _ ?side1 ?side2 A7.out).mono ?_);(case side1 => exact uc (Kd.C_below HR0_1.out (by repeat (first|(with_reducible first|exact HB.out|apply below_alloc|apply pw_below_drewN|apply below_drew1|refine below_set ?_ GE101.out)|exact HB.out))));(case side2 => exact HC0_1.out);rintro e w' ⟨rfl,⟨nd,rfl⟩⟩;refine ⟨_,rfl,?_⟩))
      go_ret
      exact ⟨by first|rfl|(simp [errW_none,errW_some] <;> rfl)|(simp [*,errW_none,errW_some] <;> rfl),by repeat (first|(with_reducible first|exact HB.out|apply below_alloc|apply pw_below_drewN|apply below_drew1|refine below_set ?_ GE101.out)|exact HB.out)⟩
    · rw [if_neg c8] at H
      have c8b0 : decide (t103 < 0) = false:= decide_eq_false c8
      clear c8
      replace H:= Option.bind_eq_some_iff.mp H
      obtain ⟨t104,A110,H⟩:= H
      replace H : (if t104 < 0 then (some (-1)) else (some t104)) = some r:= H
      have A11:= mk A110
      clear A110
      by_cases c12 : t104 < 0
      · rw [if_pos c12] at H
        have c12b0 : decide (t104 < 0) = true:= decide_eq_true c12
        clear c12
        obtain rfl:= Option.some.inj H
        go_enter Try.func12,Try.ntmps12
        go_wp2_with (first|((with_reducible refine gate_dst (N:= 2) rfl ?_);refine box_event ?hg (N:= 2) ?hd (cs:= #[.slice A0_0 l0_0.length c0_0,.slice A0_1 l0_1.length c0_1,.slice A0_2 l0_2.length c0_2]) (t:= 25) ?hr ?_;(case hd => rfl);(case hg => rfl);(case hr => first|(go_simp;done)|(go_simp;rfl));intro gb101 hg w13 hbox hb;have n0_:= mk (below_step (by repeat (first|(with_reducible first|exact HB.out|apply below_alloc|apply pw_below_drewN|apply below_drew1)|exact HB.out)) hb);have n1_:= mk (hbox);have n2_:= mk ((by rw [hg];exact (below_size (by repeat (first|(with_reducible first|exact HB.out|apply below_alloc|apply pw_below_drewN|apply below_drew1)|exact HB.out))) : w.heap.size ≤ gb101));have n3_:= mk ((by rw [hg];exact (below_size (by repeat (first|(with_reducible first|exact HB.out|apply below_alloc|apply pw_below_drewN|apply below_drew1)|exact HB.out))) : w.heap.size ≤ gb101));clear HB;have HB:= n0_;have BK101:= n1_;have GW101:= n2_;have GE101:= n3_;clear n0_ n1_ n2_ n3_;clear hb hbox hg;have hcz14_0 : w13.cell? ⟨gb101,0,none⟩ = some (.slice A0_0 l0_0.length c0_0):= (blk_cell BK101.out 0).trans rfl;have hcz14_1 : w13.cell? ⟨gb101,1,none⟩ = some (.slice A0_1 l0_1.length c0_1):= (blk_cell BK101.out 1).trans rfl;have hcz14_2 : w13.cell? ⟨gb101,2,none⟩ = some (.slice A0_2 l0_2.length c0_2):= (blk_cell BK101.out 2).trans rfl;have hfz14_0:= blk_frozen BK101.out 0;have hfz14_1:= blk_frozen BK101.out 1;have hfz14_2:= blk_frozen BK101.out 2)|((with_reducible refine gate_callee (f:= 46) rfl ?_);refine goesL_ (some 8) rfl rfl Try.func46 (by kernel_rfl) rfl #[.slice A0_0 l0_0.length c0_0,.int .i64 a1] rfl (by (try simp only [List.map_toArray,List.map_cons,List.map_nil]);first|done|rfl|(simp only [List.length_drop,List.length_take];rfl)) ?_;(with_reducible refine (laws_szIntS.calls _ _ l0_0 a1 t102 _ ?side1 ?side2 A3.out).mono ?_);(case side1 => exact uc (Kd.C_below HR0_0.out HB.out));(case side2 => exact HC0_0.out);rintro e w' ⟨rfl,⟨nd,rfl⟩⟩;refine ⟨_,rfl,?_⟩)|((with_reducible refine gate_callee (f:= 46) rfl ?_);refine goesL_ (some 14) rfl rfl Try.func46 (by kernel_rfl) rfl #[.slice A0_1 l0_1.length c0_1,.int .i64 t102] rfl (by (try simp only [List.map_toArray,List.map_cons,List.map_nil]);first|done|rfl|(simp only [List.length_drop,List.length_take];rfl)) ?_;(with_reducible refine (laws_szIntS.calls _ _ l0_1 t102 t103 _ ?side1 ?side2 A7.out).mono ?_);(case side1 => exact uc (Kd.C_below HR0_1.out (by repeat (first|(with_reducible first|exact HB.out|apply below_alloc|apply pw_below_drewN|apply below_drew1|refine below_set ?_ GE101.out)|exact HB.out))));(case side2 => exact HC0_1.out);rintro e w' ⟨rfl,⟨nd,rfl⟩⟩;refine ⟨_,rfl,?_⟩)|((with_reducible refine gate_callee (f:= 47) rfl ?_);refine goesL_ (some 20) rfl rfl Try.func47 (by kernel_rfl) rfl #[.slice A0_2 l0_2.length c0_2,.int .i64 t103] rfl (by (try simp only [List.map_toArray,List.map_cons,List.map_nil]);first|done|rfl|(simp only [List.length_drop,List.length_take];rfl)) ?_;(with_reducible refine (laws_szPivotS.calls _ _ l0_2 t103 t104 _ ?side1 ?side2 A11.out).mono ?_);(case side1 => exact uc (Kd.C_below HR0_2.out (by repeat (first|(with_reducible first|exact HB.out|apply below_alloc|apply pw_below_drewN|apply below_drew1|refine below_set ?_ GE101.out)|exact HB.out))));(case side2 => exact HC0_2.out);rintro e w' ⟨rfl,⟨nd,rfl⟩⟩;refine ⟨_,rfl,?_⟩))
        go_ret
        exact ⟨by first|rfl|(simp [errW_none,errW_some] <;> rfl)|(simp [*,errW_none,errW_some] <;> rfl),by repeat (first|(with_reducible first|exact HB.out|apply below_alloc|apply pw_below_drewN|apply below_drew1|refine below_set ?_ GE101.out)|exact HB.out)⟩
      · rw [if_neg c12] at H
        have c12b0 : decide (t104 < 0) = false:= decide_eq_false c12
        clear c12
        obtain rfl:= Option.some.inj H
        go_enter Try.func12,Try.ntmps12
        go_wp2_with (first|((with_reducible refine gate_dst (N:= 2) rfl ?_);refine box_event ?hg (N:= 2) ?hd (cs:= #[.slice A0_0 l0_0.length c0_0,.slice A0_1 l0_1.length c0_1,.slice A0_2 l0_2.length c0_2]) (t:= 25) ?hr ?_;(case hd => rfl);(case hg => rfl);(case hr => first|(go_simp;done)|(go_simp;rfl));intro gb101 hg w15 hbox hb;have n0_:= mk (below_step (by repeat (first|(with_reducible first|exact HB.out|apply below_alloc|apply pw_below_drewN|apply below_drew1)|exact HB.out)) hb);have n1_:= mk (hbox);have n2_:= mk ((by rw [hg];exact (below_size (by repeat (first|(with_reducible first|exact HB.out|apply below_alloc|apply pw_below_drewN|apply below_drew1)|exact HB.out))) : w.heap.size ≤ gb101));have n3_:= mk ((by rw [hg];exact (below_size (by repeat (first|(with_reducible first|exact HB.out|apply below_alloc|apply pw_below_drewN|apply below_drew1)|exact HB.out))) : w.heap.size ≤ gb101));clear HB;have HB:= n0_;have BK101:= n1_;have GW101:= n2_;have GE101:= n3_;clear n0_ n1_ n2_ n3_;clear hb hbox hg;have hcz16_0 : w15.cell? ⟨gb101,0,none⟩ = some (.slice A0_0 l0_0.length c0_0):= (blk_cell BK101.out 0).trans rfl;have hcz16_1 : w15.cell? ⟨gb101,1,none⟩ = some (.slice A0_1 l0_1.length c0_1):= (blk_cell BK101.out 1).trans rfl;have hcz16_2 : w15.cell? ⟨gb101,2,none⟩ = some (.slice A0_2 l0_2.length c0_2):= (blk_cell BK101.out 2).trans rfl;have hfz16_0:= blk_frozen BK101.out 0;have hfz16_1:= blk_frozen BK101.out 1;have hfz16_2:= blk_frozen BK101.out 2)|((with_reducible refine gate_callee (f:= 46) rfl ?_);refine goesL_ (some 8) rfl rfl Try.func46 (by kernel_rfl) rfl #[.slice A0_0 l0_0.length c0_0,.int .i64 a1] rfl (by (try simp only [List.map_toArray,List.map_cons,List.map_nil]);first|done|rfl|(simp only [List.length_drop,List.length_take];rfl)) ?_;(with_reducible refine (laws_szIntS.calls _ _ l0_0 a1 t102 _ ?side1 ?side2 A3.out).mono ?_);(case side1 => exact uc (Kd.C_below HR0_0.out HB.out));(case side2 => exact HC0_0.out);rintro e w' ⟨rfl,⟨nd,rfl⟩⟩;refine ⟨_,rfl,?_⟩)|((with_reducible refine gate_callee (f:= 46) rfl ?_);refine goesL_ (some 14) rfl rfl Try.func46 (by kernel_rfl) rfl #[.slice A0_1 l0_1.length c0_1,.int .i64 t102] rfl (by (try simp only [List.map_toArray,List.map_cons,List.map_nil]);first|done|rfl|(simp only [List.length_drop,List.length_take];rfl)) ?_;(with_reducible refine (laws_szIntS.calls _ _ l0_1 t102 t103 _ ?side1 ?side2 A7.out).mono ?_);(case side1 => exact uc (Kd.C_below HR0_1.out (by repeat (first|(with_reducible first|exact HB.out|apply below_alloc|apply pw_below_drewN|apply below_drew1|refine below_set ?_ GE101.out)|exact HB.out))));(case side2 => exact HC0_1.out);rintro e w' ⟨rfl,⟨nd,rfl⟩⟩;refine ⟨_,rfl,?_⟩)|((with_reducible refine gate_callee (f:= 47) rfl ?_);refine goesL_ (some 20) rfl rfl Try.func47 (by kernel_rfl) rfl #[.slice A0_2 l0_2.length c0_2,.int .i64 t103] rfl (by (try simp only [List.map_toArray,List.map_cons,List.map_nil]);first|done|rfl|(simp only [List.length_drop,List.length_take];rfl)) ?_;(with_reducible refine (laws_szPivotS.calls _ _ l0_2 t103 t104 _ ?side1 ?side2 A11.out).mono ?_);(case side1 => exact uc (Kd.C_below HR0_2.out (by repeat (first|(with_reducible first|exact HB.out|apply below_alloc|apply pw_below_drewN|apply below_drew1|refine below_set ?_ GE101.out)|exact HB.out))));(case side2 => exact HC0_2.out);rintro e w' ⟨rfl,⟨nd,rfl⟩⟩;refine ⟨_,rfl,?_⟩))
        go_ret
        exact ⟨by first|rfl|(simp [errW_none,errW_some] <;> rfl)|(simp [*,errW_none,errW_some] <;> rfl),by repeat (first|(with_reducible first|exact HB.out|apply below_alloc|apply pw_below_drewN|apply below_drew1|refine below_set ?_ GE101.out)|exact HB.out)⟩

/-! ### laws_toIntS: function 29 -/
def laws_toIntS.l0 : Nat → List Int → List Int → Int → Option (List Int)
  | 0, _, _, _ => none
  | k + 1, x0, x3, x4 => if x4 < (x0.length : Int) then (if 0 ≤ x4 then (if x4 < (x3.length : Int) then (laws_toIntS.l0 k x0 (x3.set (x4 : Int).toNat (rd x0 x4)) (wrap64 (x4 + 1))) else (none)) else (none)) else (some x3)
def laws_toIntS.f (k : Nat) (l0 : List Int) : Option (List Int) := if 0 ≤ (l0.length : Int) then (if ((l0.length : Int) : Int).toNat ≤ 35184372088832 then (laws_toIntS.l0 k l0 (List.replicate ((l0.length : Int) : Int).toNat 0) 0) else (none)) else (none)
theorem laws_toIntS.mono_l : ∀ k, (∀ y0 y1 y2, LeO (laws_toIntS.l0 k y0 y1 y2) (laws_toIntS.l0 (k + 1) y0 y1 y2))
  | 0 => fun _ _ _ r h => by simp [laws_toIntS.l0] at h
  | k + 1 => by
    have ih0 := laws_toIntS.mono_l k
    · intro y0 y1 y2
      unfold laws_toIntS.l0
      repeat' first
      | (with_reducible exact ih0 _ _ _)
      | (with_reducible exact LeO.refl _)
      | (with_reducible exact LeO.none _)
      | (with_reducible refine LeO.ite ?_ ?_)
      | (with_reducible refine LeO.bind ?_ (fun _ => ?_))
      | exact ih0 _ _ _
      | exact LeO.none _
      | refine LeO.ite ?_ ?_
      | refine LeO.bind ?_ (fun _ => ?_)
theorem laws_toIntS.mono : ∀ a0 k, LeO (laws_toIntS.f k a0) (laws_toIntS.f (k + 1) a0) := by
  intro a0 k
  have ih0:= laws_toIntS.mono_l k
  unfold laws_toIntS.f
  repeat' first
     |(with_reducible exact ih0 _ _ _)
     |(with_reducible exact LeO.refl _)
     |(with_reducible exact LeO.none _)
     |(with_reducible refine LeO.ite ?_ ?_)
     |(with_reducible refine LeO.bind ?_ (fun _ => ?_))
     |exact ih0 _ _ _
     |exact LeO.none _
     |refine LeO.ite ?_ ?_
     |refine LeO.bind ?_ (fun _ => ?_)
set_option maxHeartbeats 8000000 in
set_option maxRecDepth 100000 in
theorem laws_toIntS.calls (k : Nat) (A0 : Option Addr) (c0 : Nat) (l0 : List Int) (r : List Int) (w : World) (hr0 : Kd.C (Kd.int .i64) w A0 l0.length l0) (hc0 : l0.length ≤ c0) (h : laws_toIntS.f k l0 = some r) :
    Calls Try.prog 29 #[.slice A0 l0.length c0] w fun e w' => ∃ v0_ : Value, e = .returned (v0_) ∧ Kd.R (Kd.int .i64) 3 w' w.heap.size (fun _ => True) v0_ r ∧ Below w.heap.size w w' := by
  have HR0:= mk hr0
  have HC0:= mk hc0
  clear hr0 hc0
  have HB:= mk (Below.refl w.heap.size w)
  have H : (if 0 ≤ (l0.length : Int) then (if ((l0.length : Int) : Int).toNat ≤ 35184372088832 then (laws_toIntS.l0 k l0 (List.replicate ((l0.length : Int) : Int).toNat 0) 0) else (none)) else (none)) = some r:= h
  clear h
  by_cases c2 : 0 ≤ (l0.length : Int)
  · rw [if_pos c2] at H
    have c2b0:= eq_true c2
    have c2b1 : decide (0 ≤ (l0.length : Int)) = true:= decide_eq_true c2
    clear c2
    by_cases c3 : ((l0.length : Int) : Int).toNat ≤ 35184372088832
    · rw [if_pos c3] at H
      have c3b0:= eq_true c3
      have c3b1 : decide (((l0.length : Int) : Int).toNat ≤ 35184372088832) = true:= decide_eq_true c3
      clear c3
      obtain ⟨y105,hy105⟩ : ∃ y_ : List Int,y_ = (List.replicate ((l0.length : Int) : Int).toNat 0):= ⟨_,rfl⟩
      replace H : (laws_toIntS.l0 k l0 y105 0) = some r:= by first|(rw [hy105];with_reducible exact H)|(have H2_:= (Option.bind_some _ _).symm.trans H;rw [hy105];with_reducible exact H2_)|(have H2_:= (Option.bind_some _ _).symm.trans H;with_reducible exact H2_)|with_reducible exact H|(rw [hy105];exact H)|exact H
      have Ny105:= mk hy105
      clear hy105
      have H':= mk H
      clear H
      go_enter Try.func29,Try.ntmps29
      go_wp2_with (first|((with_reducible refine gate_dst (N:= 7) rfl ?_);refine Kd.R_make (Kd.int .i64) _ 3 rfl (N:= 7) rfl 22 _ _ rfl (l0.length : Int) rfl rfl Try.underlying22 (.int .i64 0) 8 info3 rfl (by decide) (by omega) 0 (ok:= fun _ => True) (okp:= fun _ => True) rfl (fun _ hk => hk) trivial (of_decide_eq_true (by first|(with_reducible assumption)|assumption)) (Nat.le_trans (Nat.mul_le_mul_right _ (of_decide_eq_true (by first|(with_reducible assumption)|assumption) : (l0.length : Int).toNat ≤ 35184372088832)) (by omega)) (Below.refl _ _) (Nat.le_refl _) ?_;intro v106 w4 ho5 hb hg_ hnew_;clear hg_ hnew_;(first|rw [← Ny105.out] at ho5|(simp only [Int.reduceToNat] at ho5;rw [← Ny105.out] at ho5));have n0_:= mk (Kd.R_lower ho5 (below_size (by repeat (first|(with_reducible first|exact HB.out|apply below_alloc|apply pw_below_drewN|apply below_drew1)|exact HB.out))));have n1_:= mk (below_step (by repeat (first|(with_reducible first|exact HB.out|apply below_alloc|apply pw_below_drewN|apply below_drew1)|exact HB.out)) hb);clear HB;have HO107:= n0_;have HB:= n1_;clear n0_ n1_;clear hb ho5))
      go_loopg [4] k (fun kq v4 w' => ∃ (x3_1 : List Int) (x4_1 : Int),v4 = .int .i64 x4_1 ∧ Aside0 (laws_toIntS.l0 kq l0 x3_1 x4_1 = some r) ∧ Aside0 (kq ≤ k) ∧ Aside0 (Kd.R (Kd.int .i64) 3 w' w.heap.size (fun _ => True) v106 x3_1) ∧ Aside0 (Below w.heap.size w w'))
      case atStart => exact ⟨(y105),(0),(by first|rfl|(simp;done)|(simp [*];done)),H',⟨Nat.le_refl _⟩,⟨up HO107.out⟩,⟨by repeat (first|(with_reducible first|exact HB.out|apply below_alloc|apply pw_below_drewN|apply below_drew1)|exact HB.out)⟩⟩
      case round =>
        clear H'
        try clear c2
        try clear c2b0
        try clear c2b1
        try clear p2
        try clear c3
        try clear c3b0
        try clear c3b1
        obtain ⟨x3_1,x4_1,rfl,HA,HK1,HO_3,HB⟩:= hrel
        cases gk with
       |zero => exact absurd HA.out (by simp [laws_toIntS.l0])
       |succ k1 =>
          have H:= HA.out
          clear HA
          simp only [laws_toIntS.l0] at H
          by_cases c6 : x4_1 < (l0.length : Int)
          · rw [if_pos c6] at H
            have c6b0 : decide (x4_1 < (l0.length : Int)) = true:= decide_eq_true c6
            clear c6
            by_cases c7 : 0 ≤ x4_1
            · rw [if_pos c7] at H
              have c7b0 : decide (0 ≤ x4_1) = true:= decide_eq_true c7
              clear c7
              by_cases c8 : x4_1 < (x3_1.length : Int)
              · rw [if_pos c8] at H
                have c8b0 : decide (x4_1 < (x3_1.length : Int)) = true:= decide_eq_true c8
                clear c8
                obtain ⟨y109,hy109⟩ : ∃ y_ : List Int,y_ = (x3_1.set (x4_1 : Int).toNat (rd l0 x4_1)):= ⟨_,rfl⟩
                replace H : (laws_toIntS.l0 k1 l0 y109 (wrap64 (x4_1 + 1))) = some r:= by first|(rw [hy109];with_reducible exact H)|(have H2_:= (Option.bind_some _ _).symm.trans H;rw [hy109];with_reducible exact H2_)|(have H2_:= (Option.bind_some _ _).symm.trans H;with_reducible exact H2_)|with_reducible exact H|(rw [hy109];exact H)|exact H
                have Ny109:= mk hy109
                clear hy109
                have H':= mk H
                clear H
                have p108 : 0 ≤ (x4_1 : Int):= of_decide_eq_true (by first|(with_reducible assumption)|assumption)
                have q108 : x4_1 < (l0.length : Int):= of_decide_eq_true (by first|(with_reducible assumption)|assumption)
                obtain ⟨ad108,e108,hx108_0⟩:= Kd.at_int HR0.out x4_1 p108 q108
                cases e108
                replace hx108_0:= (HB.out.cell (World.block_lt_of_cell? w _ hx108_0)).trans hx108_0
                replace p108:= eq_true p108
                replace q108:= eq_true q108
                have p9 : 0 ≤ (x4_1 : Int):= of_decide_eq_true (by first|(with_reducible assumption)|assumption)
                have q9 : (x4_1 : Int) < ((x3_1.length : Int) : Int):= of_decide_eq_true (by first|(with_reducible assumption)|assumption)
                obtain ⟨go9,co9,eo9,gb9,gl9,cl9,HG9⟩:= Kd.R_form HO_3.out (by omega)
                (first|cases eo9|(injection eo9 with ea_ en_ ec_;(first|subst ea_|(injection ea_ with ea_;subst ea_));subst ec_;clear en_))
                have GB9:= mk gb9
                have GG9:= mk HG9
                clear gb9 gl9 HG9
                obtain ⟨hx9_0,hf9_0⟩:= Kd.R_celln 0 HO_3.out (x4_1 : Int) p9 q9
                replace p9:= eq_true p9
                replace q9:= eq_true q9
                have HP10:= Kd.R_putg HO_3.out (x4_1 : Int) (rd l0 x4_1)
                go_wp2_with (first|((with_reducible refine gate_store (t:= 3) (p:= 20) rfl ?_);refine store_event (t:= 3) (p:= 20) (v:= ?vo_w11) (w1:= (wr.setCell ⟨go9,(x4_1 : Int).toNat,none⟩ (.int .i64 (rd l0 x4_1)))) ?hg ?ho ?hn ?hr ?_;(case ho => rfl);(case hg => rfl);(case hn => rfl);(case hr => first|(go_simp;done)|(go_simp;rfl));intro w11 hw;have hg : wr.grownBy w11 (some go9):= (by rw [hw];exact HP10.2);have hp_ : Kd.R (Kd.int .i64) 3 w11 w.heap.size (fun _ => True) (.slice (some ⟨go9,0,none⟩) x3_1.length co9) y109:= (by rw [hw,Ny109.out];exact HP10.1);clear HP10;have n0_:= mk (hp_);have n1_:= mk ((by rw [hw];exact below_set (HB.out) GB9.out : Below w.heap.size w w11));clear HO_3;clear HB;have HO_3:= n0_;have HB:= n1_;clear n0_ n1_;clear hg hw hp_))
                go_roundg k1
                case measure => have:= HK1.out;omega
                case rel => exact ⟨(y109),(wrap64 (x4_1 + 1)),(by first|rfl|(simp;done)|(simp [*];done)),H',⟨by have:= HK1.out;omega⟩,⟨up HO_3.out⟩,⟨by repeat (first|(with_reducible first|exact HB.out|apply below_alloc|apply pw_below_drewN|apply below_drew1)|exact HB.out)⟩⟩
              · rw [if_neg c8] at H
                exact absurd H (by simp)
            · rw [if_neg c7] at H
              exact absurd H (by simp)
          · rw [if_neg c6] at H
            have c6b0 : decide (x4_1 < (l0.length : Int)) = false:= decide_eq_false c6
            clear c6
            obtain rfl:= Option.some.inj H
            go_wp2
            go_ret
            exact ⟨_,by first|rfl|(simp [errW_none,errW_some] <;> rfl)|(simp [*,errW_none,errW_some] <;> rfl),up HO_3.out,by repeat (first|(with_reducible first|exact HB.out|apply below_alloc|apply pw_below_drewN|apply below_drew1)|exact HB.out)⟩
    · rw [if_neg c3] at H
      exact absurd H (by simp)
  · rw [if_neg c2] at H
    exact absurd H (by simp)

/-! ### laws_toPivot: function 42 -/
def laws_toPivot.f (a0_0 : Int) (a0_1 : Int) : Option (Int × Int) := some (a0_0, a0_1)
set_option maxHeartbeats 8000000 in
set_option maxRecDepth 100000 in
theorem laws_toPivot.calls (a0_0 : Int) (a0_1 : Int) (r1 : Int) (r2 : Int) (w : World) (h : laws_toPivot.f a0_0 a0_1 = some (r1, r2)) :
    Calls Try.prog 42 #[.agg #[.int .i64 a0_0, .int .i64 a0_1]] w fun e w' => e = .returned (.agg #[.int .i64 r1, .int .i64 r2]) ∧ Below w.heap.size w w' := by
  have hu66:= Try.underlying66
  have hu69:= Try.underlying69
  have HB:= mk (Below.refl w.heap.size w)
  have H : (some (a0_0,a0_1)) = some (r1,r2):= h
  clear h
  simp only [Option.some.injEq,Prod.mk.injEq] at H
  obtain ⟨rfl,rfl⟩:= H
  go_enter Try.func42,Try.ntmps42
  go_wp2_with (first|((with_reducible refine gate_dst (N:= 1) rfl ?_);refine box_event ?hg (N:= 1) ?hd (cs:= #[.int .i64 a0_0,.int .i64 a0_1]) (t:= 66) ?hr ?_;(case hd => rfl);(case hg => rfl);(case hr => first|(go_simp;done)|(go_simp;rfl));intro gb110 hg w2 hbox hb;have n0_:= mk (below_step (by repeat (first|(with_reducible first|exact HB.out|apply below_alloc|apply pw_below_drewN|apply below_drew1)|exact HB.out)) hb);have n1_:= mk (hbox);have n2_:= mk ((by rw [hg];exact (below_size (by repeat (first|(with_reducible first|exact HB.out|apply below_alloc|apply pw_below_drewN|apply below_drew1)|exact HB.out))) : w.heap.size ≤ gb110));have n3_:= mk ((by rw [hg];exact (below_size (by repeat (first|(with_reducible first|exact HB.out|apply below_alloc|apply pw_below_drewN|apply below_drew1)|exact HB.out))) : w.heap.size ≤ gb110));clear HB;have HB:= n0_;have BK110:= n1_;have GW110:= n2_;have GE110:= n3_;clear n0_ n1_ n2_ n3_;clear hb hbox hg)|((with_reducible refine gate_dst (N:= 2) rfl ?_);refine box_event ?hg (N:= 2) ?hd (cs:= #[.int .i64 0,.int .i64 0]) (t:= 69) ?hr ?_;(case hd => rfl);(case hg => rfl);(case hr => first|(go_simp;done)|(go_simp;rfl));intro gb111 hg w3 hbox hb;have n0_:= mk (blk_below (g:= gb110) (o:= .cells #[.int .i64 a0_0,.int .i64 a0_1] 66 (0,0)) (ub BK110.out) hb);have n1_:= mk (below_step (by repeat (first|(with_reducible first|exact HB.out|apply below_alloc|apply pw_below_drewN|apply below_drew1|refine below_set ?_ GE110.out)|exact HB.out)) hb);have n2_:= mk (hbox);have n3_:= mk ((by rw [hg];exact (below_size (by repeat (first|(with_reducible first|exact HB.out|apply below_alloc|apply pw_below_drewN|apply below_drew1|refine below_set ?_ GE110.out)|exact HB.out))) : w.heap.size ≤ gb111));have n4_:= mk ((by rw [hg];exact (below_size (by repeat (first|(with_reducible first|exact HB.out|apply below_alloc|apply pw_below_drewN|apply below_drew1|refine below_set ?_ GE110.out)|exact HB.out))) : w.heap.size ≤ gb111));have n5_:= mk ((by rw [hg];exact Nat.ne_of_lt (blk_lt (g:= gb110) (o:= .cells #[.int .i64 a0_0,.int .i64 a0_1] 66 (0,0)) (ub BK110.out)) : gb110 ≠ gb111));have n6_:= mk ((by rw [hg];exact Nat.ne_of_gt (blk_lt (g:= gb110) (o:= .cells #[.int .i64 a0_0,.int .i64 a0_1] 66 (0,0)) (ub BK110.out)) : gb111 ≠ gb110));clear BK110;clear HB;have BK110:= n0_;have HB:= n1_;have BK111:= n2_;have GW111:= n3_;have GE111:= n4_;have NB110_111:= n5_;have NB111_110:= n6_;clear n0_ n1_ n2_ n3_ n4_ n5_ n6_;clear hb hbox hg)|((with_reducible refine gate_dst (N:= 3) rfl ?_);refine box_event ?hg (N:= 3) ?hd (cs:= #[.int .i64 0,.int .i64 0]) (t:= 69) ?hr ?_;(case hd => rfl);(case hg => rfl);(case hr => first|(go_simp;done)|(go_simp;rfl));intro gb112 hg w4 hbox hb;have n0_:= mk (blk_below (g:= gb110) (o:= .cells #[.int .i64 a0_0,.int .i64 a0_1] 66 (0,0)) (ub BK110.out) hb);have n1_:= mk (blk_below (g:= gb111) (o:= .cells #[.int .i64 0,.int .i64 0] 69 (0,0)) (ub BK111.out) hb);have n2_:= mk (below_step (by repeat (first|(with_reducible first|exact HB.out|apply below_alloc|apply pw_below_drewN|apply below_drew1|refine below_set ?_ GE110.out|refine below_set ?_ GE111.out)|exact HB.out)) hb);have n3_:= mk (hbox);have n4_:= mk ((by rw [hg];exact (below_size (by repeat (first|(with_reducible first|exact HB.out|apply below_alloc|apply pw_below_drewN|apply below_drew1|refine below_set ?_ GE110.out|refine below_set ?_ GE111.out)|exact HB.out))) : w.heap.size ≤ gb112));have n5_:= mk ((by rw [hg];exact (below_size (by repeat (first|(with_reducible first|exact HB.out|apply below_alloc|apply pw_below_drewN|apply below_drew1|refine below_set ?_ GE110.out|refine below_set ?_ GE111.out)|exact HB.out))) : w.heap.size ≤ gb112));have n6_:= mk ((by rw [hg];exact Nat.ne_of_lt (blk_lt (g:= gb110) (o:= .cells #[.int .i64 a0_0,.int .i64 a0_1] 66 (0,0)) (ub BK110.out)) : gb110 ≠ gb112));have n7_:= mk ((by rw [hg];exact Nat.ne_of_gt (blk_lt (g:= gb110) (o:= .cells #[.int .i64 a0_0,.int .i64 a0_1] 66 (0,0)) (ub BK110.out)) : gb112 ≠ gb110));have n8_:= mk ((by rw [hg];exact Nat.ne_of_lt (blk_lt (g:= gb111) (o:= .cells #[.int .i64 0,.int .i64 0] 69 (0,0)) (ub BK111.out)) : gb111 ≠ gb112));have n9_:= mk ((by rw [hg];exact Nat.ne_of_gt (blk_lt (g:= gb111) (o:= .cells #[.int .i64 0,.int .i64 0] 69 (0,0)) (ub BK111.out)) : gb112 ≠ gb111));clear BK110;clear BK111;clear HB;have BK110:= n0_;have BK111:= n1_;have HB:= n2_;have BK112:= n3_;have GW112:= n4_;have GE112:= n5_;have NB110_112:= n6_;have NB112_110:= n7_;have NB111_112:= n8_;have NB112_111:= n9_;clear n0_ n1_ n2_ n3_ n4_ n5_ n6_ n7_ n8_ n9_;clear hb hbox hg;have hnb5:= NB110_111.out;have hnc5:= NB111_110.out;have hnb6:= NB110_112.out;have hnc6:= NB112_110.out;have hcz7_0 : w4.cell? ⟨gb110,0,none⟩ = some (.int .i64 a0_0):= (blk_cell BK110.out 0).trans rfl;have hcz7_1 : w4.cell? ⟨gb110,1,none⟩ = some (.int .i64 a0_1):= (blk_cell BK110.out 1).trans rfl;have hfz7_0:= blk_frozen BK110.out 0;have hfz7_1:= blk_frozen BK110.out 1;have hnb8:= NB112_111.out;have hnc8:= NB111_112.out;have hcz9_0 : w4.cell? ⟨gb112,0,none⟩ = some (.int .i64 0):= (blk_cell BK112.out 0).trans rfl;have hcz9_1 : w4.cell? ⟨gb112,1,none⟩ = some (.int .i64 0):= (blk_cell BK112.out 1).trans rfl;have hfz9_0:= blk_frozen BK112.out 0;have hfz9_1:= blk_frozen BK112.out 1;have hcz10_0 : w4.cell? ⟨gb111,0,none⟩ = some (.int .i64 0):= (blk_cell BK111.out 0).trans rfl;have hcz10_1 : w4.cell? ⟨gb111,1,none⟩ = some (.int .i64 0):= (blk_cell BK111.out 1).trans rfl;have hfz10_0:= blk_frozen BK111.out 0;have hfz10_1:= blk_frozen BK111.out 1))
  refine bodyPost_ret (results_cell_row rfl _ _ gb111 69 #[.int .i64 a0_0,.int .i64 a0_1] (0,0) _ rfl (by (with_reducible repeat (first|refine blk_drewN ?_ _|refine blk_drew ?_|refine blk_alloc ?_ _));refine blk_put (cs:= #[.int .i64 a0_0,.int .i64 0]) ?_ 1 _ rfl;(with_reducible repeat (first|refine blk_drewN ?_ _|refine blk_drew ?_|refine blk_alloc ?_ _));refine blk_put (cs:= #[.int .i64 0,.int .i64 0]) ?_ 0 _ rfl;(with_reducible repeat (first|refine blk_drewN ?_ _|refine blk_drew ?_|refine blk_alloc ?_ _));refine blk_far ?_ NB111_112.out _;(with_reducible repeat (first|refine blk_drewN ?_ _|refine blk_drew ?_|refine blk_alloc ?_ _));refine blk_far ?_ NB111_112.out _;(with_reducible repeat (first|refine blk_drewN ?_ _|refine blk_drew ?_|refine blk_alloc ?_ _));exact BK111.out) Try.underlying69 rfl (by kernel_rfl)) rfl ?_
  exact ⟨by first|rfl|(simp [errW_none,errW_some] <;> rfl)|(simp [*,errW_none,errW_some] <;> rfl),by repeat (first|(with_reducible first|exact HB.out|apply below_alloc|apply pw_below_drewN|apply below_drew1|refine below_set ?_ GE110.out|refine below_set ?_ GE111.out|refine below_set ?_ GE112.out)|exact HB.out)⟩

/-! ### laws_toPivotS: function 52 -/
def laws_toPivotS.l0 : Nat → List (S66) → List (S69) → Int → Option ((List (S69)))
  | 0, _, _, _ => none
  | k + 1, x0, x3, x4 => if x4 < (x0.length : Int) then (if 0 ≤ x4 then ((laws_toPivot.f ((rd_T66 x0 x4).f0) ((rd_T66 x0 x4).f1)).bind fun bt117 => (if x4 < (x3.length : Int) then (laws_toPivotS.l0 k x0 (x3.set (x4 : Int).toNat (⟨bt117.1, bt117.2⟩ : S69)) (wrap64 (x4 + 1))) else (none))) else (none)) else (some x3)
def laws_toPivotS.f (k : Nat) (l0 : List (S66)) : Option ((List (S69))) := if 0 ≤ (l0.length : Int) then (if ((l0.length : Int) : Int).toNat ≤ 17592186044416 then (laws_toPivotS.l0 k l0 (List.replicate ((l0.length : Int) : Int).toNat z69) 0) else (none)) else (none)
theorem laws_toPivotS.mono_l : ∀ k, (∀ y0 y1 y2, LeO (laws_toPivotS.l0 k y0 y1 y2) (laws_toPivotS.l0 (k + 1) y0 y1 y2))
  | 0 => fun _ _ _ r h => by simp [laws_toPivotS.l0] at h
  | k + 1 => by
    have ih0 := laws_toPivotS.mono_l k
    · intro y0 y1 y2
      unfold laws_toPivotS.l0
      repeat' first
      | (with_reducible exact ih0 _ _ _)
      | (with_reducible exact LeO.refl _)
      | (with_reducible exact LeO.none _)
      | (with_reducible refine LeO.ite ?_ ?_)
      | (with_reducible refine LeO.bind ?_ (fun _ => ?_))
      | exact ih0 _ _ _
      | exact LeO.none _
      | refine LeO.ite ?_ ?_
      | refine LeO.bind ?_ (fun _ => ?_)
theorem laws_toPivotS.mono : ∀ a0 k, LeO (laws_toPivotS.f k a0) (laws_toPivotS.f (k + 1) a0) := by
  intro a0 k
  have ih0:= laws_toPivotS.mono_l k
  unfold laws_toPivotS.f
  repeat' first
     |(with_reducible exact ih0 _ _ _)
     |(with_reducible exact LeO.refl _)
     |(with_reducible exact LeO.none _)
     |(with_reducible refine LeO.ite ?_ ?_)
     |(with_reducible refine LeO.bind ?_ (fun _ => ?_))
     |exact ih0 _ _ _
     |exact LeO.none _
     |refine LeO.ite ?_ ?_
     |refine LeO.bind ?_ (fun _ => ?_)
set_option maxHeartbeats 8000000 in
set_option maxRecDepth 100000 in
theorem laws_toPivotS.calls (k : Nat) (A0 : Option Addr) (c0 : Nat) (l0 : List (S66)) (r : List (S69)) (w : World) (hr0 : Kd.C k66 w A0 l0.length l0) (hc0 : l0.length ≤ c0) (h : laws_toPivotS.f k l0 = some r) :
    Calls Try.prog 52 #[.slice A0 l0.length c0] w fun e w' => ∃ v0_ : Value, e = .returned (v0_) ∧ Kd.R k69 69 w' w.heap.size (fun _ => True) v0_ r ∧ Below w.heap.size w w' := by
  have hu66:= Try.underlying66
  have hu69:= Try.underlying69
  have HR0:= mk hr0
  have HC0:= mk hc0
  clear hr0 hc0
  have HB:= mk (Below.refl w.heap.size w)
  have H : (if 0 ≤ (l0.length : Int) then (if ((l0.length : Int) : Int).toNat ≤ 17592186044416 then (laws_toPivotS.l0 k l0 (List.replicate ((l0.length : Int) : Int).toNat z69) 0) else (none)) else (none)) = some r:= h
  clear h
  by_cases c2 : 0 ≤ (l0.length : Int)
  · rw [if_pos c2] at H
    have c2b0:= eq_true c2
    have c2b1 : decide (0 ≤ (l0.length : Int)) = true:= decide_eq_true c2
    clear c2
    by_cases c3 : ((l0.length : Int) : Int).toNat ≤ 17592186044416
    · rw [if_pos c3] at H
      have c3b0:= eq_true c3
      have c3b1 : decide (((l0.length : Int) : Int).toNat ≤ 17592186044416) = true:= decide_eq_true c3
      clear c3
      obtain ⟨y113,hy113⟩ : ∃ y_ : List (S69),y_ = (List.replicate ((l0.length : Int) : Int).toNat z69):= ⟨_,rfl⟩
      replace H : (laws_toPivotS.l0 k l0 y113 0) = some r:= by first|(rw [hy113];with_reducible exact H)|(have H2_:= (Option.bind_some _ _).symm.trans H;rw [hy113];with_reducible exact H2_)|(have H2_:= (Option.bind_some _ _).symm.trans H;with_reducible exact H2_)|with_reducible exact H|(rw [hy113];exact H)|exact H
      have Ny113:= mk hy113
      clear hy113
      have H':= mk H
      clear H
      go_enter Try.func52,Try.ntmps52
      go_wp2_with (first|((with_reducible refine gate_dst (N:= 7) rfl ?_);refine Kd.R_make k69 _ 69 rfl (N:= 7) rfl 28 _ _ rfl (l0.length : Int) rfl rfl Try.underlying28 (.agg #[(.int .i64 0),(.int .i64 0)]) 16 info69 rfl (by decide) (by omega) z69 (ok:= fun _ => True) (okp:= fun _ => True) (k69_mkM _ _ _ z69 ) (fun _ hk => hk) trivial (of_decide_eq_true (by first|(with_reducible assumption)|assumption)) (Nat.le_trans (Nat.mul_le_mul_right _ (of_decide_eq_true (by first|(with_reducible assumption)|assumption) : (l0.length : Int).toNat ≤ 17592186044416)) (by omega)) (Below.refl _ _) (Nat.le_refl _) ?_;intro v114 w4 ho5 hb hg_ hnew_;clear hg_ hnew_;(first|rw [← Ny113.out] at ho5|(simp only [Int.reduceToNat] at ho5;rw [← Ny113.out] at ho5));have n0_:= mk (Kd.R_lower ho5 (below_size (by repeat (first|(with_reducible first|exact HB.out|apply below_alloc|apply pw_below_drewN|apply below_drew1)|exact HB.out))));have n1_:= mk (below_step (by repeat (first|(with_reducible first|exact HB.out|apply below_alloc|apply pw_below_drewN|apply below_drew1)|exact HB.out)) hb);clear HB;have HO115:= n0_;have HB:= n1_;clear n0_ n1_;clear hb ho5))
      go_loopg [4] k (fun kq v4 w' => ∃ (x3_1 : List (S69)) (x4_1 : Int),v4 = .int .i64 x4_1 ∧ Aside0 (laws_toPivotS.l0 kq l0 x3_1 x4_1 = some r) ∧ Aside0 (kq ≤ k) ∧ Aside0 (Kd.R k69 69 w' w.heap.size (fun _ => True) v114 x3_1) ∧ Aside0 (Below w.heap.size w w'))
      case atStart => exact ⟨(y113),(0),(by first|rfl|(simp;done)|(simp [*];done)),H',⟨Nat.le_refl _⟩,⟨up HO115.out⟩,⟨by repeat (first|(with_reducible first|exact HB.out|apply below_alloc|apply pw_below_drewN|apply below_drew1)|exact HB.out)⟩⟩
      case round =>
        clear H'
        try clear c2
        try clear c2b0
        try clear c2b1
        try clear p2
        try clear c3
        try clear c3b0
        try clear c3b1
        try clear c5
        obtain ⟨x3_1,x4_1,rfl,HA,HK1,HO_3,HB⟩:= hrel
        cases gk with
       |zero => exact absurd HA.out (by simp [laws_toPivotS.l0])
       |succ k1 =>
          have H:= HA.out
          clear HA
          simp only [laws_toPivotS.l0] at H
          by_cases c6 : x4_1 < (l0.length : Int)
          · rw [if_pos c6] at H
            have c6b0 : decide (x4_1 < (l0.length : Int)) = true:= decide_eq_true c6
            clear c6
            by_cases c7 : 0 ≤ x4_1
            · rw [if_pos c7] at H
              have c7b0 : decide (0 ≤ x4_1) = true:= decide_eq_true c7
              clear c7
              replace H:= Option.bind_eq_some_iff.mp H
              obtain ⟨⟨t117,t118⟩,A80,H⟩:= H
              replace H : (if x4_1 < (x3_1.length : Int) then (laws_toPivotS.l0 k1 l0 (x3_1.set (x4_1 : Int).toNat (⟨t117,t118⟩ : S69)) (wrap64 (x4_1 + 1))) else (none)) = some r:= H
              have A8:= mk A80
              clear A80
              by_cases c9 : x4_1 < (x3_1.length : Int)
              · rw [if_pos c9] at H
                have c9b0 : decide (x4_1 < (x3_1.length : Int)) = true:= decide_eq_true c9
                clear c9
                obtain ⟨y119,hy119⟩ : ∃ y_ : List (S69),y_ = (x3_1.set (x4_1 : Int).toNat (⟨t117,t118⟩ : S69)):= ⟨_,rfl⟩
                replace H : (laws_toPivotS.l0 k1 l0 y119 (wrap64 (x4_1 + 1))) = some r:= by first|(rw [hy119];with_reducible exact H)|(have H2_:= (Option.bind_some _ _).symm.trans H;rw [hy119];with_reducible exact H2_)|(have H2_:= (Option.bind_some _ _).symm.trans H;with_reducible exact H2_)|with_reducible exact H|(rw [hy119];exact H)|exact H
                have Ny119:= mk hy119
                clear hy119
                have H':= mk H
                clear H
                have p116 : 0 ≤ (x4_1 : Int):= of_decide_eq_true (by first|(with_reducible assumption)|assumption)
                have q116 : x4_1 < (l0.length : Int):= of_decide_eq_true (by first|(with_reducible assumption)|assumption)
                obtain ⟨ad116,e116,hx116_0,hx116_1⟩:= at_T66 HR0.out x4_1 p116 q116
                cases e116
                replace hx116_0:= (HB.out.cell (World.block_lt_of_cell? w _ hx116_0)).trans hx116_0
                replace hx116_1:= (HB.out.cell (World.block_lt_of_cell? w _ hx116_1)).trans hx116_1
                replace p116:= eq_true p116
                replace q116:= eq_true q116
                go_wp2_with (first|((with_reducible refine gate_callee (f:= 42) rfl ?_);refine goesL_ (some 20) rfl rfl Try.func42 (by kernel_rfl) rfl #[.agg #[.int .i64 ((rd_T66 l0 x4_1).f0),.int .i64 ((rd_T66 l0 x4_1).f1)]] rfl (by (try simp only [List.map_toArray,List.map_cons,List.map_nil]);first|done|rfl|(simp only [List.length_drop,List.length_take];rfl)) ?_;(with_reducible refine (laws_toPivot.calls ((rd_T66 l0 x4_1).f0) ((rd_T66 l0 x4_1).f1) t117 t118 _ A8.out).mono ?_);rintro e w11 ⟨rfl,hb⟩;refine ⟨_,rfl,?_⟩;have n0_:= mk (Kd.R_below (up HO_3.out) hb);have n1_:= mk (below_step (by repeat (first|(with_reducible first|exact HB.out|apply below_alloc|apply pw_below_drewN|apply below_drew1)|exact HB.out)) hb);clear HO_3;clear HB;have HO_3:= n0_;have HB:= n1_;clear n0_ n1_;(try clear hb);(try clear hb2);(try clear hk);(try clear hi);have p10 : 0 ≤ (x4_1 : Int):= of_decide_eq_true (by first|(with_reducible assumption)|assumption);have q10 : (x4_1 : Int) < ((x3_1.length : Int) : Int):= of_decide_eq_true (by first|(with_reducible assumption)|assumption);obtain ⟨go10,co10,eo10,gb10,gl10,cl10,HG10⟩:= Kd.R_form HO_3.out (by omega);(first|cases eo10|(injection eo10 with ea_ en_ ec_;(first|subst ea_|(injection ea_ with ea_;subst ea_));subst ec_;clear en_));have GB10:= mk gb10;have GG10:= mk HG10;clear gb10 gl10 HG10;obtain ⟨ce10,hcl10,hM10,hcc10,hfr10⟩:= Kd.R_elem HO_3.out z69 (x4_1 : Int) p10 q10;obtain rfl:= k69_openM hM10;have hx10_0 : w11.cell? ⟨go10,(x4_1 : Int).toNat * 2,none⟩ = some (.int .i64 ((rd_T69 x3_1 x4_1).f0)):= hcc10 0 _ rfl;have hx10_1 : w11.cell? ⟨go10,(x4_1 : Int).toNat * 2 + 1,none⟩ = some (.int .i64 ((rd_T69 x3_1 x4_1).f1)):= hcc10 1 _ rfl;have hf10_0 : w11.frozen? ⟨go10,(x4_1 : Int).toNat * 2,none⟩ = false:= hfr10 0;have hf10_1 : w11.frozen? ⟨go10,(x4_1 : Int).toNat * 2 + 1,none⟩ = false:= hfr10 1;clear hcl10 hcc10 hfr10 hM10;replace p10:= eq_true p10;replace q10:= eq_true q10;have HX12:= mk (show Kd.R k69 69 w11 w.heap.size (fun _ => True) (.slice (some ⟨go10,0,none⟩) x3_1.length co10) x3_1 from (up HO_3.out));obtain ⟨ce12,hcl12,hM12,hcc12,hfr12⟩:= Kd.R_elem HX12.out z69 (x4_1 : Int) (of_decide_eq_true (by first|(with_reducible assumption)|assumption)) (by have h_ : (x4_1 : Int) < ((x3_1.length : Int) : Int):= of_decide_eq_true (by first|(with_reducible assumption)|assumption);first|exact h_|(have e_:= (Kd.R_reads' HO_3.out).1;omega)|simpa using h_);obtain rfl:= k69_openM hM12;have HP12:= Kd.R_seg HX12.out (x4_1 : Int) (of_decide_eq_true (by first|(with_reducible assumption)|assumption)) (by have h_ : (x4_1 : Int) < ((x3_1.length : Int) : Int):= of_decide_eq_true (by first|(with_reducible assumption)|assumption);first|exact h_|(have e_:= (Kd.R_reads' HO_3.out).1;omega)|simpa using h_) (seg:= [.int .i64 t117,.int .i64 t118]) (j:= 0) hcl12 hcc12 (show 2 ≤ 2 from by decide) (x':= (⟨t117,t118⟩ : S69)) (k69_mkM _ _ _ (⟨t117,t118⟩ : S69) ) (fun _ hk => hk);have hx12_0:= hcc12 0 _ rfl;(try simp only [show (k69).sz = 2 from rfl,Nat.mul_one,Nat.add_zero] at hx12_0);have hf12_0:= hfr12 0;(try simp only [show (k69).sz = 2 from rfl,Nat.mul_one,Nat.add_zero] at hf12_0);have hx12_1:= hcc12 1 _ rfl;(try simp only [show (k69).sz = 2 from rfl,Nat.mul_one,Nat.add_zero] at hx12_1);have hf12_1:= hfr12 1;(try simp only [show (k69).sz = 2 from rfl,Nat.mul_one,Nat.add_zero] at hf12_1);clear hcl12 hcc12 hfr12 hM12)|((with_reducible refine gate_store (t:= 69) (p:= 21) rfl ?_);refine store_event (t:= 69) (p:= 21) (v:= ?vo_w13) (w1:= ((w11.setCell ⟨go10,(x4_1 : Int).toNat * 2,none⟩ (.int .i64 t117)).setCell ⟨go10,(x4_1 : Int).toNat * 2 + 1,none⟩ (.int .i64 t118))) ?hg ?ho ?hn ?hr ?_;(case ho => rfl);(case hg => rfl);(case hn => rfl);(case hr => first|(go_simp;done)|(go_simp;rfl));intro w13 hw;have hg : w11.grownBy w13 (some go10):= (by rw [hw];exact HP12.2);have hp_ : Kd.R k69 69 w13 w.heap.size (fun _ => True) (.slice (some ⟨go10,0,none⟩) x3_1.length co10) y119:= (by rw [hw,Ny119.out];exact HP12.1);clear HP12;have n0_:= mk (hp_);have n1_:= mk ((by rw [hw];exact below_set (below_set (HB.out) GB10.out) GB10.out : Below w.heap.size w w13));clear HO_3;clear HB;have HO_3:= n0_;have HB:= n1_;clear n0_ n1_;clear hg hw hp_))
                go_roundg k1
                case measure => have:= HK1.out;omega
                case rel => exact ⟨(y119),(wrap64 (x4_1 + 1)),(by first|rfl|(simp;done)|(simp [*];done)),H',⟨by have:= HK1.out;omega⟩,⟨up HO_3.out⟩,⟨by repeat (first|(with_reducible first|exact HB.out|apply below_alloc|apply pw_below_drewN|apply below_drew1)|exact HB.out)⟩⟩
              · rw [if_neg c9] at H
                exact absurd H (by simp)
            · rw [if_neg c7] at H
              exact absurd H (by simp)
          · rw [if_neg c6] at H
            have c6b0 : decide (x4_1 < (l0.length : Int)) = false:= decide_eq_false c6
            clear c6
            obtain rfl:= Option.some.inj H
            go_wp2
            go_ret
            exact ⟨_,by first|rfl|(simp [errW_none,errW_some] <;> rfl)|(simp [*,errW_none,errW_some] <;> rfl),up HO_3.out,by repeat (first|(with_reducible first|exact HB.out|apply below_alloc|apply pw_below_drewN|apply below_drew1)|exact HB.out)⟩
    · rw [if_neg c3] at H
      exact absurd H (by simp)
  · rw [if_neg c2] at H
    exact absurd H (by simp)

/-! ### laws_toCracker: function 14 -/
def laws_toCracker.f (k : Nat) (l0_0 : List Int) (l0_1 : List Int) (l0_2 : List (S66)) : Option (List Int × List Int × (List (S69))) := (laws_toIntS.f k l0_0).bind fun t123 => ((laws_toIntS.f k l0_1).bind fun t126 => ((laws_toPivotS.f k l0_2).bind fun t129 => (some (t123, t126, t129))))
theorem laws_toCracker.mono : ∀ a0 a1 a2 k, LeO (laws_toCracker.f k a0 a1 a2) (laws_toCracker.f (k + 1) a0 a1 a2) := by
  intro a0 a1 a2 k
  unfold laws_toCracker.f
  repeat' first
     |(with_reducible exact laws_toIntS.mono _ _)
     |(with_reducible exact laws_toPivotS.mono _ _)
     |(with_reducible exact LeO.refl _)
     |(with_reducible exact LeO.none _)
     |(with_reducible refine LeO.ite ?_ ?_)
     |(with_reducible refine LeO.bind ?_ (fun _ => ?_))
     |exact laws_toIntS.mono _ _
     |exact laws_toPivotS.mono _ _
     |exact LeO.none _
     |refine LeO.ite ?_ ?_
     |refine LeO.bind ?_ (fun _ => ?_)
set_option maxHeartbeats 8000000 in
set_option maxRecDepth 100000 in
theorem laws_toCracker.calls (k : Nat) (A0_0 : Option Addr) (c0_0 : Nat) (l0_0 : List Int) (A0_1 : Option Addr) (c0_1 : Nat) (l0_1 : List Int) (A0_2 : Option Addr) (c0_2 : Nat) (l0_2 : List (S66)) (r1 : List Int) (r2 : List Int) (r3 : List (S69)) (w : World) (hr0_0 : Kd.C (Kd.int .i64) w A0_0 l0_0.length l0_0) (hc0_0 : l0_0.length ≤ c0_0) (hr0_1 : Kd.C (Kd.int .i64) w A0_1 l0_1.length l0_1) (hc0_1 : l0_1.length ≤ c0_1) (hr0_2 : Kd.C k66 w A0_2 l0_2.length l0_2) (hc0_2 : l0_2.length ≤ c0_2) (h : laws_toCracker.f k l0_0 l0_1 l0_2 = some (r1, r2, r3)) :
    Calls Try.prog 14 #[.agg #[.slice A0_0 l0_0.length c0_0, .slice A0_1 l0_1.length c0_1, .slice A0_2 l0_2.length c0_2]] w fun e w' => ∃ v0_ v1_ v2_ : Value, e = .returned (.agg #[v0_, v1_, v2_]) ∧ Kd.R (Kd.int .i64) 3 w' w.heap.size (fun k_ => some k_ ≠ (v1_ : Value).ownBlock) v0_ r1 ∧ Kd.R (Kd.int .i64) 3 w' w.heap.size (fun k_ => some k_ ≠ (v0_ : Value).ownBlock) v1_ r2 ∧ Kd.R k69 69 w' w.heap.size (fun _ => True) v2_ r3 ∧ Below w.heap.size w w' := by
  have hu25:= Try.underlying25
  have hu30:= Try.underlying30
  have HR0_0:= mk hr0_0
  have HC0_0:= mk hc0_0
  clear hr0_0 hc0_0
  have HR0_1:= mk hr0_1
  have HC0_1:= mk hc0_1
  clear hr0_1 hc0_1
  have HR0_2:= mk hr0_2
  have HC0_2:= mk hc0_2
  clear hr0_2 hc0_2
  have HB:= mk (Below.refl w.heap.size w)
  have H : ((laws_toIntS.f k l0_0).bind fun t123 => ((laws_toIntS.f k l0_1).bind fun t126 => ((laws_toPivotS.f k l0_2).bind fun t129 => (some (t123,t126,t129))))) = some (r1,r2,r3):= h
  clear h
  replace H:= Option.bind_eq_some_iff.mp H
  obtain ⟨t123,A20,H⟩:= H
  replace H : ((laws_toIntS.f k l0_1).bind fun t126 => ((laws_toPivotS.f k l0_2).bind fun t129 => (some (t123,t126,t129)))) = some (r1,r2,r3):= H
  have A2:= mk A20
  clear A20
  replace H:= Option.bind_eq_some_iff.mp H
  obtain ⟨t126,A30,H⟩:= H
  replace H : ((laws_toPivotS.f k l0_2).bind fun t129 => (some (t123,t126,t129))) = some (r1,r2,r3):= H
  have A3:= mk A30
  clear A30
  replace H:= Option.bind_eq_some_iff.mp H
  obtain ⟨t129,A40,H⟩:= H
  replace H : (some (t123,t126,t129)) = some (r1,r2,r3):= H
  have A4:= mk A40
  clear A40
  simp only [Option.some.injEq,Prod.mk.injEq] at H
  obtain ⟨rfl,rfl,rfl⟩:= H
  go_enter Try.func14,Try.ntmps14
  go_wp2_with (first|((with_reducible refine gate_dst (N:= 1) rfl ?_);refine box_event ?hg (N:= 1) ?hd (cs:= #[.slice A0_0 l0_0.length c0_0,.slice A0_1 l0_1.length c0_1,.slice A0_2 l0_2.length c0_2]) (t:= 25) ?hr ?_;(case hd => rfl);(case hg => rfl);(case hr => first|(go_simp;done)|(go_simp;rfl));intro gb120 hg w5 hbox hb;have n0_:= mk (below_step (by repeat (first|(with_reducible first|exact HB.out|apply below_alloc|apply pw_below_drewN|apply below_drew1)|exact HB.out)) hb);have n1_:= mk (hbox);have n2_:= mk ((by rw [hg];exact (below_size (by repeat (first|(with_reducible first|exact HB.out|apply below_alloc|apply pw_below_drewN|apply below_drew1)|exact HB.out))) : w.heap.size ≤ gb120));have n3_:= mk ((by rw [hg];exact (below_size (by repeat (first|(with_reducible first|exact HB.out|apply below_alloc|apply pw_below_drewN|apply below_drew1)|exact HB.out))) : w.heap.size ≤ gb120));clear HB;have HB:= n0_;have BK120:= n1_;have GW120:= n2_;have GE120:= n3_;clear n0_ n1_ n2_ n3_;clear hb hbox hg)|((with_reducible refine gate_dst (N:= 2) rfl ?_);refine box_event ?hg (N:= 2) ?hd (cs:= #[.slice none 0 0,.slice none 0 0,.slice none 0 0]) (t:= 30) ?hr ?_;(case hd => rfl);(case hg => rfl);(case hr => first|(go_simp;done)|(go_simp;rfl));intro gb121 hg w6 hbox hb;have n0_:= mk (blk_below (g:= gb120) (o:= .cells #[.slice A0_0 l0_0.length c0_0,.slice A0_1 l0_1.length c0_1,.slice A0_2 l0_2.length c0_2] 25 (0,0)) (ub BK120.out) hb);have n1_:= mk (below_step (by repeat (first|(with_reducible first|exact HB.out|apply below_alloc|apply pw_below_drewN|apply below_drew1|refine below_set ?_ GE120.out)|exact HB.out)) hb);have n2_:= mk (hbox);have n3_:= mk ((by rw [hg];exact (below_size (by repeat (first|(with_reducible first|exact HB.out|apply below_alloc|apply pw_below_drewN|apply below_drew1|refine below_set ?_ GE120.out)|exact HB.out))) : w.heap.size ≤ gb121));have n4_:= mk ((by rw [hg];exact (below_size (by repeat (first|(with_reducible first|exact HB.out|apply below_alloc|apply pw_below_drewN|apply below_drew1|refine below_set ?_ GE120.out)|exact HB.out))) : w.heap.size ≤ gb121));have n5_:= mk ((by rw [hg];exact Nat.ne_of_lt (blk_lt (g:= gb120) (o:= .cells #[.slice A0_0 l0_0.length c0_0,.slice A0_1 l0_1.length c0_1,.slice A0_2 l0_2.length c0_2] 25 (0,0)) (ub BK120.out)) : gb120 ≠ gb121));have n6_:= mk ((by rw [hg];exact Nat.ne_of_gt (blk_lt (g:= gb120) (o:= .cells #[.slice A0_0 l0_0.length c0_0,.slice A0_1 l0_1.length c0_1,.slice A0_2 l0_2.length c0_2] 25 (0,0)) (ub BK120.out)) : gb121 ≠ gb120));clear BK120;clear HB;have BK120:= n0_;have HB:= n1_;have BK121:= n2_;have GW121:= n3_;have GE121:= n4_;have NB120_121:= n5_;have NB121_120:= n6_;clear n0_ n1_ n2_ n3_ n4_ n5_ n6_;clear hb hbox hg)|((with_reducible refine gate_dst (N:= 3) rfl ?_);refine box_event ?hg (N:= 3) ?hd (cs:= #[.slice none 0 0,.slice none 0 0,.slice none 0 0]) (t:= 30) ?hr ?_;(case hd => rfl);(case hg => rfl);(case hr => first|(go_simp;done)|(go_simp;rfl));intro gb122 hg w7 hbox hb;have n0_:= mk (blk_below (g:= gb120) (o:= .cells #[.slice A0_0 l0_0.length c0_0,.slice A0_1 l0_1.length c0_1,.slice A0_2 l0_2.length c0_2] 25 (0,0)) (ub BK120.out) hb);have n1_:= mk (blk_below (g:= gb121) (o:= .cells #[.slice none 0 0,.slice none 0 0,.slice none 0 0] 30 (0,0)) (ub BK121.out) hb);have n2_:= mk (below_step (by repeat (first|(with_reducible first|exact HB.out|apply below_alloc|apply pw_below_drewN|apply below_drew1|refine below_set ?_ GE120.out|refine below_set ?_ GE121.out)|exact HB.out)) hb);have n3_:= mk (hbox);have n4_:= mk ((by rw [hg];exact (below_size (by repeat (first|(with_reducible first|exact HB.out|apply below_alloc|apply pw_below_drewN|apply below_drew1|refine below_set ?_ GE120.out|refine below_set ?_ GE121.out)|exact HB.out))) : w.heap.size ≤ gb122));have n5_:= mk ((by rw [hg];exact (below_size (by repeat (first|(with_reducible first|exact HB.out|apply below_alloc|apply pw_below_drewN|apply below_drew1|refine below_set ?_ GE120.out|refine below_set ?_ GE121.out)|exact HB.out))) : w.heap.size ≤ gb122));have n6_:= mk ((by rw [hg];exact Nat.ne_of_lt (blk_lt (g:= gb120) (o:= .cells #[.slice A0_0 l0_0.length c0_0,.slice A0_1 l0_1.length c0_1,.slice A0_2 l0_2.length c0_2] 25 (0,0)) (ub BK120.out)) : gb120 ≠ gb122));have n7_:= mk ((by rw [hg];exact Nat.ne_of_gt (blk_lt (g:= gb120) (o:= .cells #[.slice A0_0 l0_0.length c0_0,.slice A0_1 l0_1.length c0_1,.slice A0_2 l0_2.length c0_2] 25 (0,0)) (ub BK120.out)) : gb122 ≠ gb120));have n8_:= mk ((by rw [hg];exact Nat.ne_of_lt (blk_lt (g:= gb121) (o:= .cells #[.slice none 0 0,.slice none 0 0,.slice none 0 0] 30 (0,0)) (ub BK121.out)) : gb121 ≠ gb122));have n9_:= mk ((by rw [hg];exact Nat.ne_of_gt (blk_lt (g:= gb121) (o:= .cells #[.slice none 0 0,.slice none 0 0,.slice none 0 0] 30 (0,0)) (ub BK121.out)) : gb122 ≠ gb121));clear BK120;clear BK121;clear HB;have BK120:= n0_;have BK121:= n1_;have HB:= n2_;have BK122:= n3_;have GW122:= n4_;have GE122:= n5_;have NB120_122:= n6_;have NB122_120:= n7_;have NB121_122:= n8_;have NB122_121:= n9_;clear n0_ n1_ n2_ n3_ n4_ n5_ n6_ n7_ n8_ n9_;clear hb hbox hg;have hnb8:= NB120_121.out;have hnc8:= NB121_120.out;have hnb9:= NB120_122.out;have hnc9:= NB122_120.out;have hcz10_0 : w7.cell? ⟨gb120,0,none⟩ = some (.slice A0_0 l0_0.length c0_0):= (blk_cell BK120.out 0).trans rfl;have hcz10_1 : w7.cell? ⟨gb120,1,none⟩ = some (.slice A0_1 l0_1.length c0_1):= (blk_cell BK120.out 1).trans rfl;have hcz10_2 : w7.cell? ⟨gb120,2,none⟩ = some (.slice A0_2 l0_2.length c0_2):= (blk_cell BK120.out 2).trans rfl;have hfz10_0:= blk_frozen BK120.out 0;have hfz10_1:= blk_frozen BK120.out 1;have hfz10_2:= blk_frozen BK120.out 2)|((with_reducible refine gate_callee (f:= 29) rfl ?_);refine goesL_ (some 6) rfl rfl Try.func29 (by kernel_rfl) rfl #[.slice A0_0 l0_0.length c0_0] rfl (by (try simp only [List.map_toArray,List.map_cons,List.map_nil]);first|done|rfl|(simp only [List.length_drop,List.length_take];rfl)) ?_;(with_reducible refine (laws_toIntS.calls k _ _ l0_0 t123 _ ?side1 ?side2 A2.out).mono ?_);(case side1 => exact uc (Kd.C_below HR0_0.out HB.out));(case side2 => exact HC0_0.out);rintro e w11 ⟨v124,rfl,ho0,hb⟩;refine ⟨_,rfl,?_⟩;have n0_:= mk (Kd.R_lower ho0 (below_size (by repeat (first|(with_reducible first|exact HB.out|apply below_alloc|apply pw_below_drewN|apply below_drew1|refine below_set ?_ GE120.out|refine below_set ?_ GE121.out|refine below_set ?_ GE122.out)|exact HB.out))));have n1_:= mk (blk_below (g:= gb120) (o:= .cells #[.slice A0_0 l0_0.length c0_0,.slice A0_1 l0_1.length c0_1,.slice A0_2 l0_2.length c0_2] 25 (0,0)) (ub BK120.out) hb);have n2_:= mk (blk_below (g:= gb121) (o:= .cells #[.slice none 0 0,.slice none 0 0,.slice none 0 0] 30 (0,0)) (ub BK121.out) hb);have n3_:= mk (blk_below (g:= gb122) (o:= .cells #[.slice none 0 0,.slice none 0 0,.slice none 0 0] 30 (0,0)) (ub BK122.out) hb);have n4_:= mk (below_step (by repeat (first|(with_reducible first|exact HB.out|apply below_alloc|apply pw_below_drewN|apply below_drew1|refine below_set ?_ GE120.out|refine below_set ?_ GE121.out|refine below_set ?_ GE122.out)|exact HB.out)) hb);clear BK120;clear BK121;clear BK122;clear HB;have HO125:= n0_;have BK120:= n1_;have BK121:= n2_;have BK122:= n3_;have HB:= n4_;clear n0_ n1_ n2_ n3_ n4_;(try clear hb);(try clear hb2);(try clear hk);(try clear hi);(try clear ho0);obtain ⟨Ao12,co12,eo12⟩:= Kd.R_slice HO125.out;subst eo12;have hnb13:= NB122_121.out;have hnc13:= NB121_122.out;have hcz14_0 : w11.cell? ⟨gb122,0,none⟩ = some (.slice none 0 0):= (blk_cell BK122.out 0).trans rfl;have hcz14_1 : w11.cell? ⟨gb122,1,none⟩ = some (.slice none 0 0):= (blk_cell BK122.out 1).trans rfl;have hcz14_2 : w11.cell? ⟨gb122,2,none⟩ = some (.slice none 0 0):= (blk_cell BK122.out 2).trans rfl;have hfz14_0:= blk_frozen BK122.out 0;have hfz14_1:= blk_frozen BK122.out 1;have hfz14_2:= blk_frozen BK122.out 2;have hcz15_0 : w11.cell? ⟨gb120,0,none⟩ = some (.slice A0_0 l0_0.length c0_0):= (blk_cell BK120.out 0).trans rfl;have hcz15_1 : w11.cell? ⟨gb120,1,none⟩ = some (.slice A0_1 l0_1.length c0_1):= (blk_cell BK120.out 1).trans rfl;have hcz15_2 : w11.cell? ⟨gb120,2,none⟩ = some (.slice A0_2 l0_2.length c0_2):= (blk_cell BK120.out 2).trans rfl;have hfz15_0:= blk_frozen BK120.out 0;have hfz15_1:= blk_frozen BK120.out 1;have hfz15_2:= blk_frozen BK120.out 2)|((with_reducible refine gate_callee (f:= 29) rfl ?_);refine goesL_ (some 10) rfl rfl Try.func29 (by kernel_rfl) rfl #[.slice A0_1 l0_1.length c0_1] rfl (by (try simp only [List.map_toArray,List.map_cons,List.map_nil]);first|done|rfl|(simp only [List.length_drop,List.length_take];rfl)) ?_;(with_reducible refine (laws_toIntS.calls k _ _ l0_1 t126 _ ?side1 ?side2 A3.out).mono ?_);(case side1 => exact Kd.C_below HR0_1.out (by repeat (first|(with_reducible first|exact HB.out|apply below_alloc|apply pw_below_drewN|apply below_drew1|refine below_set ?_ GE120.out|refine below_set ?_ GE121.out|refine below_set ?_ GE122.out)|exact HB.out)));(case side2 => exact HC0_1.out);rintro e w16 ⟨v127,rfl,ho0,hb⟩;refine ⟨_,rfl,?_⟩;have n0_:= mk (Kd.R_elder' (by exact up ((Kd.R_mono (Kd.R_far (p:= ⟨gb122,0,none⟩) (Kd.R_types HO125.out BK122.out (by decide)) (fun _ hk => hk.2) (.slice Ao12 t123.length co12)) (fun _ h_ => h_.1)))) (Kd.R_base ho0) hb);have n1_:= mk (Kd.R_lower (Kd.R_new' ho0 (Kd.R_lt (by exact up ((Kd.R_mono (Kd.R_far (p:= ⟨gb122,0,none⟩) (Kd.R_types HO125.out BK122.out (by decide)) (fun _ hk => hk.2) (.slice Ao12 t123.length co12)) (fun _ h_ => h_.1)))))) (below_size (by repeat (first|(with_reducible first|exact HB.out|apply below_alloc|apply pw_below_drewN|apply below_drew1|refine below_set ?_ GE120.out|refine below_set ?_ GE121.out|refine below_set ?_ GE122.out)|exact HB.out))));have n2_:= mk (blk_below (g:= gb120) (o:= .cells #[.slice A0_0 l0_0.length c0_0,.slice A0_1 l0_1.length c0_1,.slice A0_2 l0_2.length c0_2] 25 (0,0)) (by (with_reducible repeat (first|refine blk_drewN ?_ _|refine blk_drew ?_|refine blk_alloc ?_ _));refine blk_far ?_ NB120_122.out _;(with_reducible repeat (first|refine blk_drewN ?_ _|refine blk_drew ?_|refine blk_alloc ?_ _));exact BK120.out) hb);have n3_:= mk (blk_below (g:= gb121) (o:= .cells #[.slice none 0 0,.slice none 0 0,.slice none 0 0] 30 (0,0)) (by (with_reducible repeat (first|refine blk_drewN ?_ _|refine blk_drew ?_|refine blk_alloc ?_ _));refine blk_far ?_ NB121_122.out _;(with_reducible repeat (first|refine blk_drewN ?_ _|refine blk_drew ?_|refine blk_alloc ?_ _));exact BK121.out) hb);have n4_:= mk (blk_below (g:= gb122) (o:= .cells #[.slice Ao12 t123.length co12,.slice none 0 0,.slice none 0 0] 30 (0,0)) (by (with_reducible repeat (first|refine blk_drewN ?_ _|refine blk_drew ?_|refine blk_alloc ?_ _));refine blk_put (cs:= #[.slice none 0 0,.slice none 0 0,.slice none 0 0]) ?_ 0 _ rfl;(with_reducible repeat (first|refine blk_drewN ?_ _|refine blk_drew ?_|refine blk_alloc ?_ _));exact BK122.out) hb);have n5_:= mk (below_step (by repeat (first|(with_reducible first|exact HB.out|apply below_alloc|apply pw_below_drewN|apply below_drew1|refine below_set ?_ GE120.out|refine below_set ?_ GE121.out|refine below_set ?_ GE122.out)|exact HB.out)) hb);clear HO125;clear BK120;clear BK121;clear BK122;clear HB;have HO125:= n0_;have HO128:= n1_;have BK120:= n2_;have BK121:= n3_;have BK122:= n4_;have HB:= n5_;clear n0_ n1_ n2_ n3_ n4_ n5_;(try clear hb);(try clear hb2);(try clear hk);(try clear hi);(try clear ho0);obtain ⟨Ao17,co17,eo17⟩:= Kd.R_slice HO128.out;subst eo17;have hcz18_0 : w16.cell? ⟨gb122,0,none⟩ = some (.slice Ao12 t123.length co12):= (blk_cell BK122.out 0).trans rfl;have hcz18_1 : w16.cell? ⟨gb122,1,none⟩ = some (.slice none 0 0):= (blk_cell BK122.out 1).trans rfl;have hcz18_2 : w16.cell? ⟨gb122,2,none⟩ = some (.slice none 0 0):= (blk_cell BK122.out 2).trans rfl;have hfz18_0:= blk_frozen BK122.out 0;have hfz18_1:= blk_frozen BK122.out 1;have hfz18_2:= blk_frozen BK122.out 2;have hcz19_0 : w16.cell? ⟨gb120,0,none⟩ = some (.slice A0_0 l0_0.length c0_0):= (blk_cell BK120.out 0).trans rfl;have hcz19_1 : w16.cell? ⟨gb120,1,none⟩ = some (.slice A0_1 l0_1.length c0_1):= (blk_cell BK120.out 1).trans rfl;have hcz19_2 : w16.cell? ⟨gb120,2,none⟩ = some (.slice A0_2 l0_2.length c0_2):= (blk_cell BK120.out 2).trans rfl;have hfz19_0:= blk_frozen BK120.out 0;have hfz19_1:= blk_frozen BK120.out 1;have hfz19_2:= blk_frozen BK120.out 2)|((with_reducible refine gate_callee (f:= 52) rfl ?_);refine goesL_ (some 14) rfl rfl Try.func52 (by kernel_rfl) rfl #[.slice A0_2 l0_2.length c0_2] rfl (by (try simp only [List.map_toArray,List.map_cons,List.map_nil]);first|done|rfl|(simp only [List.length_drop,List.length_take];rfl)) ?_;(with_reducible refine (laws_toPivotS.calls k _ _ l0_2 t129 _ ?side1 ?side2 A4.out).mono ?_);(case side1 => exact Kd.C_below HR0_2.out (by repeat (first|(with_reducible first|exact HB.out|apply below_alloc|apply pw_below_drewN|apply below_drew1|refine below_set ?_ GE120.out|refine below_set ?_ GE121.out|refine below_set ?_ GE122.out)|exact HB.out)));(case side2 => exact HC0_2.out);rintro e w20 ⟨v130,rfl,ho0,hb⟩;refine ⟨_,rfl,?_⟩;have n0_:= mk (Kd.R_below (by exact up ((Kd.R_mono (Kd.R_far (p:= ⟨gb122,1,none⟩) (Kd.R_types HO125.out BK122.out (by decide)) (fun _ hk => hk.2) (.slice Ao17 t126.length co17)) (fun _ h_ => h_.1)))) hb);have n1_:= mk (Kd.R_below (by exact up ((Kd.R_mono (Kd.R_far (p:= ⟨gb122,1,none⟩) (Kd.R_types HO128.out BK122.out (by decide)) (fun _ hk => hk.2) (.slice Ao17 t126.length co17)) (fun _ h_ => h_.1)))) hb);have n2_:= mk (Kd.R_lower ho0 (below_size (by repeat (first|(with_reducible first|exact HB.out|apply below_alloc|apply pw_below_drewN|apply below_drew1|refine below_set ?_ GE120.out|refine below_set ?_ GE121.out|refine below_set ?_ GE122.out)|exact HB.out))));have n3_:= mk (blk_below (g:= gb120) (o:= .cells #[.slice A0_0 l0_0.length c0_0,.slice A0_1 l0_1.length c0_1,.slice A0_2 l0_2.length c0_2] 25 (0,0)) (by (with_reducible repeat (first|refine blk_drewN ?_ _|refine blk_drew ?_|refine blk_alloc ?_ _));refine blk_far ?_ NB120_122.out _;(with_reducible repeat (first|refine blk_drewN ?_ _|refine blk_drew ?_|refine blk_alloc ?_ _));exact BK120.out) hb);have n4_:= mk (blk_below (g:= gb121) (o:= .cells #[.slice none 0 0,.slice none 0 0,.slice none 0 0] 30 (0,0)) (by (with_reducible repeat (first|refine blk_drewN ?_ _|refine blk_drew ?_|refine blk_alloc ?_ _));refine blk_far ?_ NB121_122.out _;(with_reducible repeat (first|refine blk_drewN ?_ _|refine blk_drew ?_|refine blk_alloc ?_ _));exact BK121.out) hb);have n5_:= mk (blk_below (g:= gb122) (o:= .cells #[.slice Ao12 t123.length co12,.slice Ao17 t126.length co17,.slice none 0 0] 30 (0,0)) (by (with_reducible repeat (first|refine blk_drewN ?_ _|refine blk_drew ?_|refine blk_alloc ?_ _));refine blk_put (cs:= #[.slice Ao12 t123.length co12,.slice none 0 0,.slice none 0 0]) ?_ 1 _ rfl;(with_reducible repeat (first|refine blk_drewN ?_ _|refine blk_drew ?_|refine blk_alloc ?_ _));exact BK122.out) hb);have n6_:= mk (below_step (by repeat (first|(with_reducible first|exact HB.out|apply below_alloc|apply pw_below_drewN|apply below_drew1|refine below_set ?_ GE120.out|refine below_set ?_ GE121.out|refine below_set ?_ GE122.out)|exact HB.out)) hb);clear HO125;clear HO128;clear BK120;clear BK121;clear BK122;clear HB;have HO125:= n0_;have HO128:= n1_;have HO131:= n2_;have BK120:= n3_;have BK121:= n4_;have BK122:= n5_;have HB:= n6_;clear n0_ n1_ n2_ n3_ n4_ n5_ n6_;(try clear hb);(try clear hb2);(try clear hk);(try clear hi);(try clear ho0);obtain ⟨Ao21,co21,eo21⟩:= Kd.R_slice HO131.out;subst eo21;have hcz22_0 : w20.cell? ⟨gb122,0,none⟩ = some (.slice Ao12 t123.length co12):= (blk_cell BK122.out 0).trans rfl;have hcz22_1 : w20.cell? ⟨gb122,1,none⟩ = some (.slice Ao17 t126.length co17):= (blk_cell BK122.out 1).trans rfl;have hcz22_2 : w20.cell? ⟨gb122,2,none⟩ = some (.slice none 0 0):= (blk_cell BK122.out 2).trans rfl;have hfz22_0:= blk_frozen BK122.out 0;have hfz22_1:= blk_frozen BK122.out 1;have hfz22_2:= blk_frozen BK122.out 2;have hcz23_0 : w20.cell? ⟨gb121,0,none⟩ = some (.slice none 0 0):= (blk_cell BK121.out 0).trans rfl;have hcz23_1 : w20.cell? ⟨gb121,1,none⟩ = some (.slice none 0 0):= (blk_cell BK121.out 1).trans rfl;have hcz23_2 : w20.cell? ⟨gb121,2,none⟩ = some (.slice none 0 0):= (blk_cell BK121.out 2).trans rfl;have hfz23_0:= blk_frozen BK121.out 0;have hfz23_1:= blk_frozen BK121.out 1;have hfz23_2:= blk_frozen BK121.out 2))
  refine bodyPost_ret (results_cell_row rfl _ _ gb121 30 #[.slice Ao12 t123.length co12,.slice Ao17 t126.length co17,.slice Ao21 t129.length co21] (0,0) _ rfl (by (with_reducible repeat (first|refine blk_drewN ?_ _|refine blk_drew ?_|refine blk_alloc ?_ _));refine blk_put (cs:= #[.slice Ao12 t123.length co12,.slice Ao17 t126.length co17,.slice none 0 0]) ?_ 2 _ rfl;(with_reducible repeat (first|refine blk_drewN ?_ _|refine blk_drew ?_|refine blk_alloc ?_ _));refine blk_put (cs:= #[.slice Ao12 t123.length co12,.slice none 0 0,.slice none 0 0]) ?_ 1 _ rfl;(with_reducible repeat (first|refine blk_drewN ?_ _|refine blk_drew ?_|refine blk_alloc ?_ _));refine blk_put (cs:= #[.slice none 0 0,.slice none 0 0,.slice none 0 0]) ?_ 0 _ rfl;(with_reducible repeat (first|refine blk_drewN ?_ _|refine blk_drew ?_|refine blk_alloc ?_ _));refine blk_far ?_ NB121_122.out _;(with_reducible repeat (first|refine blk_drewN ?_ _|refine blk_drew ?_|refine blk_alloc ?_ _));exact BK121.out) Try.underlying30 rfl (by kernel_rfl)) rfl ?_
  exact ⟨_,_,_,by first|rfl|(simp [errW_none,errW_some] <;> rfl)|(simp [*,errW_none,errW_some] <;> rfl),by exact up (Kd.R_mono (Kd.R_far (p:= ⟨gb121,2,none⟩) (Kd.R_far (p:= ⟨gb121,1,none⟩) (Kd.R_far (p:= ⟨gb121,0,none⟩) (Kd.R_far (p:= ⟨gb122,2,none⟩) (Kd.R_types (Kd.R_types HO125.out BK122.out (by decide)) BK121.out (by decide)) (fun _ hk => by first|exact hk.1.2|(revert hk;simp only [and_imp];intros;(repeat' (refine And.intro ?_ ?_)) <;> assumption)) (.slice Ao21 t129.length co21)) (fun _ hk => hk.2) (.slice Ao12 t123.length co12)) (fun _ hk => hk.2) (.slice Ao17 t126.length co17)) (fun _ hk => hk.2) (.slice Ao21 t129.length co21)) (fun _ hk => by first|exact hk.1.1.2|(revert hk;simp only [and_imp];intros;(repeat' (refine And.intro ?_ ?_)) <;> assumption))),by exact up (Kd.R_mono (Kd.R_far (p:= ⟨gb121,2,none⟩) (Kd.R_far (p:= ⟨gb121,1,none⟩) (Kd.R_far (p:= ⟨gb121,0,none⟩) (Kd.R_far (p:= ⟨gb122,2,none⟩) (Kd.R_types (Kd.R_types HO128.out BK122.out (by decide)) BK121.out (by decide)) (fun _ hk => by first|exact hk.1.2|(revert hk;simp only [and_imp];intros;(repeat' (refine And.intro ?_ ?_)) <;> assumption)) (.slice Ao21 t129.length co21)) (fun _ hk => hk.2) (.slice Ao12 t123.length co12)) (fun _ hk => hk.2) (.slice Ao17 t126.length co17)) (fun _ hk => hk.2) (.slice Ao21 t129.length co21)) (fun _ hk => by first|exact hk.1.1.2|(revert hk;simp only [and_imp];intros;(repeat' (refine And.intro ?_ ?_)) <;> assumption))),by exact up (Kd.R_mono (Kd.R_far (p:= ⟨gb121,2,none⟩) (Kd.R_far (p:= ⟨gb121,1,none⟩) (Kd.R_far (p:= ⟨gb121,0,none⟩) (Kd.R_far (p:= ⟨gb122,2,none⟩) (Kd.R_types (Kd.R_types HO131.out BK122.out (by decide)) BK121.out (by decide)) (fun _ hk => by first|exact hk.1.2|(revert hk;simp only [and_imp];intros;(repeat' (refine And.intro ?_ ?_)) <;> assumption)) (.slice Ao21 t129.length co21)) (fun _ hk => hk.2) (.slice Ao12 t123.length co12)) (fun _ hk => hk.2) (.slice Ao17 t126.length co17)) (fun _ hk => hk.2) (.slice Ao21 t129.length co21)) (fun _ hk => trivial)),by repeat (first|(with_reducible first|exact HB.out|apply below_alloc|apply pw_below_drewN|apply below_drew1|refine below_set ?_ GE120.out|refine below_set ?_ GE121.out|refine below_set ?_ GE122.out)|exact HB.out)⟩

/-! ### laws_eqIntS: function 31 -/
def laws_eqIntS.l0 : Nat → List Int → List Int → Int → Option (Bool)
  | 0, _, _, _ => none
  | k + 1, x0, x1, x5 => if x5 < (x0.length : Int) then (if 0 ≤ x5 then (if x5 < (x1.length : Int) then (if (rd x0 x5) = (rd x1 x5) then (laws_eqIntS.l0 k x0 x1 (wrap64 (x5 + 1))) else (some false)) else (none)) else (none)) else (some true)
def laws_eqIntS.f (k : Nat) (l0 : List Int) (l1 : List Int) : Option (Bool) := if (l0.length : Int) = (l1.length : Int) then (laws_eqIntS.l0 k l0 l1 0) else (some false)
theorem laws_eqIntS.mono_l : ∀ k, (∀ y0 y1 y2, LeO (laws_eqIntS.l0 k y0 y1 y2) (laws_eqIntS.l0 (k + 1) y0 y1 y2))
  | 0 => fun _ _ _ r h => by simp [laws_eqIntS.l0] at h
  | k + 1 => by
    have ih0 := laws_eqIntS.mono_l k
    · intro y0 y1 y2
      unfold laws_eqIntS.l0
      repeat' first
      | (with_reducible exact ih0 _ _ _)
      | (with_reducible exact LeO.refl _)
      | (with_reducible exact LeO.none _)
      | (with_reducible refine LeO.ite ?_ ?_)
      | (with_reducible refine LeO.bind ?_ (fun _ => ?_))
      | exact ih0 _ _ _
      | exact LeO.none _
      | refine LeO.ite ?_ ?_
      | refine LeO.bind ?_ (fun _ => ?_)
theorem laws_eqIntS.mono : ∀ a0 a1 k, LeO (laws_eqIntS.f k a0 a1) (laws_eqIntS.f (k + 1) a0 a1) := by
  intro a0 a1 k
  have ih0:= laws_eqIntS.mono_l k
  unfold laws_eqIntS.f
  repeat' first
     |(with_reducible exact ih0 _ _ _)
     |(with_reducible exact LeO.refl _)
     |(with_reducible exact LeO.none _)
     |(with_reducible refine LeO.ite ?_ ?_)
     |(with_reducible refine LeO.bind ?_ (fun _ => ?_))
     |exact ih0 _ _ _
     |exact LeO.none _
     |refine LeO.ite ?_ ?_
     |refine LeO.bind ?_ (fun _ => ?_)
set_option maxHeartbeats 8000000 in
set_option maxRecDepth 100000 in
theorem laws_eqIntS.calls (k : Nat) (A0 : Option Addr) (c0 : Nat) (l0 : List Int) (A1 : Option Addr) (c1 : Nat) (l1 : List Int) (r : Bool) (w : World) (hr0 : Kd.C (Kd.int .i64) w A0 l0.length l0) (hc0 : l0.length ≤ c0) (hr1 : Kd.C (Kd.int .i64) w A1 l1.length l1) (hc1 : l1.length ≤ c1) (h : laws_eqIntS.f k l0 l1 = some r) :
    Calls Try.prog 31 #[.slice A0 l0.length c0, .slice A1 l1.length c1] w fun e w' => e = .returned (.bool r) ∧ Drawn0 w w' := by
  have HR0:= mk hr0
  have HC0:= mk hc0
  clear hr0 hc0
  have HR1:= mk hr1
  have HC1:= mk hc1
  clear hr1 hc1
  have H : (if (l0.length : Int) = (l1.length : Int) then (laws_eqIntS.l0 k l0 l1 0) else (some false)) = some r:= h
  clear h
  by_cases c3 : (l0.length : Int) = (l1.length : Int)
  · rw [if_pos c3] at H
    have c3b0 : ((l0.length : Int) == (l1.length : Int)) = true:= beq_iff_eq.mpr c3
    have c3b1 : ((l0.length : Int) != (l1.length : Int)) = false:= bne_eq_false_iff_eq.mpr c3
    have c3b2 : (l0.length == l1.length) = true:= by first|simpa using c3|(simp at c3 ⊢;omega)
    clear c3
    have H':= mk H
    clear H
    go_enter Try.func31,Try.ntmps31
    go_wp2
    repeat (go_quiet (fail);try go_wp2)
    go_loopg [5] k (fun kq v5 w' => ∃ (x5_1 : Int),v5 = .int .i64 x5_1 ∧ Aside0 (laws_eqIntS.l0 kq l0 l1 x5_1 = some r) ∧ Aside0 (kq ≤ k) ∧ Drawn0 w w')
    case atStart => exact ⟨(0),(by first|rfl|(simp;done)|(simp [*];done)),H',⟨Nat.le_refl _⟩,by repeat (first|exact Drawn0.refl _|apply Drawn0.step)⟩
    case round =>
      clear H'
      try clear c1
      try clear p2
      try clear c3
      try clear c3b0
      try clear c3b1
      try clear c3b2
      obtain ⟨x5_1,rfl,HA,HK1,⟨m1,rfl⟩⟩:= hrel
      cases gk with
     |zero => exact absurd HA.out (by simp [laws_eqIntS.l0])
     |succ k1 =>
        have H:= HA.out
        clear HA
        simp only [laws_eqIntS.l0] at H
        by_cases c4 : x5_1 < (l0.length : Int)
        · rw [if_pos c4] at H
          have c4b0 : decide (x5_1 < (l0.length : Int)) = true:= decide_eq_true c4
          clear c4
          by_cases c5 : 0 ≤ x5_1
          · rw [if_pos c5] at H
            have c5b0 : decide (0 ≤ x5_1) = true:= decide_eq_true c5
            clear c5
            by_cases c6 : x5_1 < (l1.length : Int)
            · rw [if_pos c6] at H
              have c6b0 : decide (x5_1 < (l1.length : Int)) = true:= decide_eq_true c6
              clear c6
              by_cases c7 : (rd l0 x5_1) = (rd l1 x5_1)
              · rw [if_pos c7] at H
                have c7b0 : ((rd l0 x5_1) == (rd l1 x5_1)) = true:= beq_iff_eq.mpr c7
                have c7b1 : ((rd l0 x5_1) != (rd l1 x5_1)) = false:= bne_eq_false_iff_eq.mpr c7
                clear c7
                have H':= mk H
                clear H
                have p132 : 0 ≤ (x5_1 : Int):= of_decide_eq_true (by first|(with_reducible assumption)|assumption)
                have q132 : x5_1 < (l0.length : Int):= of_decide_eq_true (by first|(with_reducible assumption)|assumption)
                obtain ⟨ad132,e132,hx132_0⟩:= Kd.at_int HR0.out x5_1 p132 q132
                cases e132
                replace p132:= eq_true p132
                replace q132:= eq_true q132
                have p133 : 0 ≤ (x5_1 : Int):= of_decide_eq_true (by first|(with_reducible assumption)|assumption)
                have q133 : x5_1 < (l1.length : Int):= of_decide_eq_true (by first|(with_reducible assumption)|assumption)
                obtain ⟨ad133,e133,hx133_0⟩:= Kd.at_int HR1.out x5_1 p133 q133
                cases e133
                replace p133:= eq_true p133
                replace q133:= eq_true q133
                go_wp2
                repeat (go_quiet (fail);try go_wp2)
                go_roundg k1
                case measure => have:= HK1.out;omega
                case rel => exact ⟨(wrap64 (x5_1 + 1)),(by first|rfl|(simp;done)|(simp [*];done)),H',⟨by have:= HK1.out;omega⟩,by repeat (first|exact Drawn0.refl _|apply Drawn0.step)⟩
              · rw [if_neg c7] at H
                have c7b0 : ((rd l0 x5_1) == (rd l1 x5_1)) = false:= beq_eq_false_iff_ne.mpr c7
                have c7b1 : ((rd l0 x5_1) != (rd l1 x5_1)) = true:= bne_iff_ne.mpr c7
                obtain rfl:= Option.some.inj H
                have p132 : 0 ≤ (x5_1 : Int):= of_decide_eq_true (by first|(with_reducible assumption)|assumption)
                have q132 : x5_1 < (l0.length : Int):= of_decide_eq_true (by first|(with_reducible assumption)|assumption)
                obtain ⟨ad132,e132,hx132_0⟩:= Kd.at_int HR0.out x5_1 p132 q132
                cases e132
                replace p132:= eq_true p132
                replace q132:= eq_true q132
                have p133 : 0 ≤ (x5_1 : Int):= of_decide_eq_true (by first|(with_reducible assumption)|assumption)
                have q133 : x5_1 < (l1.length : Int):= of_decide_eq_true (by first|(with_reducible assumption)|assumption)
                obtain ⟨ad133,e133,hx133_0⟩:= Kd.at_int HR1.out x5_1 p133 q133
                cases e133
                replace p133:= eq_true p133
                replace q133:= eq_true q133
                go_wp2
                repeat (go_quiet (fail);try go_wp2)
                go_ret
                exact ⟨by first|rfl|(simp;done)|(simp [*];done),by repeat (first|exact Drawn0.refl _|apply Drawn0.step)⟩
            · rw [if_neg c6] at H
              exact absurd H (by simp)
          · rw [if_neg c5] at H
            exact absurd H (by simp)
        · rw [if_neg c4] at H
          have c4b0 : decide (x5_1 < (l0.length : Int)) = false:= decide_eq_false c4
          clear c4
          obtain rfl:= Option.some.inj H
          go_wp2
          repeat (go_quiet (fail);try go_wp2)
          go_ret
          exact ⟨by first|rfl|(simp;done)|(simp [*];done),by repeat (first|exact Drawn0.refl _|apply Drawn0.step)⟩
  · rw [if_neg c3] at H
    have c3b0 : ((l0.length : Int) == (l1.length : Int)) = false:= beq_eq_false_iff_ne.mpr c3
    have c3b1 : ((l0.length : Int) != (l1.length : Int)) = true:= bne_iff_ne.mpr c3
    have c3b2 : (l0.length == l1.length) = false:= by first|simpa using c3|(simp at c3 ⊢;omega)
    obtain rfl:= Option.some.inj H
    go_enter Try.func31,Try.ntmps31
    go_wp2
    repeat (go_quiet (fail);try go_wp2)
    go_ret
    exact ⟨by first|rfl|(simp;done)|(simp [*];done),by repeat (first|exact Drawn0.refl _|apply Drawn0.step)⟩

/-! ### laws_eqPivot: function 88 -/
def laws_eqPivot.f (a0_0 : Int) (a0_1 : Int) (a1_0 : Int) (a1_1 : Int) : Option (Bool) := if a0_0 = a1_0 then (if a0_1 = a1_1 then (some true) else (some false)) else (some false)
set_option maxHeartbeats 8000000 in
set_option maxRecDepth 100000 in
theorem laws_eqPivot.calls (a0_0 : Int) (a0_1 : Int) (a1_0 : Int) (a1_1 : Int) (r : Bool) (w : World) (h : laws_eqPivot.f a0_0 a0_1 a1_0 a1_1 = some r) :
    Calls Try.prog 88 #[.agg #[.int .i64 a0_0, .int .i64 a0_1], .agg #[.int .i64 a1_0, .int .i64 a1_1]] w fun e w' => e = .returned (.bool r) ∧ Below w.heap.size w w' := by
  have hu69:= Try.underlying69
  have HB:= mk (Below.refl w.heap.size w)
  have H : (if a0_0 = a1_0 then (if a0_1 = a1_1 then (some true) else (some false)) else (some false)) = some r:= h
  clear h
  by_cases c3 : a0_0 = a1_0
  · rw [if_pos c3] at H
    have c3b0 : (a0_0 == a1_0) = true:= beq_iff_eq.mpr c3
    have c3b1 : (a0_0 != a1_0) = false:= bne_eq_false_iff_eq.mpr c3
    clear c3
    by_cases c4 : a0_1 = a1_1
    · rw [if_pos c4] at H
      have c4b0 : (a0_1 == a1_1) = true:= beq_iff_eq.mpr c4
      have c4b1 : (a0_1 != a1_1) = false:= bne_eq_false_iff_eq.mpr c4
      clear c4
      obtain rfl:= Option.some.inj H
      go_enter Try.func88,Try.ntmps88
      go_wp2_with (first|((with_reducible refine gate_dst (N:= 2) rfl ?_);refine box_event ?hg (N:= 2) ?hd (cs:= #[.int .i64 a0_0,.int .i64 a0_1]) (t:= 69) ?hr ?_;(case hd => rfl);(case hg => rfl);(case hr => first|(go_simp;done)|(go_simp;rfl));intro gb134 hg w5 hbox hb;have n0_:= mk (below_step (by repeat (first|(with_reducible first|exact HB.out|apply below_alloc|apply pw_below_drewN|apply below_drew1)|exact HB.out)) hb);have n1_:= mk (hbox);have n2_:= mk ((by rw [hg];exact (below_size (by repeat (first|(with_reducible first|exact HB.out|apply below_alloc|apply pw_below_drewN|apply below_drew1)|exact HB.out))) : w.heap.size ≤ gb134));have n3_:= mk ((by rw [hg];exact (below_size (by repeat (first|(with_reducible first|exact HB.out|apply below_alloc|apply pw_below_drewN|apply below_drew1)|exact HB.out))) : w.heap.size ≤ gb134));clear HB;have HB:= n0_;have BK134:= n1_;have GW134:= n2_;have GE134:= n3_;clear n0_ n1_ n2_ n3_;clear hb hbox hg)|((with_reducible refine gate_dst (N:= 3) rfl ?_);refine box_event ?hg (N:= 3) ?hd (cs:= #[.int .i64 a1_0,.int .i64 a1_1]) (t:= 69) ?hr ?_;(case hd => rfl);(case hg => rfl);(case hr => first|(go_simp;done)|(go_simp;rfl));intro gb135 hg w6 hbox hb;have n0_:= mk (blk_below (g:= gb134) (o:= .cells #[.int .i64 a0_0,.int .i64 a0_1] 69 (0,0)) (ub BK134.out) hb);have n1_:= mk (below_step (by repeat (first|(with_reducible first|exact HB.out|apply below_alloc|apply pw_below_drewN|apply below_drew1|refine below_set ?_ GE134.out)|exact HB.out)) hb);have n2_:= mk (hbox);have n3_:= mk ((by rw [hg];exact (below_size (by repeat (first|(with_reducible first|exact HB.out|apply below_alloc|apply pw_below_drewN|apply below_drew1|refine below_set ?_ GE134.out)|exact HB.out))) : w.heap.size ≤ gb135));have n4_:= mk ((by rw [hg];exact (below_size (by repeat (first|(with_reducible first|exact HB.out|apply below_alloc|apply pw_below_drewN|apply below_drew1|refine below_set ?_ GE134.out)|exact HB.out))) : w.heap.size ≤ gb135));have n5_:= mk ((by rw [hg];exact Nat.ne_of_lt (blk_lt (g:= gb134) (o:= .cells #[.int .i64 a0_0,.int .i64 a0_1] 69 (0,0)) (ub BK134.out)) : gb134 ≠ gb135));have n6_:= mk ((by rw [hg];exact Nat.ne_of_gt (blk_lt (g:= gb134) (o:= .cells #[.int .i64 a0_0,.int .i64 a0_1] 69 (0,0)) (ub BK134.out)) : gb135 ≠ gb134));clear BK134;clear HB;have BK134:= n0_;have HB:= n1_;have BK135:= n2_;have GW135:= n3_;have GE135:= n4_;have NB134_135:= n5_;have NB135_134:= n6_;clear n0_ n1_ n2_ n3_ n4_ n5_ n6_;clear hb hbox hg;have hnb7:= NB134_135.out;have hnc7:= NB135_134.out;have hcz8_0 : w6.cell? ⟨gb134,0,none⟩ = some (.int .i64 a0_0):= (blk_cell BK134.out 0).trans rfl;have hcz8_1 : w6.cell? ⟨gb134,1,none⟩ = some (.int .i64 a0_1):= (blk_cell BK134.out 1).trans rfl;have hfz8_0:= blk_frozen BK134.out 0;have hfz8_1:= blk_frozen BK134.out 1;have hcz9_0 : w6.cell? ⟨gb135,0,none⟩ = some (.int .i64 a1_0):= (blk_cell BK135.out 0).trans rfl;have hcz9_1 : w6.cell? ⟨gb135,1,none⟩ = some (.int .i64 a1_1):= (blk_cell BK135.out 1).trans rfl;have hfz9_0:= blk_frozen BK135.out 0;have hfz9_1:= blk_frozen BK135.out 1))
      go_ret
      exact ⟨by first|rfl|(simp [errW_none,errW_some] <;> rfl)|(simp [*,errW_none,errW_some] <;> rfl),by repeat (first|(with_reducible first|exact HB.out|apply below_alloc|apply pw_below_drewN|apply below_drew1|refine below_set ?_ GE134.out|refine below_set ?_ GE135.out)|exact HB.out)⟩
    · rw [if_neg c4] at H
      have c4b0 : (a0_1 == a1_1) = false:= beq_eq_false_iff_ne.mpr c4
      have c4b1 : (a0_1 != a1_1) = true:= bne_iff_ne.mpr c4
      obtain rfl:= Option.some.inj H
      go_enter Try.func88,Try.ntmps88
      go_wp2_with (first|((with_reducible refine gate_dst (N:= 2) rfl ?_);refine box_event ?hg (N:= 2) ?hd (cs:= #[.int .i64 a0_0,.int .i64 a0_1]) (t:= 69) ?hr ?_;(case hd => rfl);(case hg => rfl);(case hr => first|(go_simp;done)|(go_simp;rfl));intro gb134 hg w10 hbox hb;have n0_:= mk (below_step (by repeat (first|(with_reducible first|exact HB.out|apply below_alloc|apply pw_below_drewN|apply below_drew1)|exact HB.out)) hb);have n1_:= mk (hbox);have n2_:= mk ((by rw [hg];exact (below_size (by repeat (first|(with_reducible first|exact HB.out|apply below_alloc|apply pw_below_drewN|apply below_drew1)|exact HB.out))) : w.heap.size ≤ gb134));have n3_:= mk ((by rw [hg];exact (below_size (by repeat (first|(with_reducible first|exact HB.out|apply below_alloc|apply pw_below_drewN|apply below_drew1)|exact HB.out))) : w.heap.size ≤ gb134));clear HB;have HB:= n0_;have BK134:= n1_;have GW134:= n2_;have GE134:= n3_;clear n0_ n1_ n2_ n3_;clear hb hbox hg)|((with_reducible refine gate_dst (N:= 3) rfl ?_);refine box_event ?hg (N:= 3) ?hd (cs:= #[.int .i64 a1_0,.int .i64 a1_1]) (t:= 69) ?hr ?_;(case hd => rfl);(case hg => rfl);(case hr => first|(go_simp;done)|(go_simp;rfl));intro gb135 hg w11 hbox hb;have n0_:= mk (blk_below (g:= gb134) (o:= .cells #[.int .i64 a0_0,.int .i64 a0_1] 69 (0,0)) (ub BK134.out) hb);have n1_:= mk (below_step (by repeat (first|(with_reducible first|exact HB.out|apply below_alloc|apply pw_below_drewN|apply below_drew1|refine below_set ?_ GE134.out)|exact HB.out)) hb);have n2_:= mk (hbox);have n3_:= mk ((by rw [hg];exact (below_size (by repeat (first|(with_reducible first|exact HB.out|apply below_alloc|apply pw_below_drewN|apply below_drew1|refine below_set ?_ GE134.out)|exact HB.out))) : w.heap.size ≤ gb135));have n4_:= mk ((by rw [hg];exact (below_size (by repeat (first|(with_reducible first|exact HB.out|apply below_alloc|apply pw_below_drewN|apply below_drew1|refine below_set ?_ GE134.out)|exact HB.out))) : w.heap.size ≤ gb135));have n5_:= mk ((by rw [hg];exact Nat.ne_of_lt (blk_lt (g:= gb134) (o:= .cells #[.int .i64 a0_0,.int .i64 a0_1] 69 (0,0)) (ub BK134.out)) : gb134 ≠ gb135));have n6_:= mk ((by rw [hg];exact Nat.ne_of_gt (blk_lt (g:= gb134) (o:= .cells #[.int .i64 a0_0,.int .i64 a0_1] 69 (0,0)) (ub BK134.out)) : gb135 ≠ gb134));clear BK134;clear HB;have BK134:= n0_;have HB:= n1_;have BK135:= n2_;have GW135:= n3_;have GE135:= n4_;have NB134_135:= n5_;have NB135_134:= n6_;clear n0_ n1_ n2_ n3_ n4_ n5_ n6_;clear hb hbox hg;have hnb12:= NB134_135.out;have hnc12:= NB135_134.out;have hcz13_0 : w11.cell? ⟨gb134,0,none⟩ = some (.int .i64 a0_0):= (blk_cell BK134.out 0).trans rfl;have hcz13_1 : w11.cell? ⟨gb134,1,none⟩ = some (.int .i64 a0_1):= (blk_cell BK134.out 1).trans rfl;have hfz13_0:= blk_frozen BK134.out 0;have hfz13_1:= blk_frozen BK134.out 1;have hcz14_0 : w11.cell? ⟨gb135,0,none⟩ = some (.int .i64 a1_0):= (blk_cell BK135.out 0).trans rfl;have hcz14_1 : w11.cell? ⟨gb135,1,none⟩ = some (.int .i64 a1_1):= (blk_cell BK135.out 1).trans rfl;have hfz14_0:= blk_frozen BK135.out 0;have hfz14_1:= blk_frozen BK135.out 1))
      go_ret
      exact ⟨by first|rfl|(simp [errW_none,errW_some] <;> rfl)|(simp [*,errW_none,errW_some] <;> rfl),by repeat (first|(with_reducible first|exact HB.out|apply below_alloc|apply pw_below_drewN|apply below_drew1|refine below_set ?_ GE134.out|refine below_set ?_ GE135.out)|exact HB.out)⟩
  · rw [if_neg c3] at H
    have c3b0 : (a0_0 == a1_0) = false:= beq_eq_false_iff_ne.mpr c3
    have c3b1 : (a0_0 != a1_0) = true:= bne_iff_ne.mpr c3
    obtain rfl:= Option.some.inj H
    go_enter Try.func88,Try.ntmps88
    go_wp2_with (first|((with_reducible refine gate_dst (N:= 2) rfl ?_);refine box_event ?hg (N:= 2) ?hd (cs:= #[.int .i64 a0_0,.int .i64 a0_1]) (t:= 69) ?hr ?_;(case hd => rfl);(case hg => rfl);(case hr => first|(go_simp;done)|(go_simp;rfl));intro gb134 hg w15 hbox hb;have n0_:= mk (below_step (by repeat (first|(with_reducible first|exact HB.out|apply below_alloc|apply pw_below_drewN|apply below_drew1)|exact HB.out)) hb);have n1_:= mk (hbox);have n2_:= mk ((by rw [hg];exact (below_size (by repeat (first|(with_reducible first|exact HB.out|apply below_alloc|apply pw_below_drewN|apply below_drew1)|exact HB.out))) : w.heap.size ≤ gb134));have n3_:= mk ((by rw [hg];exact (below_size (by repeat (first|(with_reducible first|exact HB.out|apply below_alloc|apply pw_below_drewN|apply below_drew1)|exact HB.out))) : w.heap.size ≤ gb134));clear HB;have HB:= n0_;have BK134:= n1_;have GW134:= n2_;have GE134:= n3_;clear n0_ n1_ n2_ n3_;clear hb hbox hg)|((with_reducible refine gate_dst (N:= 3) rfl ?_);refine box_event ?hg (N:= 3) ?hd (cs:= #[.int .i64 a1_0,.int .i64 a1_1]) (t:= 69) ?hr ?_;(case hd => rfl);(case hg => rfl);(case hr => first|(go_simp;done)|(go_simp;rfl));intro gb135 hg w16 hbox hb;have n0_:= mk (blk_below (g:= gb134) (o:= .cells #[.int .i64 a0_0,.int .i64 a0_1] 69 (0,0)) (ub BK134.out) hb);have n1_:= mk (below_step (by repeat (first|(with_reducible first|exact HB.out|apply below_alloc|apply pw_below_drewN|apply below_drew1|refine below_set ?_ GE134.out)|exact HB.out)) hb);have n2_:= mk (hbox);have n3_:= mk ((by rw [hg];exact (below_size (by repeat (first|(with_reducible first|exact HB.out|apply below_alloc|apply pw_below_drewN|apply below_drew1|refine below_set ?_ GE134.out)|exact HB.out))) : w.heap.size ≤ gb135));have n4_:= mk ((by rw [hg];exact (below_size (by repeat (first|(with_reducible first|exact HB.out|apply below_alloc|apply pw_below_drewN|apply below_drew1|refine below_set ?_ GE134.out)|exact HB.out))) : w.heap.size ≤ gb135));have n5_:= mk ((by rw [hg];exact Nat.ne_of_lt (blk_lt (g:= gb134) (o:= .cells #[.int .i64 a0_0,.int .i64 a0_1] 69 (0,0)) (ub BK134.out)) : gb134 ≠ gb135));have n6_:= mk ((by rw [hg];exact Nat.ne_of_gt (blk_lt (g:= gb134) (o:= .cells #[.int .i64 a0_0,.int .i64 a0_1] 69 (0,0)) (ub BK134.out)) : gb135 ≠ gb134));clear BK134;clear HB;have BK134:= n0_;have HB:= n1_;have BK135:= n2_;have GW135:= n3_;have GE135:= n4_;have NB134_135:= n5_;have NB135_134:= n6_;clear n0_ n1_ n2_ n3_ n4_ n5_ n6_;clear hb hbox hg;have hnb17:= NB134_135.out;have hnc17:= NB135_134.out;have hcz18_0 : w16.cell? ⟨gb134,0,none⟩ = some (.int .i64 a0_0):= (blk_cell BK134.out 0).trans rfl;have hcz18_1 : w16.cell? ⟨gb134,1,none⟩ = some (.int .i64 a0_1):= (blk_cell BK134.out 1).trans rfl;have hfz18_0:= blk_frozen BK134.out 0;have hfz18_1:= blk_frozen BK134.out 1;have hcz19_0 : w16.cell? ⟨gb135,0,none⟩ = some (.int .i64 a1_0):= (blk_cell BK135.out 0).trans rfl;have hcz19_1 : w16.cell? ⟨gb135,1,none⟩ = some (.int .i64 a1_1):= (blk_cell BK135.out 1).trans rfl;have hfz19_0:= blk_frozen BK135.out 0;have hfz19_1:= blk_frozen BK135.out 1))
    go_ret
    exact ⟨by first|rfl|(simp [errW_none,errW_some] <;> rfl)|(simp [*,errW_none,errW_some] <;> rfl),by repeat (first|(with_reducible first|exact HB.out|apply below_alloc|apply pw_below_drewN|apply below_drew1|refine below_set ?_ GE134.out|refine below_set ?_ GE135.out)|exact HB.out)⟩

end Go.Proofs.Ytbolealjmfbhjaa.PFnExactIsPending
