-- printed by a program of this session, a turned copy of the print of the kit
import Derived.Test.YtlikcmonejefoabSq
import Derived.Test.YtlikcmonejefoabPFnExactRippleDeletex0
namespace Go.Proofs.Ytlikcmonejefoab.PFnExactRippleDelete
open Go.RowKit Go.Proofs.YtlikcmonejefoabW.PrintWords Go.Proofs.YtlikcmonejefoabW.PrintLast Go.Proofs.YtlikcmonejefoabW.PrintMore Go.Proofs.Ytlikcmonejefoab.Sq
attribute [local go_sem] max2_int min2_int max_two min_two max_three min_three max_four min_four Giv.cell_twice   -- for this text's walks alone
set_option linter.unusedVariables false
set_option linter.unusedSimpArgs false

/-! ### laws_szIntS: function 25 -/
def laws_szIntS.f (l0 : List Int) (a1 : Int) : Option (Int) := if (wrap64 (a1 - (l0.length : Int))) < 0 then (some (-1)) else (some (wrap64 (a1 - (l0.length : Int))))
set_option maxHeartbeats 8000000 in
set_option maxRecDepth 100000 in
theorem laws_szIntS.calls (A0 : Option Addr) (c0 : Nat) (l0 : List Int) (a1 : Int) (r : Int) (w : World) (hr0 : Kd.C (Kd.int .i64) w A0 l0.length l0) (hc0 : l0.length ≤ c0) (h : laws_szIntS.f l0 a1 = some r) :
    Calls Try.prog 25 #[.slice A0 l0.length c0, .int .i64 a1] w fun e w' => e = .returned (.int .i64 r) ∧ Drawn0 w w' := by
  have HR0:= mk hr0
  have HC0:= mk hc0
  clear hr0 hc0
  have H : (if (wrap64 (a1 - (l0.length : Int))) < 0 then (some (-1)) else (some (wrap64 (a1 - (l0.length : Int))))) = some r:= h
  clear h
  by_cases c3 : (wrap64 (a1 - (l0.length : Int))) < 0
  · rw [if_pos c3] at H
    have s2 : decide ((wrap64 (a1 - (l0.length : Int))) < 0) = true:= decide_eq_true c3
    clear c3
    obtain rfl:= Option.some.inj H
    go_enter Try.func25,Try.ntmps25
    go_wp2
    go_ret
    exact ⟨by first|rfl|(simp;done)|(simp [*];done),by repeat (first|exact Drawn0.refl _|apply Drawn0.step)⟩
  · rw [if_neg c3] at H
    have s2 : decide ((wrap64 (a1 - (l0.length : Int))) < 0) = false:= decide_eq_false c3
    clear c3
    obtain rfl:= Option.some.inj H
    go_enter Try.func25,Try.ntmps25
    go_wp2
    go_ret
    exact ⟨by first|rfl|(simp;done)|(simp [*];done),by repeat (first|exact Drawn0.refl _|apply Drawn0.step)⟩

/-! ### laws_szPivotS: function 26 -/
def laws_szPivotS.f (l0 : List (S76)) (a1 : Int) : Option (Int) := if (wrap64 (a1 - (l0.length : Int))) < 0 then (some (-1)) else (some (wrap64 (a1 - (l0.length : Int))))
set_option maxHeartbeats 8000000 in
set_option maxRecDepth 100000 in
theorem laws_szPivotS.calls (A0 : Option Addr) (c0 : Nat) (l0 : List (S76)) (a1 : Int) (r : Int) (w : World) (hr0 : Kd.C k76 w A0 l0.length l0) (hc0 : l0.length ≤ c0) (h : laws_szPivotS.f l0 a1 = some r) :
    Calls Try.prog 26 #[.slice A0 l0.length c0, .int .i64 a1] w fun e w' => e = .returned (.int .i64 r) ∧ Drawn0 w w' := by
  have HR0:= mk hr0
  have HC0:= mk hc0
  clear hr0 hc0
  have H : (if (wrap64 (a1 - (l0.length : Int))) < 0 then (some (-1)) else (some (wrap64 (a1 - (l0.length : Int))))) = some r:= h
  clear h
  by_cases c3 : (wrap64 (a1 - (l0.length : Int))) < 0
  · rw [if_pos c3] at H
    have s2 : decide ((wrap64 (a1 - (l0.length : Int))) < 0) = true:= decide_eq_true c3
    clear c3
    obtain rfl:= Option.some.inj H
    go_enter Try.func26,Try.ntmps26
    go_wp2
    go_ret
    exact ⟨by first|rfl|(simp;done)|(simp [*];done),by repeat (first|exact Drawn0.refl _|apply Drawn0.step)⟩
  · rw [if_neg c3] at H
    have s2 : decide ((wrap64 (a1 - (l0.length : Int))) < 0) = false:= decide_eq_false c3
    clear c3
    obtain rfl:= Option.some.inj H
    go_enter Try.func26,Try.ntmps26
    go_wp2
    go_ret
    exact ⟨by first|rfl|(simp;done)|(simp [*];done),by repeat (first|exact Drawn0.refl _|apply Drawn0.step)⟩

/-! ### laws_szCracker: function 6 -/
def laws_szCracker.f (j0 : List Int) (k0 : List Int) (m0 : List (S76)) (a1 : Int) : Option (Int) := (laws_szIntS.f j0 a1).bind fun s0 => (if s0 < 0 then (some (-1)) else ((laws_szIntS.f k0 s0).bind fun q0 => (if q0 < 0 then (some (-1)) else ((laws_szPivotS.f m0 q0).bind fun z0 => (if z0 < 0 then (some (-1)) else (some z0))))))
set_option maxHeartbeats 8000000 in
set_option maxRecDepth 100000 in
theorem laws_szCracker.calls (d1 : Option Addr) (b1 : Nat) (j0 : List Int) (j1 : Option Addr) (g1 : Nat) (k0 : List Int) (q1 : Option Addr) (o1 : Nat) (m0 : List (S76)) (a1 : Int) (r : Int) (w : World) (a3 : Kd.C (Kd.int .i64) w d1 j0.length j0) (hc0_0 : j0.length ≤ b1) (z2 : Kd.C (Kd.int .i64) w j1 k0.length k0) (hc0_1 : k0.length ≤ g1) (v2 : Kd.C k76 w q1 m0.length m0) (hc0_2 : m0.length ≤ o1) (h : laws_szCracker.f j0 k0 m0 a1 = some r) :
    Calls Try.prog 6 #[.agg #[.slice d1 j0.length b1, .slice j1 k0.length g1, .slice q1 m0.length o1], .int .i64 a1] w fun e w' => e = .returned (.int .i64 r) ∧ Below w.heap.size w w' := by
  have hu25:= Try.underlying25
  have s1:= mk a3
  have v1:= mk hc0_0
  clear a3 hc0_0
  have m2:= mk z2
  have o2:= mk hc0_1
  clear z2 hc0_1
  have b3:= mk v2
  have d3:= mk hc0_2
  clear v2 hc0_2
  have HB:= mk (Below.refl w.heap.size w)
  have H : ((laws_szIntS.f j0 a1).bind fun s0 => (if s0 < 0 then (some (-1)) else ((laws_szIntS.f k0 s0).bind fun q0 => (if q0 < 0 then (some (-1)) else ((laws_szPivotS.f m0 q0).bind fun z0 => (if z0 < 0 then (some (-1)) else (some z0))))))) = some r:= h
  clear h
  replace H:= Option.bind_eq_some_iff.mp H
  obtain ⟨s0,A30,H⟩:= H
  replace H : (if s0 < 0 then (some (-1)) else ((laws_szIntS.f k0 s0).bind fun q0 => (if q0 < 0 then (some (-1)) else ((laws_szPivotS.f m0 q0).bind fun z0 => (if z0 < 0 then (some (-1)) else (some z0)))))) = some r:= H
  have A3:= mk A30
  clear A30
  by_cases c4 : s0 < 0
  · rw [if_pos c4] at H
    have j3 : decide (s0 < 0) = true:= decide_eq_true c4
    clear c4
    obtain rfl:= Option.some.inj H
    go_enter Try.func6,Try.ntmps6
    go_wp2_with (first|((with_reducible refine gate_dst (N:= 2) rfl ?_);refine box_event ?hg (N:= 2) ?hd (cs:= #[.slice d1 j0.length b1,.slice j1 k0.length g1,.slice q1 m0.length o1]) (t:= 25) ?hr ?_;(case hd => rfl);(case hg => rfl);(case hr => first|(go_simp;done)|(go_simp;rfl));intro d0 hg w5 hbox hb;have n0_:= mk (below_step (by repeat (first|(with_reducible first|exact HB.out|apply below_alloc|apply pw_below_drewN|apply below_drew1)|exact HB.out)) hb);have n1_:= mk (hbox);have n2_:= mk ((by rw [hg];exact (below_size (by repeat (first|(with_reducible first|exact HB.out|apply below_alloc|apply pw_below_drewN|apply below_drew1)|exact HB.out))) : w.heap.size ≤ d0));have n3_:= mk ((by rw [hg];exact (below_size (by repeat (first|(with_reducible first|exact HB.out|apply below_alloc|apply pw_below_drewN|apply below_drew1)|exact HB.out))) : w.heap.size ≤ d0));clear HB;have HB:= n0_;have b0:= n1_;have q2:= n2_;have g0:= n3_;clear n0_ n1_ n2_ n3_;clear hb hbox hg;have q5 : w5.cell? ⟨d0,0,none⟩ = some (.slice d1 j0.length b1):= (blk_cell b0.out 0).trans rfl;have o5 : w5.cell? ⟨d0,1,none⟩ = some (.slice j1 k0.length g1):= (blk_cell b0.out 1).trans rfl;have m5 : w5.cell? ⟨d0,2,none⟩ = some (.slice q1 m0.length o1):= (blk_cell b0.out 2).trans rfl;have k5:= blk_frozen b0.out 0;have j5:= blk_frozen b0.out 1;have g5:= blk_frozen b0.out 2)|((with_reducible refine gate_callee (f:= 25) rfl ?_);refine goesL_ (some 8) rfl rfl Try.func25 (by kernel_rfl) rfl #[.slice d1 j0.length b1,.int .i64 a1] rfl (by (try simp only [List.map_toArray,List.map_cons,List.map_nil]);first|done|rfl|(simp only [List.length_drop,List.length_take];rfl)) ?_;(with_reducible refine (laws_szIntS.calls _ _ j0 a1 s0 _ ?side1 ?side2 A3.out).mono ?_);(case side1 => exact uc (Kd.C_below s1.out HB.out));(case side2 => exact v1.out);rintro e w' ⟨rfl,⟨nd,rfl⟩⟩;refine ⟨_,rfl,?_⟩))
    go_ret
    exact ⟨by first|rfl|(simp [errW_none,errW_some] <;> rfl)|(simp [*,errW_none,errW_some] <;> rfl),by repeat (first|(with_reducible first|exact HB.out|apply below_alloc|apply pw_below_drewN|apply below_drew1|refine below_set ?_ g0.out)|exact HB.out)⟩
  · rw [if_neg c4] at H
    have j3 : decide (s0 < 0) = false:= decide_eq_false c4
    clear c4
    replace H:= Option.bind_eq_some_iff.mp H
    obtain ⟨q0,A70,H⟩:= H
    replace H : (if q0 < 0 then (some (-1)) else ((laws_szPivotS.f m0 q0).bind fun z0 => (if z0 < 0 then (some (-1)) else (some z0)))) = some r:= H
    have A7:= mk A70
    clear A70
    by_cases c8 : q0 < 0
    · rw [if_pos c8] at H
      have y5 : decide (q0 < 0) = true:= decide_eq_true c8
      clear c8
      obtain rfl:= Option.some.inj H
      go_enter Try.func6,Try.ntmps6
      go_wp2_with (first|((with_reducible refine gate_dst (N:= 2) rfl ?_);refine box_event ?hg (N:= 2) ?hd (cs:= #[.slice d1 j0.length b1,.slice j1 k0.length g1,.slice q1 m0.length o1]) (t:= 25) ?hr ?_;(case hd => rfl);(case hg => rfl);(case hr => first|(go_simp;done)|(go_simp;rfl));intro d0 hg w9 hbox hb;have n0_:= mk (below_step (by repeat (first|(with_reducible first|exact HB.out|apply below_alloc|apply pw_below_drewN|apply below_drew1)|exact HB.out)) hb);have n1_:= mk (hbox);have n2_:= mk ((by rw [hg];exact (below_size (by repeat (first|(with_reducible first|exact HB.out|apply below_alloc|apply pw_below_drewN|apply below_drew1)|exact HB.out))) : w.heap.size ≤ d0));have n3_:= mk ((by rw [hg];exact (below_size (by repeat (first|(with_reducible first|exact HB.out|apply below_alloc|apply pw_below_drewN|apply below_drew1)|exact HB.out))) : w.heap.size ≤ d0));clear HB;have HB:= n0_;have b0:= n1_;have q2:= n2_;have g0:= n3_;clear n0_ n1_ n2_ n3_;clear hb hbox hg;have v4 : w9.cell? ⟨d0,0,none⟩ = some (.slice d1 j0.length b1):= (blk_cell b0.out 0).trans rfl;have s4 : w9.cell? ⟨d0,1,none⟩ = some (.slice j1 k0.length g1):= (blk_cell b0.out 1).trans rfl;have q4 : w9.cell? ⟨d0,2,none⟩ = some (.slice q1 m0.length o1):= (blk_cell b0.out 2).trans rfl;have b4:= blk_frozen b0.out 0;have a4:= blk_frozen b0.out 1;have z3:= blk_frozen b0.out 2)|((with_reducible refine gate_callee (f:= 25) rfl ?_);refine goesL_ (some 8) rfl rfl Try.func25 (by kernel_rfl) rfl #[.slice d1 j0.length b1,.int .i64 a1] rfl (by (try simp only [List.map_toArray,List.map_cons,List.map_nil]);first|done|rfl|(simp only [List.length_drop,List.length_take];rfl)) ?_;(with_reducible refine (laws_szIntS.calls _ _ j0 a1 s0 _ ?side1 ?side2 A3.out).mono ?_);(case side1 => exact uc (Kd.C_below s1.out HB.out));(case side2 => exact v1.out);rintro e w' ⟨rfl,⟨nd,rfl⟩⟩;refine ⟨_,rfl,?_⟩)|((with_reducible refine gate_callee (f:= 25) rfl ?_);refine goesL_ (some 14) rfl rfl Try.func25 (by kernel_rfl) rfl #[.slice j1 k0.length g1,.int .i64 s0] rfl (by (try simp only [List.map_toArray,List.map_cons,List.map_nil]);first|done|rfl|(simp only [List.length_drop,List.length_take];rfl)) ?_;(with_reducible refine (laws_szIntS.calls _ _ k0 s0 q0 _ ?side1 ?side2 A7.out).mono ?_);(case side1 => exact uc (Kd.C_below m2.out (by repeat (first|(with_reducible first|exact HB.out|apply below_alloc|apply pw_below_drewN|apply below_drew1|refine below_set ?_ g0.out)|exact HB.out))));(case side2 => exact o2.out);rintro e w' ⟨rfl,⟨nd,rfl⟩⟩;refine ⟨_,rfl,?_⟩))
      go_ret
      exact ⟨by first|rfl|(simp [errW_none,errW_some] <;> rfl)|(simp [*,errW_none,errW_some] <;> rfl),by repeat (first|(with_reducible first|exact HB.out|apply below_alloc|apply pw_below_drewN|apply below_drew1|refine below_set ?_ g0.out)|exact HB.out)⟩
    · rw [if_neg c8] at H
      have y5 : decide (q0 < 0) = false:= decide_eq_false c8
      clear c8
      replace H:= Option.bind_eq_some_iff.mp H
      obtain ⟨z0,s5,H⟩:= H
      replace H : (if z0 < 0 then (some (-1)) else (some z0)) = some r:= H
      have A11:= mk s5
      clear s5
      by_cases c12 : z0 < 0
      · rw [if_pos c12] at H
        have a5 : decide (z0 < 0) = true:= decide_eq_true c12
        clear c12
        obtain rfl:= Option.some.inj H
        go_enter Try.func6,Try.ntmps6
        go_wp2_with (first|((with_reducible refine gate_dst (N:= 2) rfl ?_);refine box_event ?hg (N:= 2) ?hd (cs:= #[.slice d1 j0.length b1,.slice j1 k0.length g1,.slice q1 m0.length o1]) (t:= 25) ?hr ?_;(case hd => rfl);(case hg => rfl);(case hr => first|(go_simp;done)|(go_simp;rfl));intro d0 hg w13 hbox hb;have n0_:= mk (below_step (by repeat (first|(with_reducible first|exact HB.out|apply below_alloc|apply pw_below_drewN|apply below_drew1)|exact HB.out)) hb);have n1_:= mk (hbox);have n2_:= mk ((by rw [hg];exact (below_size (by repeat (first|(with_reducible first|exact HB.out|apply below_alloc|apply pw_below_drewN|apply below_drew1)|exact HB.out))) : w.heap.size ≤ d0));have n3_:= mk ((by rw [hg];exact (below_size (by repeat (first|(with_reducible first|exact HB.out|apply below_alloc|apply pw_below_drewN|apply below_drew1)|exact HB.out))) : w.heap.size ≤ d0));clear HB;have HB:= n0_;have b0:= n1_;have q2:= n2_;have g0:= n3_;clear n0_ n1_ n2_ n3_;clear hb hbox hg;have o4 : w13.cell? ⟨d0,0,none⟩ = some (.slice d1 j0.length b1):= (blk_cell b0.out 0).trans rfl;have m4 : w13.cell? ⟨d0,1,none⟩ = some (.slice j1 k0.length g1):= (blk_cell b0.out 1).trans rfl;have k4 : w13.cell? ⟨d0,2,none⟩ = some (.slice q1 m0.length o1):= (blk_cell b0.out 2).trans rfl;have y3:= blk_frozen b0.out 0;have s3:= blk_frozen b0.out 1;have q3:= blk_frozen b0.out 2)|((with_reducible refine gate_callee (f:= 25) rfl ?_);refine goesL_ (some 8) rfl rfl Try.func25 (by kernel_rfl) rfl #[.slice d1 j0.length b1,.int .i64 a1] rfl (by (try simp only [List.map_toArray,List.map_cons,List.map_nil]);first|done|rfl|(simp only [List.length_drop,List.length_take];rfl)) ?_;(with_reducible refine (laws_szIntS.calls _ _ j0 a1 s0 _ ?side1 ?side2 A3.out).mono ?_);(case side1 => exact uc (Kd.C_below s1.out HB.out));(case side2 => exact v1.out);rintro e w' ⟨rfl,⟨nd,rfl⟩⟩;refine ⟨_,rfl,?_⟩)|((with_reducible refine gate_callee (f:= 25) rfl ?_);refine goesL_ (some 14) rfl rfl Try.func25 (by kernel_rfl) rfl #[.slice j1 k0.length g1,.int .i64 s0] rfl (by (try simp only [List.map_toArray,List.map_cons,List.map_nil]);first|done|rfl|(simp only [List.length_drop,List.length_take];rfl)) ?_;(with_reducible refine (laws_szIntS.calls _ _ k0 s0 q0 _ ?side1 ?side2 A7.out).mono ?_);(case side1 => exact uc (Kd.C_below m2.out (by repeat (first|(with_reducible first|exact HB.out|apply below_alloc|apply pw_below_drewN|apply below_drew1|refine below_set ?_ g0.out)|exact HB.out))));(case side2 => exact o2.out);rintro e w' ⟨rfl,⟨nd,rfl⟩⟩;refine ⟨_,rfl,?_⟩)|((with_reducible refine gate_callee (f:= 26) rfl ?_);refine goesL_ (some 20) rfl rfl Try.func26 (by kernel_rfl) rfl #[.slice q1 m0.length o1,.int .i64 q0] rfl (by (try simp only [List.map_toArray,List.map_cons,List.map_nil]);first|done|rfl|(simp only [List.length_drop,List.length_take];rfl)) ?_;(with_reducible refine (laws_szPivotS.calls _ _ m0 q0 z0 _ ?side1 ?side2 A11.out).mono ?_);(case side1 => exact uc (Kd.C_below b3.out (by repeat (first|(with_reducible first|exact HB.out|apply below_alloc|apply pw_below_drewN|apply below_drew1|refine below_set ?_ g0.out)|exact HB.out))));(case side2 => exact d3.out);rintro e w' ⟨rfl,⟨nd,rfl⟩⟩;refine ⟨_,rfl,?_⟩))
        go_ret
        exact ⟨by first|rfl|(simp [errW_none,errW_some] <;> rfl)|(simp [*,errW_none,errW_some] <;> rfl),by repeat (first|(with_reducible first|exact HB.out|apply below_alloc|apply pw_below_drewN|apply below_drew1|refine below_set ?_ g0.out)|exact HB.out)⟩
      · rw [if_neg c12] at H
        have a5 : decide (z0 < 0) = false:= decide_eq_false c12
        clear c12
        obtain rfl:= Option.some.inj H
        go_enter Try.func6,Try.ntmps6
        go_wp2_with (first|((with_reducible refine gate_dst (N:= 2) rfl ?_);refine box_event ?hg (N:= 2) ?hd (cs:= #[.slice d1 j0.length b1,.slice j1 k0.length g1,.slice q1 m0.length o1]) (t:= 25) ?hr ?_;(case hd => rfl);(case hg => rfl);(case hr => first|(go_simp;done)|(go_simp;rfl));intro d0 hg w15 hbox hb;have n0_:= mk (below_step (by repeat (first|(with_reducible first|exact HB.out|apply below_alloc|apply pw_below_drewN|apply below_drew1)|exact HB.out)) hb);have n1_:= mk (hbox);have n2_:= mk ((by rw [hg];exact (below_size (by repeat (first|(with_reducible first|exact HB.out|apply below_alloc|apply pw_below_drewN|apply below_drew1)|exact HB.out))) : w.heap.size ≤ d0));have n3_:= mk ((by rw [hg];exact (below_size (by repeat (first|(with_reducible first|exact HB.out|apply below_alloc|apply pw_below_drewN|apply below_drew1)|exact HB.out))) : w.heap.size ≤ d0));clear HB;have HB:= n0_;have b0:= n1_;have q2:= n2_;have g0:= n3_;clear n0_ n1_ n2_ n3_;clear hb hbox hg;have j4 : w15.cell? ⟨d0,0,none⟩ = some (.slice d1 j0.length b1):= (blk_cell b0.out 0).trans rfl;have g4 : w15.cell? ⟨d0,1,none⟩ = some (.slice j1 k0.length g1):= (blk_cell b0.out 1).trans rfl;have d4 : w15.cell? ⟨d0,2,none⟩ = some (.slice q1 m0.length o1):= (blk_cell b0.out 2).trans rfl;have o3:= blk_frozen b0.out 0;have m3:= blk_frozen b0.out 1;have k3:= blk_frozen b0.out 2)|((with_reducible refine gate_callee (f:= 25) rfl ?_);refine goesL_ (some 8) rfl rfl Try.func25 (by kernel_rfl) rfl #[.slice d1 j0.length b1,.int .i64 a1] rfl (by (try simp only [List.map_toArray,List.map_cons,List.map_nil]);first|done|rfl|(simp only [List.length_drop,List.length_take];rfl)) ?_;(with_reducible refine (laws_szIntS.calls _ _ j0 a1 s0 _ ?side1 ?side2 A3.out).mono ?_);(case side1 => exact uc (Kd.C_below s1.out HB.out));(case side2 => exact v1.out);rintro e w' ⟨rfl,⟨nd,rfl⟩⟩;refine ⟨_,rfl,?_⟩)|((with_reducible refine gate_callee (f:= 25) rfl ?_);refine goesL_ (some 14) rfl rfl Try.func25 (by kernel_rfl) rfl #[.slice j1 k0.length g1,.int .i64 s0] rfl (by (try simp only [List.map_toArray,List.map_cons,List.map_nil]);first|done|rfl|(simp only [List.length_drop,List.length_take];rfl)) ?_;(with_reducible refine (laws_szIntS.calls _ _ k0 s0 q0 _ ?side1 ?side2 A7.out).mono ?_);(case side1 => exact uc (Kd.C_below m2.out (by repeat (first|(with_reducible first|exact HB.out|apply below_alloc|apply pw_below_drewN|apply below_drew1|refine below_set ?_ g0.out)|exact HB.out))));(case side2 => exact o2.out);rintro e w' ⟨rfl,⟨nd,rfl⟩⟩;refine ⟨_,rfl,?_⟩)|((with_reducible refine gate_callee (f:= 26) rfl ?_);refine goesL_ (some 20) rfl rfl Try.func26 (by kernel_rfl) rfl #[.slice q1 m0.length o1,.int .i64 q0] rfl (by (try simp only [List.map_toArray,List.map_cons,List.map_nil]);first|done|rfl|(simp only [List.length_drop,List.length_take];rfl)) ?_;(with_reducible refine (laws_szPivotS.calls _ _ m0 q0 z0 _ ?side1 ?side2 A11.out).mono ?_);(case side1 => exact uc (Kd.C_below b3.out (by repeat (first|(with_reducible first|exact HB.out|apply below_alloc|apply pw_below_drewN|apply below_drew1|refine below_set ?_ g0.out)|exact HB.out))));(case side2 => exact d3.out);rintro e w' ⟨rfl,⟨nd,rfl⟩⟩;refine ⟨_,rfl,?_⟩))
        go_ret
        exact ⟨by first|rfl|(simp [errW_none,errW_some] <;> rfl)|(simp [*,errW_none,errW_some] <;> rfl),by repeat (first|(with_reducible first|exact HB.out|apply below_alloc|apply pw_below_drewN|apply below_drew1|refine below_set ?_ g0.out)|exact HB.out)⟩

/-! ### spec_l1In: function 54 -/
def spec_l1In.f (a0 : Int) (a1 : Int) (a2 : Int) : Option (Bool) := if a0 ≥ a1 then (some (decide (a0 ≤ a2))) else (some false)
set_option maxHeartbeats 8000000 in
set_option maxRecDepth 100000 in
theorem spec_l1In.calls (a0 : Int) (a1 : Int) (a2 : Int) (r : Bool) (w : World) (h : spec_l1In.f a0 a1 a2 = some r) :
    Calls Try.prog 54 #[.int .i64 a0, .int .i64 a1, .int .i64 a2] w fun e w' => e = .returned (.bool r) ∧ Drawn0 w w' := by
  have H : (if a0 ≥ a1 then (some (decide (a0 ≤ a2))) else (some false)) = some r:= h
  clear h
  by_cases c4 : a0 ≥ a1
  · rw [if_pos c4] at H
    have j3 : decide (a1 ≤ a0) = true:= decide_eq_true c4
    clear c4
    obtain rfl:= Option.some.inj H
    go_enter Try.func54,Try.ntmps54
    go_wp2
    go_ret
    exact ⟨by first|rfl|(simp;done)|(simp [*];done),by repeat (first|exact Drawn0.refl _|apply Drawn0.step)⟩
  · rw [if_neg c4] at H
    have j3 : decide (a1 ≤ a0) = false:= decide_eq_false c4
    clear c4
    obtain rfl:= Option.some.inj H
    go_enter Try.func54,Try.ntmps54
    go_wp2
    go_ret
    exact ⟨by first|rfl|(simp;done)|(simp [*];done),by repeat (first|exact Drawn0.refl _|apply Drawn0.step)⟩

/-! ### spec_AreValues: function 53 -/
def spec_AreValues.l0 : Nat → List Int → Int → Option (Bool)
  | 0, _, _ => none
  | k + 1, x0, x3 => if x3 < (x0.length : Int) then (if 0 ≤ x3 then ((spec_l1In.f (rd x0 x3) (-999) 999).bind fun g3 => (if g3 = true then (spec_AreValues.l0 k x0 (wrap64 (x3 + 1))) else (some false))) else (none)) else (some (decide ((x0.length : Int) ≤ 64)))
def spec_AreValues.f (k : Nat) (l0 : List Int) : Option (Bool) := spec_AreValues.l0 k l0 0
theorem spec_AreValues.mono_l : ∀ k, (∀ y0 y1, LeO (spec_AreValues.l0 k y0 y1) (spec_AreValues.l0 (k + 1) y0 y1))
  | 0 => fun _ _ r h => by simp [spec_AreValues.l0] at h
  | k + 1 => by
    have ih0 := spec_AreValues.mono_l k
    · intro y0 y1
      unfold spec_AreValues.l0
      repeat' first
      | (with_reducible exact ih0 _ _)
      | (with_reducible exact LeO.refl _)
      | (with_reducible exact LeO.none _)
      | (with_reducible refine LeO.ite ?_ ?_)
      | (with_reducible refine LeO.bind ?_ (fun _ => ?_))
      | exact ih0 _ _
      | exact LeO.none _
      | refine LeO.ite ?_ ?_
      | refine LeO.bind ?_ (fun _ => ?_)
theorem spec_AreValues.mono : ∀ a0 k, LeO (spec_AreValues.f k a0) (spec_AreValues.f (k + 1) a0) := by
  intro a0 k
  have ih0:= spec_AreValues.mono_l k
  unfold spec_AreValues.f
  repeat' first
     |(with_reducible exact ih0 _ _)
     |(with_reducible exact LeO.refl _)
     |(with_reducible exact LeO.none _)
     |(with_reducible refine LeO.ite ?_ ?_)
     |(with_reducible refine LeO.bind ?_ (fun _ => ?_))
     |exact ih0 _ _
     |exact LeO.none _
     |refine LeO.ite ?_ ?_
     |refine LeO.bind ?_ (fun _ => ?_)
set_option maxHeartbeats 8000000 in
set_option maxRecDepth 100000 in
theorem spec_AreValues.calls (k : Nat) (A0 : Option Addr) (c0 : Nat) (l0 : List Int) (r : Bool) (w : World) (hr0 : Kd.C (Kd.int .i64) w A0 l0.length l0) (hc0 : l0.length ≤ c0) (h : spec_AreValues.f k l0 = some r) :
    Calls Try.prog 53 #[.slice A0 l0.length c0] w fun e w' => e = .returned (.bool r) ∧ Drawn0 w w' := by
  have HR0:= mk hr0
  have HC0:= mk hc0
  clear hr0 hc0
  have H : (spec_AreValues.l0 k l0 0) = some r:= h
  clear h
  have H':= mk H
  clear H
  go_enter Try.func53,Try.ntmps53
  go_wp2
  go_loopg [3] k (fun kq v3 w' => ∃ (o0 : Int),v3 = .int .i64 o0 ∧ Aside0 (spec_AreValues.l0 kq l0 o0 = some r) ∧ Aside0 (kq ≤ k) ∧ Drawn0 w w')
  case atStart => exact ⟨(0),(by first|rfl|(simp;done)|(simp [*];done)),H',⟨Nat.le_refl _⟩,by repeat (first|exact Drawn0.refl _|apply Drawn0.step)⟩
  case round =>
    clear H'
    obtain ⟨o0,rfl,HA,HK1,⟨m1,rfl⟩⟩:= hrel
    cases gk with
   |zero => exact absurd HA.out (by simp [spec_AreValues.l0])
   |succ k1 =>
      have H:= HA.out
      clear HA
      simp only [spec_AreValues.l0] at H
      by_cases c2 : o0 < (l0.length : Int)
      · rw [if_pos c2] at H
        have b6 : decide (o0 < (l0.length : Int)) = true:= decide_eq_true c2
        clear c2
        by_cases c3 : 0 ≤ o0
        · rw [if_pos c3] at H
          have s2 : decide (0 ≤ o0) = true:= decide_eq_true c3
          clear c3
          replace H:= Option.bind_eq_some_iff.mp H
          obtain ⟨g3,A40,H⟩:= H
          replace H : (if g3 = true then (spec_AreValues.l0 k1 l0 (wrap64 (o0 + 1))) else (some false)) = some r:= H
          have A4:= mk A40
          clear A40
          by_cases c5 : g3 = true
          · subst c5
            have H1 : (spec_AreValues.l0 k1 l0 (wrap64 (o0 + 1))) = some r:= by rw [if_pos rfl] at H;exact H
            clear H
            have H:= H1
            clear H1
            have H':= mk H
            clear H
            have g2 : 0 ≤ (o0 : Int):= of_decide_eq_true (by first|(with_reducible assumption)|assumption)
            have b2 : o0 < (l0.length : Int):= of_decide_eq_true (by first|(with_reducible assumption)|assumption)
            obtain ⟨d5,z4,k2⟩:= Kd.at_int HR0.out o0 g2 b2
            cases z4
            replace g2:= eq_true g2
            replace b2:= eq_true b2
            go_wp2_with (first|((with_reducible refine gate_callee (f:= 54) rfl ?_);refine goesL_ (some 14) rfl rfl Try.func54 (by kernel_rfl) rfl #[.int .i64 (rd l0 o0),.int .i64 (-999),.int .i64 999] rfl (by (try simp only [List.map_toArray,List.map_cons,List.map_nil]);first|done|rfl|(simp only [List.length_drop,List.length_take];rfl)) ?_;(with_reducible refine (spec_l1In.calls (rd l0 o0) (-999) 999 true _ A4.out).mono ?_);rintro e w' ⟨rfl,⟨nd,rfl⟩⟩;refine ⟨_,rfl,?_⟩))
            go_roundg k1
            case measure => have:= HK1.out;omega
            case rel => exact ⟨(wrap64 (o0 + 1)),(by first|rfl|(simp;done)|(simp [*];done)),H',⟨by have:= HK1.out;omega⟩,by repeat (first|exact Drawn0.refl _|apply Drawn0.step)⟩
          · replace c5:= Bool.eq_false_iff.mpr c5
            subst c5
            have H1 : (some false) = some r:= by rw [if_neg (show ¬ (false = true) by decide)] at H;exact H
            clear H
            have H:= H1
            clear H1
            obtain rfl:= Option.some.inj H
            have g2 : 0 ≤ (o0 : Int):= of_decide_eq_true (by first|(with_reducible assumption)|assumption)
            have b2 : o0 < (l0.length : Int):= of_decide_eq_true (by first|(with_reducible assumption)|assumption)
            obtain ⟨d5,z4,k2⟩:= Kd.at_int HR0.out o0 g2 b2
            cases z4
            replace g2:= eq_true g2
            replace b2:= eq_true b2
            go_wp2_with (first|((with_reducible refine gate_callee (f:= 54) rfl ?_);refine goesL_ (some 14) rfl rfl Try.func54 (by kernel_rfl) rfl #[.int .i64 (rd l0 o0),.int .i64 (-999),.int .i64 999] rfl (by (try simp only [List.map_toArray,List.map_cons,List.map_nil]);first|done|rfl|(simp only [List.length_drop,List.length_take];rfl)) ?_;(with_reducible refine (spec_l1In.calls (rd l0 o0) (-999) 999 false _ A4.out).mono ?_);rintro e w' ⟨rfl,⟨nd,rfl⟩⟩;refine ⟨_,rfl,?_⟩))
            go_ret
            exact ⟨by first|rfl|(simp;done)|(simp [*];done),by repeat (first|exact Drawn0.refl _|apply Drawn0.step)⟩
        · rw [if_neg c3] at H
          exact absurd H (by simp)
      · rw [if_neg c2] at H
        have b6 : decide (o0 < (l0.length : Int)) = false:= decide_eq_false c2
        clear c2
        obtain rfl:= Option.some.inj H
        go_wp2
        go_ret
        exact ⟨by first|rfl|(simp;done)|(simp [*];done),by repeat (first|exact Drawn0.refl _|apply Drawn0.step)⟩

/-! ### spec_l4Has: function 55 -/
def spec_l4Has.l0 : Nat → List Int → Int → Int → Option (Bool)
  | 0, _, _, _ => none
  | k + 1, x0, x1, x5 => if x5 < (x0.length : Int) then (if 0 ≤ x5 then (if (rd x0 x5) = x1 then (some true) else (spec_l4Has.l0 k x0 x1 (wrap64 (x5 + 1)))) else (none)) else (some false)
def spec_l4Has.f (k : Nat) (l0 : List Int) (a1 : Int) : Option (Bool) := spec_l4Has.l0 k l0 a1 0
theorem spec_l4Has.mono_l : ∀ k, (∀ y0 y1 y2, LeO (spec_l4Has.l0 k y0 y1 y2) (spec_l4Has.l0 (k + 1) y0 y1 y2))
  | 0 => fun _ _ _ r h => by simp [spec_l4Has.l0] at h
  | k + 1 => by
    have ih0 := spec_l4Has.mono_l k
    · intro y0 y1 y2
      unfold spec_l4Has.l0
      repeat' first
      | (with_reducible exact ih0 _ _ _)
      | (with_reducible exact LeO.refl _)
      | (with_reducible exact LeO.none _)
      | (with_reducible refine LeO.ite ?_ ?_)
      | (with_reducible refine LeO.bind ?_ (fun _ => ?_))
      | exact ih0 _ _ _
      | exact LeO.none _
      | refine LeO.ite ?_ ?_
      | refine LeO.bind ?_ (fun _ => ?_)
theorem spec_l4Has.mono : ∀ a0 a1 k, LeO (spec_l4Has.f k a0 a1) (spec_l4Has.f (k + 1) a0 a1) := by
  intro a0 a1 k
  have ih0:= spec_l4Has.mono_l k
  unfold spec_l4Has.f
  repeat' first
     |(with_reducible exact ih0 _ _ _)
     |(with_reducible exact LeO.refl _)
     |(with_reducible exact LeO.none _)
     |(with_reducible refine LeO.ite ?_ ?_)
     |(with_reducible refine LeO.bind ?_ (fun _ => ?_))
     |exact ih0 _ _ _
     |exact LeO.none _
     |refine LeO.ite ?_ ?_
     |refine LeO.bind ?_ (fun _ => ?_)
set_option maxHeartbeats 8000000 in
set_option maxRecDepth 100000 in
theorem spec_l4Has.calls (k : Nat) (A0 : Option Addr) (c0 : Nat) (l0 : List Int) (a1 : Int) (r : Bool) (w : World) (hr0 : Kd.C (Kd.int .i64) w A0 l0.length l0) (hc0 : l0.length ≤ c0) (h : spec_l4Has.f k l0 a1 = some r) :
    Calls Try.prog 55 #[.slice A0 l0.length c0, .int .i64 a1] w fun e w' => e = .returned (.bool r) ∧ Drawn0 w w' := by
  have HR0:= mk hr0
  have HC0:= mk hc0
  clear hr0 hc0
  have H : (spec_l4Has.l0 k l0 a1 0) = some r:= h
  clear h
  have H':= mk H
  clear H
  go_enter Try.func55,Try.ntmps55
  go_wp2
  go_loopg [5] k (fun kq v5 w' => ∃ (v0 : Int),v5 = .int .i64 v0 ∧ Aside0 (spec_l4Has.l0 kq l0 a1 v0 = some r) ∧ Aside0 (kq ≤ k) ∧ Drawn0 w w')
  case atStart => exact ⟨(0),(by first|rfl|(simp;done)|(simp [*];done)),H',⟨Nat.le_refl _⟩,by repeat (first|exact Drawn0.refl _|apply Drawn0.step)⟩
  case round =>
    clear H'
    try clear p2
    obtain ⟨v0,rfl,HA,HK1,⟨m1,rfl⟩⟩:= hrel
    cases gk with
   |zero => exact absurd HA.out (by simp [spec_l4Has.l0])
   |succ k1 =>
      have H:= HA.out
      clear HA
      simp only [spec_l4Has.l0] at H
      by_cases c3 : v0 < (l0.length : Int)
      · rw [if_pos c3] at H
        have s2 : decide (v0 < (l0.length : Int)) = true:= decide_eq_true c3
        clear c3
        by_cases c4 : 0 ≤ v0
        · rw [if_pos c4] at H
          have j3 : decide (0 ≤ v0) = true:= decide_eq_true c4
          clear c4
          by_cases c5 : (rd l0 v0) = a1
          · rw [if_pos c5] at H
            have a6 : ((rd l0 v0) == a1) = true:= beq_iff_eq.mpr c5
            have z5 : ((rd l0 v0) != a1) = false:= bne_eq_false_iff_eq.mpr c5
            clear c5
            obtain rfl:= Option.some.inj H
            have d2 : 0 ≤ (v0 : Int):= of_decide_eq_true (by first|(with_reducible assumption)|assumption)
            have z1 : v0 < (l0.length : Int):= of_decide_eq_true (by first|(with_reducible assumption)|assumption)
            obtain ⟨b5,y4,j2⟩:= Kd.at_int HR0.out v0 d2 z1
            cases y4
            replace d2:= eq_true d2
            replace z1:= eq_true z1
            go_wp2
            go_ret
            exact ⟨by first|rfl|(simp;done)|(simp [*];done),by repeat (first|exact Drawn0.refl _|apply Drawn0.step)⟩
          · rw [if_neg c5] at H
            have a6 : ((rd l0 v0) == a1) = false:= beq_eq_false_iff_ne.mpr c5
            have z5 : ((rd l0 v0) != a1) = true:= bne_iff_ne.mpr c5
            have H':= mk H
            clear H
            have d2 : 0 ≤ (v0 : Int):= of_decide_eq_true (by first|(with_reducible assumption)|assumption)
            have z1 : v0 < (l0.length : Int):= of_decide_eq_true (by first|(with_reducible assumption)|assumption)
            obtain ⟨b5,y4,j2⟩:= Kd.at_int HR0.out v0 d2 z1
            cases y4
            replace d2:= eq_true d2
            replace z1:= eq_true z1
            go_wp2
            go_roundg k1
            case measure => have:= HK1.out;omega
            case rel => exact ⟨(wrap64 (v0 + 1)),(by first|rfl|(simp;done)|(simp [*];done)),H',⟨by have:= HK1.out;omega⟩,by repeat (first|exact Drawn0.refl _|apply Drawn0.step)⟩
        · rw [if_neg c4] at H
          exact absurd H (by simp)
      · rw [if_neg c3] at H
        have s2 : decide (v0 < (l0.length : Int)) = false:= decide_eq_false c3
        clear c3
        obtain rfl:= Option.some.inj H
        go_wp2
        go_ret
        exact ⟨by first|rfl|(simp;done)|(simp [*];done),by repeat (first|exact Drawn0.refl _|apply Drawn0.step)⟩

end Go.Proofs.Ytlikcmonejefoab.PFnExactRippleDelete
