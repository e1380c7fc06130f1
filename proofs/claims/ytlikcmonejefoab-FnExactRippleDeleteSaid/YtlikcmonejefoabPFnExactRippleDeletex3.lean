-- printed by a program of this session, a turned copy of the print of the kit
import Derived.Test.YtlikcmonejefoabSq
import Derived.Test.YtlikcmonejefoabPFnExactRippleDeletex0
import Derived.Test.YtlikcmonejefoabPFnExactRippleDeletex1
import Derived.Test.YtlikcmonejefoabPFnExactRippleDeletex2
namespace Go.Proofs.Ytlikcmonejefoab.PFnExactRippleDelete
open Go.RowKit Go.Proofs.YtlikcmonejefoabW.PrintWords Go.Proofs.YtlikcmonejefoabW.PrintLast Go.Proofs.YtlikcmonejefoabW.PrintMore Go.Proofs.Ytlikcmonejefoab.Sq
attribute [local go_sem] max2_int min2_int max_two min_two max_three min_three max_four min_four Giv.cell_twice   -- for this text's walks alone
set_option linter.unusedVariables false
set_option linter.unusedSimpArgs false

/-! ### spec_IsCracker: function 23 -/
mutual
def spec_IsCracker.j0 : Nat → Bool → List Int → List Int → List (S50) → Option (Bool)
  | 0, _, _, _, _ => none
  | k + 1, x16, b3, d1, z2 => if x16 = true then (some false) else (spec_IsCracker.l0 k 0 b3 d1 z2)
def spec_IsCracker.l0 : Nat → Int → List Int → List Int → List (S50) → Option (Bool)
  | 0, _, _, _, _ => none
  | k + 1, x3, b3, d1, z2 => if x3 < (d1.length : Int) then (if 0 ≤ x3 then ((spec_l1In.f (rd d1 x3) 0 999).bind fun m6 => (if m6 = true then (if x3 ≤ (d1.length : Int) then ((spec_l4Has.f k (d1.take (x3 : Int).toNat) (rd d1 x3)).bind fun b5 => (if b5 = true then (some false) else (spec_IsCracker.l0 k (wrap64 (x3 + 1)) b3 d1 z2))) else (none)) else (some false))) else (none)) else ((spec_l4Pivots.f k b3 z2).bind fun d6 => (some d6))
end
def spec_IsCracker.f (k : Nat) (m0 : List Int) (b0 : List Int) (q0 : List (S50)) : Option (Bool) := (spec_AreValues.f k m0).bind fun g6 => (if g6 = true then (spec_IsCracker.j0 k ((b0.length : Int) != (m0.length : Int)) m0 b0 q0) else (spec_IsCracker.j0 k true m0 b0 q0))
theorem spec_IsCracker.mono_l : ∀ k, (∀ y0 y1 y2 y3, LeO (spec_IsCracker.j0 k y0 y1 y2 y3) (spec_IsCracker.j0 (k + 1) y0 y1 y2 y3)) ∧ (∀ y0 y1 y2 y3, LeO (spec_IsCracker.l0 k y0 y1 y2 y3) (spec_IsCracker.l0 (k + 1) y0 y1 y2 y3))
  | 0 => ⟨fun _ _ _ _ r h => by simp [spec_IsCracker.j0] at h, fun _ _ _ _ r h => by simp [spec_IsCracker.l0] at h⟩
  | k + 1 => by
    obtain ⟨ih0, ih1⟩ := spec_IsCracker.mono_l k
    refine ⟨?_, ?_⟩
    · intro y0 y1 y2 y3
      unfold spec_IsCracker.j0
      repeat' first
      | (with_reducible exact ih0 _ _ _ _)
      | (with_reducible exact ih1 _ _ _ _)
      | (with_reducible exact spec_AreValues.mono _ _)
      | (with_reducible exact spec_l4Has.mono _ _ _)
      | (with_reducible exact spec_l4Pivots.mono _ _ _)
      | (with_reducible exact LeO.refl _)
      | (with_reducible exact LeO.none _)
      | (with_reducible refine LeO.ite ?_ ?_)
      | (with_reducible refine LeO.bind ?_ (fun _ => ?_))
      | exact ih0 _ _ _ _
      | exact ih1 _ _ _ _
      | exact spec_AreValues.mono _ _
      | exact spec_l4Has.mono _ _ _
      | exact spec_l4Pivots.mono _ _ _
      | exact LeO.none _
      | refine LeO.ite ?_ ?_
      | refine LeO.bind ?_ (fun _ => ?_)
    · intro y0 y1 y2 y3
      unfold spec_IsCracker.l0
      repeat' first
      | (with_reducible exact ih0 _ _ _ _)
      | (with_reducible exact ih1 _ _ _ _)
      | (with_reducible exact spec_AreValues.mono _ _)
      | (with_reducible exact spec_l4Has.mono _ _ _)
      | (with_reducible exact spec_l4Pivots.mono _ _ _)
      | (with_reducible exact LeO.refl _)
      | (with_reducible exact LeO.none _)
      | (with_reducible refine LeO.ite ?_ ?_)
      | (with_reducible refine LeO.bind ?_ (fun _ => ?_))
      | exact ih0 _ _ _ _
      | exact ih1 _ _ _ _
      | exact spec_AreValues.mono _ _
      | exact spec_l4Has.mono _ _ _
      | exact spec_l4Pivots.mono _ _ _
      | exact LeO.none _
      | refine LeO.ite ?_ ?_
      | refine LeO.bind ?_ (fun _ => ?_)
theorem spec_IsCracker.mono : ∀ a0 a1 a2 k, LeO (spec_IsCracker.f k a0 a1 a2) (spec_IsCracker.f (k + 1) a0 a1 a2) := by
  intro a0 a1 a2 k
  obtain ⟨ih0,ih1⟩:= spec_IsCracker.mono_l k
  unfold spec_IsCracker.f
  repeat' first
     |(with_reducible exact ih0 _ _ _ _)
     |(with_reducible exact ih1 _ _ _ _)
     |(with_reducible exact spec_AreValues.mono _ _)
     |(with_reducible exact spec_l4Has.mono _ _ _)
     |(with_reducible exact spec_l4Pivots.mono _ _ _)
     |(with_reducible exact LeO.refl _)
     |(with_reducible exact LeO.none _)
     |(with_reducible refine LeO.ite ?_ ?_)
     |(with_reducible refine LeO.bind ?_ (fun _ => ?_))
     |exact ih0 _ _ _ _
     |exact ih1 _ _ _ _
     |exact spec_AreValues.mono _ _
     |exact spec_l4Has.mono _ _ _
     |exact spec_l4Pivots.mono _ _ _
     |exact LeO.none _
     |refine LeO.ite ?_ ?_
     |refine LeO.bind ?_ (fun _ => ?_)
set_option maxHeartbeats 8000000 in
set_option maxRecDepth 100000 in
theorem spec_IsCracker.calls (k : Nat) (b2 : Option Addr) (s1 : Nat) (m0 : List Int) (z1 : Option Addr) (j1 : Nat) (b0 : List Int) (v1 : Option Addr) (q1 : Nat) (q0 : List (S50)) (r : Bool) (w : World) (b4 : Kd.C (Kd.int .i64) w b2 m0.length m0) (hc0_0 : m0.length ≤ s1) (a4 : Kd.C (Kd.int .i64) w z1 b0.length b0) (hc0_1 : b0.length ≤ j1) (z3 : Kd.C k50 w v1 q0.length q0) (hc0_2 : q0.length ≤ q1) (h : spec_IsCracker.f k m0 b0 q0 = some r) :
    Calls Try.prog 23 #[.agg #[.slice b2 m0.length s1, .slice z1 b0.length j1, .slice v1 q0.length q1]] w fun e w' => e = .returned (.bool r) ∧ Below w.heap.size w w' := by
  have hu29:= Try.underlying29
  have q2:= mk b4
  have s2:= mk hc0_0
  clear b4 hc0_0
  have b1:= mk a4
  have o3:= mk hc0_1
  clear a4 hc0_1
  have v4:= mk z3
  have z4:= mk hc0_2
  clear z3 hc0_2
  have HB:= mk (Below.refl w.heap.size w)
  have H : ((spec_AreValues.f k m0).bind fun g6 => (if g6 = true then (spec_IsCracker.j0 k ((b0.length : Int) != (m0.length : Int)) m0 b0 q0) else (spec_IsCracker.j0 k true m0 b0 q0))) = some r:= h
  clear h
  have HC2:= mk H
  clear H
  go_enter Try.func23,Try.ntmps23
  go_upto_region 1 with (first|((with_reducible refine gate_dst (N:= 1) rfl ?_);(try (refine gate_guard (by rfl) ?_;dsimp only));refine box_event ?hg (N:= 1) ?hd (cs:= #[.slice b2 m0.length s1,.slice z1 b0.length j1,.slice v1 q0.length q1]) (t:= 29) ?hr ?_;(case hd => rfl);(case hg => rfl);(case hr => first|(go_simp;done)|(go_simp;rfl));intro o0 hg w3 hbox hb;have n0_:= mk (below_step (by repeat (first|(with_reducible first|exact HB.out|apply below_alloc|apply pw_below_drewN|apply below_drew1)|exact HB.out)) hb);have n1_:= mk (hbox);have n2_:= mk ((by rw [hg];exact (below_size (by repeat (first|(with_reducible first|exact HB.out|apply below_alloc|apply pw_below_drewN|apply below_drew1)|exact HB.out))) : w.heap.size ≤ o0));have n3_:= mk ((by rw [hg];exact (below_size (by repeat (first|(with_reducible first|exact HB.out|apply below_alloc|apply pw_below_drewN|apply below_drew1)|exact HB.out))) : w.heap.size ≤ o0));clear HB;have HB:= n0_;have d0:= n1_;have k6:= n2_;have z0:= n3_;clear n0_ n1_ n2_ n3_;clear hb hbox hg))
  repeat (go_quiet (first|((with_reducible refine gate_dst (N:= 1) rfl ?_);(try (refine gate_guard (by rfl) ?_;dsimp only));refine box_event ?hg (N:= 1) ?hd (cs:= #[.slice b2 m0.length s1,.slice z1 b0.length j1,.slice v1 q0.length q1]) (t:= 29) ?hr ?_;(case hd => rfl);(case hg => rfl);(case hr => first|(go_simp;done)|(go_simp;rfl));intro o0 hg w3 hbox hb;have n0_:= mk (below_step (by repeat (first|(with_reducible first|exact HB.out|apply below_alloc|apply pw_below_drewN|apply below_drew1)|exact HB.out)) hb);have n1_:= mk (hbox);have n2_:= mk ((by rw [hg];exact (below_size (by repeat (first|(with_reducible first|exact HB.out|apply below_alloc|apply pw_below_drewN|apply below_drew1)|exact HB.out))) : w.heap.size ≤ o0));have n3_:= mk ((by rw [hg];exact (below_size (by repeat (first|(with_reducible first|exact HB.out|apply below_alloc|apply pw_below_drewN|apply below_drew1)|exact HB.out))) : w.heap.size ≤ o0));clear HB;have HB:= n0_;have d0:= n1_;have k6:= n2_;have z0:= n3_;clear n0_ n1_ n2_ n3_;clear hb hbox hg));go_upto_region 1 with (first|((with_reducible refine gate_dst (N:= 1) rfl ?_);(try (refine gate_guard (by rfl) ?_;dsimp only));refine box_event ?hg (N:= 1) ?hd (cs:= #[.slice b2 m0.length s1,.slice z1 b0.length j1,.slice v1 q0.length q1]) (t:= 29) ?hr ?_;(case hd => rfl);(case hg => rfl);(case hr => first|(go_simp;done)|(go_simp;rfl));intro o0 hg w3 hbox hb;have n0_:= mk (below_step (by repeat (first|(with_reducible first|exact HB.out|apply below_alloc|apply pw_below_drewN|apply below_drew1)|exact HB.out)) hb);have n1_:= mk (hbox);have n2_:= mk ((by rw [hg];exact (below_size (by repeat (first|(with_reducible first|exact HB.out|apply below_alloc|apply pw_below_drewN|apply below_drew1)|exact HB.out))) : w.heap.size ≤ o0));have n3_:= mk ((by rw [hg];exact (below_size (by repeat (first|(with_reducible first|exact HB.out|apply below_alloc|apply pw_below_drewN|apply below_drew1)|exact HB.out))) : w.heap.size ≤ o0));clear HB;have HB:= n0_;have d0:= n1_;have k6:= n2_;have z0:= n3_;clear n0_ n1_ n2_ n3_;clear hb hbox hg)))
  (try simp only [Act.put,List.setIfInBounds_toArray,List.set_cons_zero,List.set_cons_succ])
  go_cut [16] (fun v16 wc => ∃ (kq : Nat) (s4 : Bool),v16 = .bool s4 ∧ Aside0 (spec_IsCracker.j0 kq s4 m0 b0 q0 = some r) ∧ Aside0 (kq ≤ k) ∧ Aside0 (wc.heap[o0]? = some (.cells #[(.slice b2 m0.length s1),(.slice z1 b0.length j1),(.slice v1 q0.length q1)] 29 (0,0))) ∧ Aside0 (Below w.heap.size w wc))
  case first =>
    have H:= HC2.out
    clear HC2
    replace H:= Option.bind_eq_some_iff.mp H
    obtain ⟨g6,A40,H⟩:= H
    replace H : (if g6 = true then (spec_IsCracker.j0 k ((b0.length : Int) != (m0.length : Int)) m0 b0 q0) else (spec_IsCracker.j0 k true m0 b0 q0)) = some r:= H
    have A4:= mk A40
    clear A40
    by_cases c5 : g6 = true
    · subst c5
      have H1 : (spec_IsCracker.j0 k ((b0.length : Int) != (m0.length : Int)) m0 b0 q0) = some r:= by rw [if_pos rfl] at H;exact H
      clear H
      have H:= H1
      clear H1
      have H':= mk H
      clear H
      have o5 : w3.cell? ⟨o0,0,none⟩ = some (.slice b2 m0.length s1):= (blk_cell d0.out 0).trans rfl
      have m5 : w3.cell? ⟨o0,1,none⟩ = some (.slice z1 b0.length j1):= (blk_cell d0.out 1).trans rfl
      have k5 : w3.cell? ⟨o0,2,none⟩ = some (.slice v1 q0.length q1):= (blk_cell d0.out 2).trans rfl
      have j5:= blk_frozen d0.out 0
      have g5:= blk_frozen d0.out 1
      have d5:= blk_frozen d0.out 2
      go_wp2_with (first|(go_at_call 53;(with_reducible refine (spec_AreValues.calls k _ _ m0 true _ ?side1 ?side2 A4.out).mono ?_);(case side1 => exact uc (Kd.C_below q2.out HB.out));(case side2 => exact s2.out);rintro e w' ⟨rfl,⟨nd,rfl⟩⟩;(try first|exact ⟨rfl,_,World.drewN_drewN _ _ _⟩|exact ⟨rfl,_,Eq.trans (World.drewN_drewN _ _ _) (congrArg (World.drewN _) (Nat.add_assoc _ _ _))⟩)))
      repeat (go_quiet (first|(go_at_call 53;(with_reducible refine (spec_AreValues.calls k _ _ m0 true _ ?side1 ?side2 A4.out).mono ?_);(case side1 => exact uc (Kd.C_below q2.out HB.out));(case side2 => exact s2.out);rintro e w' ⟨rfl,⟨nd,rfl⟩⟩;(try first|exact ⟨rfl,_,World.drewN_drewN _ _ _⟩|exact ⟨rfl,_,Eq.trans (World.drewN_drewN _ _ _) (congrArg (World.drewN _) (Nat.add_assoc _ _ _))⟩)));try go_wp2_with (first|(go_at_call 53;(with_reducible refine (spec_AreValues.calls k _ _ m0 true _ ?side1 ?side2 A4.out).mono ?_);(case side1 => exact uc (Kd.C_below q2.out HB.out));(case side2 => exact s2.out);rintro e w' ⟨rfl,⟨nd,rfl⟩⟩;(try first|exact ⟨rfl,_,World.drewN_drewN _ _ _⟩|exact ⟨rfl,_,Eq.trans (World.drewN_drewN _ _ _) (congrArg (World.drewN _) (Nat.add_assoc _ _ _))⟩))))
      go_meet
      case rel => exact ⟨_,(((b0.length : Int) != (m0.length : Int))),(by first|rfl|(simp;done)|(simp [*];done)),H',⟨by first|omega|exact Nat.le_refl _⟩,⟨ub d0.out⟩,⟨by repeat (first|(with_reducible first|exact HB.out|apply below_alloc|apply pw_below_drewN|apply below_drew1|refine below_set ?_ z0.out)|exact HB.out)⟩⟩
    · replace c5:= Bool.eq_false_iff.mpr c5
      subst c5
      have H1 : (spec_IsCracker.j0 k true m0 b0 q0) = some r:= by rw [if_neg (show ¬ (false = true) by decide)] at H;exact H
      clear H
      have H:= H1
      clear H1
      have H':= mk H
      clear H
      have o4 : w3.cell? ⟨o0,0,none⟩ = some (.slice b2 m0.length s1):= (blk_cell d0.out 0).trans rfl
      have m4 : w3.cell? ⟨o0,1,none⟩ = some (.slice z1 b0.length j1):= (blk_cell d0.out 1).trans rfl
      have k4 : w3.cell? ⟨o0,2,none⟩ = some (.slice v1 q0.length q1):= (blk_cell d0.out 2).trans rfl
      have j4:= blk_frozen d0.out 0
      have g4:= blk_frozen d0.out 1
      have d4:= blk_frozen d0.out 2
      go_wp2_with (first|(go_at_call 53;(with_reducible refine (spec_AreValues.calls k _ _ m0 false _ ?side1 ?side2 A4.out).mono ?_);(case side1 => exact uc (Kd.C_below q2.out HB.out));(case side2 => exact s2.out);rintro e w' ⟨rfl,⟨nd,rfl⟩⟩;(try first|exact ⟨rfl,_,World.drewN_drewN _ _ _⟩|exact ⟨rfl,_,Eq.trans (World.drewN_drewN _ _ _) (congrArg (World.drewN _) (Nat.add_assoc _ _ _))⟩)))
      repeat (go_quiet (first|(go_at_call 53;(with_reducible refine (spec_AreValues.calls k _ _ m0 false _ ?side1 ?side2 A4.out).mono ?_);(case side1 => exact uc (Kd.C_below q2.out HB.out));(case side2 => exact s2.out);rintro e w' ⟨rfl,⟨nd,rfl⟩⟩;(try first|exact ⟨rfl,_,World.drewN_drewN _ _ _⟩|exact ⟨rfl,_,Eq.trans (World.drewN_drewN _ _ _) (congrArg (World.drewN _) (Nat.add_assoc _ _ _))⟩)));try go_wp2_with (first|(go_at_call 53;(with_reducible refine (spec_AreValues.calls k _ _ m0 false _ ?side1 ?side2 A4.out).mono ?_);(case side1 => exact uc (Kd.C_below q2.out HB.out));(case side2 => exact s2.out);rintro e w' ⟨rfl,⟨nd,rfl⟩⟩;(try first|exact ⟨rfl,_,World.drewN_drewN _ _ _⟩|exact ⟨rfl,_,Eq.trans (World.drewN_drewN _ _ _) (congrArg (World.drewN _) (Nat.add_assoc _ _ _))⟩))))
      go_meet
      case rel => exact ⟨_,(true),(by first|rfl|(simp;done)|(simp [*];done)),H',⟨by first|omega|exact Nat.le_refl _⟩,⟨ub d0.out⟩,⟨by repeat (first|(with_reducible first|exact HB.out|apply below_alloc|apply pw_below_drewN|apply below_drew1|refine below_set ?_ z0.out)|exact HB.out)⟩⟩
  case rest =>
    clear HC2
    try clear c2
    try clear p2
    try clear c5
    try clear o5
    try clear m5
    try clear k5
    try clear o4
    try clear m4
    try clear k4
    try clear j5
    try clear g5
    try clear d5
    try clear j4
    try clear g4
    try clear d4
    obtain ⟨kq,s4,rfl,HA,HJ1,d0,HB⟩:= hcut
    cases kq with
   |zero => exact absurd HA.out (by simp [spec_IsCracker.j0])
   |succ kj1 =>
      have H:= HA.out
      clear HA
      simp only [spec_IsCracker.j0] at H
      by_cases c8 : s4 = true
      · subst c8
        have H1 : (some false) = some r:= by rw [if_pos rfl] at H;exact H
        clear H
        have H:= H1
        clear H1
        obtain rfl:= Option.some.inj H
        go_wp2
        repeat (go_quiet (fail);try go_wp2)
        go_ret
        exact ⟨by first|rfl|(simp [errW_none,errW_some] <;> rfl)|(simp [*,errW_none,errW_some] <;> rfl),by repeat (first|(with_reducible first|exact HB.out|apply below_alloc|apply pw_below_drewN|apply below_drew1|refine below_set ?_ z0.out)|exact HB.out)⟩
      · replace c8:= Bool.eq_false_iff.mpr c8
        subst c8
        have H1 : (spec_IsCracker.l0 kj1 0 m0 b0 q0) = some r:= by rw [if_neg (show ¬ (false = true) by decide)] at H;exact H
        clear H
        have H:= H1
        clear H1
        have H':= mk H
        clear H
        go_wp2
        repeat (go_quiet (fail);try go_wp2)
        go_loopg [3] kj1 (fun kq v3 w' => ∃ (k0 : Int),v3 = .int .i64 k0 ∧ Aside0 (spec_IsCracker.l0 kq k0 m0 b0 q0 = some r) ∧ Aside0 (kq ≤ kj1) ∧ Aside0 (w'.heap[o0]? = some (.cells #[(.slice b2 m0.length s1),(.slice z1 b0.length j1),(.slice v1 q0.length q1)] 29 (0,0))) ∧ Aside0 (Below w.heap.size w w'))
        case atStart => exact ⟨(0),(by first|rfl|(simp;done)|(simp [*];done)),H',⟨Nat.le_refl _⟩,⟨ub d0.out⟩,⟨by repeat (first|(with_reducible first|exact HB.out|apply below_alloc|apply pw_below_drewN|apply below_drew1|refine below_set ?_ z0.out)|exact HB.out)⟩⟩
        case round =>
          clear H'
          try clear c2
          try clear p2
          try clear c5
          try clear c8
          try clear o5
          try clear m5
          try clear k5
          try clear o4
          try clear m4
          try clear k4
          try clear j5
          try clear g5
          try clear d5
          try clear j4
          try clear g4
          try clear d4
          try clear p2
          obtain ⟨k0,rfl,HA,HK2,d0,HB⟩:= hrel
          cases gk with
         |zero => exact absurd HA.out (by simp [spec_IsCracker.l0])
         |succ k2 =>
            have H:= HA.out
            clear HA
            simp only [spec_IsCracker.l0] at H
            by_cases c9 : k0 < (b0.length : Int)
            · rw [if_pos c9] at H
              have y9 : decide (k0 < (b0.length : Int)) = true:= decide_eq_true c9
              clear c9
              by_cases c10 : 0 ≤ k0
              · rw [if_pos c10] at H
                have ka0 : decide (0 ≤ k0) = true:= decide_eq_true c10
                clear c10
                replace H:= Option.bind_eq_some_iff.mp H
                obtain ⟨m6,v9,H⟩:= H
                replace H : (if m6 = true then (if k0 ≤ (b0.length : Int) then ((spec_l4Has.f k2 (b0.take (k0 : Int).toNat) (rd b0 k0)).bind fun b5 => (if b5 = true then (some false) else (spec_IsCracker.l0 k2 (wrap64 (k0 + 1)) m0 b0 q0))) else (none)) else (some false)) = some r:= H
                have A11:= mk v9
                clear v9
                by_cases c12 : m6 = true
                · subst c12
                  have H1 : (if k0 ≤ (b0.length : Int) then ((spec_l4Has.f k2 (b0.take (k0 : Int).toNat) (rd b0 k0)).bind fun b5 => (if b5 = true then (some false) else (spec_IsCracker.l0 k2 (wrap64 (k0 + 1)) m0 b0 q0))) else (none)) = some r:= by rw [if_pos rfl] at H;exact H
                  clear H
                  have H:= H1
                  clear H1
                  have ja0:= eq_true (of_decide_eq_true (by first|(with_reducible assumption)|assumption) : 0 ≤ k0)
                  by_cases c14 : k0 ≤ (b0.length : Int)
                  · rw [if_pos c14] at H
                    have ga0:= eq_true c14
                    have da0 : decide (k0 ≤ (b0.length : Int)) = true:= decide_eq_true c14
                    clear c14
                    replace H:= Option.bind_eq_some_iff.mp H
                    obtain ⟨b5,s9,H⟩:= H
                    replace H : (if b5 = true then (some false) else (spec_IsCracker.l0 k2 (wrap64 (k0 + 1)) m0 b0 q0)) = some r:= H
                    have A15:= mk s9
                    clear s9
                    by_cases c16 : b5 = true
                    · subst c16
                      have H1 : (some false) = some r:= by rw [if_pos rfl] at H;exact H
                      clear H
                      have H:= H1
                      clear H1
                      obtain rfl:= Option.some.inj H
                      have j8 : wr.cell? ⟨o0,0,none⟩ = some (.slice b2 m0.length s1):= (blk_cell d0.out 0).trans rfl
                      have g8 : wr.cell? ⟨o0,1,none⟩ = some (.slice z1 b0.length j1):= (blk_cell d0.out 1).trans rfl
                      have d8 : wr.cell? ⟨o0,2,none⟩ = some (.slice v1 q0.length q1):= (blk_cell d0.out 2).trans rfl
                      have k7:= blk_frozen d0.out 0
                      have j7:= blk_frozen d0.out 1
                      have g7:= blk_frozen d0.out 2
                      have s3 : 0 ≤ (k0 : Int):= of_decide_eq_true (by first|(with_reducible assumption)|assumption)
                      have q3 : k0 < (b0.length : Int):= of_decide_eq_true (by first|(with_reducible assumption)|assumption)
                      obtain ⟨m1,j6,s0⟩:= Kd.at_int b1.out k0 s3 q3
                      cases j6
                      replace s0:= (HB.out.cell (World.block_lt_of_cell? w _ s0)).trans s0
                      replace s3:= eq_true s3
                      replace q3:= eq_true q3
                      go_wp2_with (first|(go_at_call 54;(with_reducible refine (spec_l1In.calls (rd b0 k0) 0 999 true _ A11.out).mono ?_);rintro e w' ⟨rfl,⟨nd,rfl⟩⟩;(try first|exact ⟨rfl,_,World.drewN_drewN _ _ _⟩|exact ⟨rfl,_,Eq.trans (World.drewN_drewN _ _ _) (congrArg (World.drewN _) (Nat.add_assoc _ _ _))⟩);obtain ⟨q8,k3,_,g3,_⟩:= info_parts info3;obtain ⟨s5,hA18,hC18⟩:= print_take_of (P:= Try.prog) (Value.int .i64) 0 22 3 .i64 Try.underlying22 k3 g3 (some m1) j1 b0 k0 (of_decide_eq_true (by first|(with_reducible assumption)|assumption)) (of_decide_eq_true (by first|(with_reducible assumption)|assumption)) o3.out;have m2:= mk (Kd.C_of_reads (h1:= fun _ => rfl) (hA18 _ (Kd.reads_of_C b1.out)));have o2:= mk hC18;clear hA18 hC18 k3 g3;have g2 : 0 ≤ (k0 : Int):= of_decide_eq_true (by first|(with_reducible assumption)|assumption);have d2 : k0 < (b0.length : Int):= of_decide_eq_true (by first|(with_reducible assumption)|assumption);obtain ⟨j2,q4,g0⟩:= Kd.at_int b1.out k0 g2 d2;obtain rfl : m1 = j2:= (by injection q4);replace g0:= (HB.out.cell (World.block_lt_of_cell? w _ g0)).trans g0;replace g2:= eq_true g2;replace d2:= eq_true d2)|(go_at_call 55;(try rw [show (k0 : Int).toNat = (b0.take (k0 : Int).toNat).length by rw [List.length_take];exact (Nat.min_eq_left (by first|omega|(simp at *;omega))).symm]);(with_reducible refine (spec_l4Has.calls k2 _ _ (b0.take (k0 : Int).toNat) (rd b0 k0) true _ ?side1 ?side2 A15.out).mono ?_);(case side1 => exact uc (Kd.C_below m2.out (by repeat (first|(with_reducible first|exact HB.out|apply below_alloc|apply pw_below_drewN|apply below_drew1|refine below_set ?_ z0.out)|exact HB.out))));(case side2 => exact o2.out);rintro e w' ⟨rfl,⟨nd,rfl⟩⟩;(try first|exact ⟨rfl,_,World.drewN_drewN _ _ _⟩|exact ⟨rfl,_,Eq.trans (World.drewN_drewN _ _ _) (congrArg (World.drewN _) (Nat.add_assoc _ _ _))⟩)))
                      repeat (go_quiet (first|(go_at_call 54;(with_reducible refine (spec_l1In.calls (rd b0 k0) 0 999 true _ A11.out).mono ?_);rintro e w' ⟨rfl,⟨nd,rfl⟩⟩;(try first|exact ⟨rfl,_,World.drewN_drewN _ _ _⟩|exact ⟨rfl,_,Eq.trans (World.drewN_drewN _ _ _) (congrArg (World.drewN _) (Nat.add_assoc _ _ _))⟩);obtain ⟨q8,k3,_,g3,_⟩:= info_parts info3;obtain ⟨s5,hA18,hC18⟩:= print_take_of (P:= Try.prog) (Value.int .i64) 0 22 3 .i64 Try.underlying22 k3 g3 (some m1) j1 b0 k0 (of_decide_eq_true (by first|(with_reducible assumption)|assumption)) (of_decide_eq_true (by first|(with_reducible assumption)|assumption)) o3.out;have m2:= mk (Kd.C_of_reads (h1:= fun _ => rfl) (hA18 _ (Kd.reads_of_C b1.out)));have o2:= mk hC18;clear hA18 hC18 k3 g3;have g2 : 0 ≤ (k0 : Int):= of_decide_eq_true (by first|(with_reducible assumption)|assumption);have d2 : k0 < (b0.length : Int):= of_decide_eq_true (by first|(with_reducible assumption)|assumption);obtain ⟨j2,q4,g0⟩:= Kd.at_int b1.out k0 g2 d2;obtain rfl : m1 = j2:= (by injection q4);replace g0:= (HB.out.cell (World.block_lt_of_cell? w _ g0)).trans g0;replace g2:= eq_true g2;replace d2:= eq_true d2)|(go_at_call 55;(try rw [show (k0 : Int).toNat = (b0.take (k0 : Int).toNat).length by rw [List.length_take];exact (Nat.min_eq_left (by first|omega|(simp at *;omega))).symm]);(with_reducible refine (spec_l4Has.calls k2 _ _ (b0.take (k0 : Int).toNat) (rd b0 k0) true _ ?side1 ?side2 A15.out).mono ?_);(case side1 => exact uc (Kd.C_below m2.out (by repeat (first|(with_reducible first|exact HB.out|apply below_alloc|apply pw_below_drewN|apply below_drew1|refine below_set ?_ z0.out)|exact HB.out))));(case side2 => exact o2.out);rintro e w' ⟨rfl,⟨nd,rfl⟩⟩;(try first|exact ⟨rfl,_,World.drewN_drewN _ _ _⟩|exact ⟨rfl,_,Eq.trans (World.drewN_drewN _ _ _) (congrArg (World.drewN _) (Nat.add_assoc _ _ _))⟩)));try go_wp2_with (first|(go_at_call 54;(with_reducible refine (spec_l1In.calls (rd b0 k0) 0 999 true _ A11.out).mono ?_);rintro e w' ⟨rfl,⟨nd,rfl⟩⟩;(try first|exact ⟨rfl,_,World.drewN_drewN _ _ _⟩|exact ⟨rfl,_,Eq.trans (World.drewN_drewN _ _ _) (congrArg (World.drewN _) (Nat.add_assoc _ _ _))⟩);obtain ⟨q8,k3,_,g3,_⟩:= info_parts info3;obtain ⟨s5,hA18,hC18⟩:= print_take_of (P:= Try.prog) (Value.int .i64) 0 22 3 .i64 Try.underlying22 k3 g3 (some m1) j1 b0 k0 (of_decide_eq_true (by first|(with_reducible assumption)|assumption)) (of_decide_eq_true (by first|(with_reducible assumption)|assumption)) o3.out;have m2:= mk (Kd.C_of_reads (h1:= fun _ => rfl) (hA18 _ (Kd.reads_of_C b1.out)));have o2:= mk hC18;clear hA18 hC18 k3 g3;have g2 : 0 ≤ (k0 : Int):= of_decide_eq_true (by first|(with_reducible assumption)|assumption);have d2 : k0 < (b0.length : Int):= of_decide_eq_true (by first|(with_reducible assumption)|assumption);obtain ⟨j2,q4,g0⟩:= Kd.at_int b1.out k0 g2 d2;obtain rfl : m1 = j2:= (by injection q4);replace g0:= (HB.out.cell (World.block_lt_of_cell? w _ g0)).trans g0;replace g2:= eq_true g2;replace d2:= eq_true d2)|(go_at_call 55;(try rw [show (k0 : Int).toNat = (b0.take (k0 : Int).toNat).length by rw [List.length_take];exact (Nat.min_eq_left (by first|omega|(simp at *;omega))).symm]);(with_reducible refine (spec_l4Has.calls k2 _ _ (b0.take (k0 : Int).toNat) (rd b0 k0) true _ ?side1 ?side2 A15.out).mono ?_);(case side1 => exact uc (Kd.C_below m2.out (by repeat (first|(with_reducible first|exact HB.out|apply below_alloc|apply pw_below_drewN|apply below_drew1|refine below_set ?_ z0.out)|exact HB.out))));(case side2 => exact o2.out);rintro e w' ⟨rfl,⟨nd,rfl⟩⟩;(try first|exact ⟨rfl,_,World.drewN_drewN _ _ _⟩|exact ⟨rfl,_,Eq.trans (World.drewN_drewN _ _ _) (congrArg (World.drewN _) (Nat.add_assoc _ _ _))⟩))))
                      go_ret
                      exact ⟨by first|rfl|(simp [errW_none,errW_some] <;> rfl)|(simp [*,errW_none,errW_some] <;> rfl),by repeat (first|(with_reducible first|exact HB.out|apply below_alloc|apply pw_below_drewN|apply below_drew1|refine below_set ?_ z0.out)|exact HB.out)⟩
                    · replace c16:= Bool.eq_false_iff.mpr c16
                      subst c16
                      have H1 : (spec_IsCracker.l0 k2 (wrap64 (k0 + 1)) m0 b0 q0) = some r:= by rw [if_neg (show ¬ (false = true) by decide)] at H;exact H
                      clear H
                      have H:= H1
                      clear H1
                      have H':= mk H
                      clear H
                      have b8 : wr.cell? ⟨o0,0,none⟩ = some (.slice b2 m0.length s1):= (blk_cell d0.out 0).trans rfl
                      have a8 : wr.cell? ⟨o0,1,none⟩ = some (.slice z1 b0.length j1):= (blk_cell d0.out 1).trans rfl
                      have z7 : wr.cell? ⟨o0,2,none⟩ = some (.slice v1 q0.length q1):= (blk_cell d0.out 2).trans rfl
                      have d7:= blk_frozen d0.out 0
                      have b7:= blk_frozen d0.out 1
                      have a7:= blk_frozen d0.out 2
                      have s3 : 0 ≤ (k0 : Int):= of_decide_eq_true (by first|(with_reducible assumption)|assumption)
                      have q3 : k0 < (b0.length : Int):= of_decide_eq_true (by first|(with_reducible assumption)|assumption)
                      obtain ⟨m1,j6,s0⟩:= Kd.at_int b1.out k0 s3 q3
                      cases j6
                      replace s0:= (HB.out.cell (World.block_lt_of_cell? w _ s0)).trans s0
                      replace s3:= eq_true s3
                      replace q3:= eq_true q3
                      go_wp2_with (first|(go_at_call 54;(with_reducible refine (spec_l1In.calls (rd b0 k0) 0 999 true _ A11.out).mono ?_);rintro e w' ⟨rfl,⟨nd,rfl⟩⟩;(try first|exact ⟨rfl,_,World.drewN_drewN _ _ _⟩|exact ⟨rfl,_,Eq.trans (World.drewN_drewN _ _ _) (congrArg (World.drewN _) (Nat.add_assoc _ _ _))⟩);obtain ⟨o8,j3,_,d3,_⟩:= info_parts info3;obtain ⟨q5,hA20,hC20⟩:= print_take_of (P:= Try.prog) (Value.int .i64) 0 22 3 .i64 Try.underlying22 j3 d3 (some m1) j1 b0 k0 (of_decide_eq_true (by first|(with_reducible assumption)|assumption)) (of_decide_eq_true (by first|(with_reducible assumption)|assumption)) o3.out;have m2:= mk (Kd.C_of_reads (h1:= fun _ => rfl) (hA20 _ (Kd.reads_of_C b1.out)));have o2:= mk hC20;clear hA20 hC20 j3 d3;have g2 : 0 ≤ (k0 : Int):= of_decide_eq_true (by first|(with_reducible assumption)|assumption);have d2 : k0 < (b0.length : Int):= of_decide_eq_true (by first|(with_reducible assumption)|assumption);obtain ⟨j2,q4,g0⟩:= Kd.at_int b1.out k0 g2 d2;obtain rfl : m1 = j2:= (by injection q4);replace g0:= (HB.out.cell (World.block_lt_of_cell? w _ g0)).trans g0;replace g2:= eq_true g2;replace d2:= eq_true d2)|(go_at_call 55;(try rw [show (k0 : Int).toNat = (b0.take (k0 : Int).toNat).length by rw [List.length_take];exact (Nat.min_eq_left (by first|omega|(simp at *;omega))).symm]);(with_reducible refine (spec_l4Has.calls k2 _ _ (b0.take (k0 : Int).toNat) (rd b0 k0) false _ ?side1 ?side2 A15.out).mono ?_);(case side1 => exact uc (Kd.C_below m2.out (by repeat (first|(with_reducible first|exact HB.out|apply below_alloc|apply pw_below_drewN|apply below_drew1|refine below_set ?_ z0.out)|exact HB.out))));(case side2 => exact o2.out);rintro e w' ⟨rfl,⟨nd,rfl⟩⟩;(try first|exact ⟨rfl,_,World.drewN_drewN _ _ _⟩|exact ⟨rfl,_,Eq.trans (World.drewN_drewN _ _ _) (congrArg (World.drewN _) (Nat.add_assoc _ _ _))⟩)))
                      repeat (go_quiet (first|(go_at_call 54;(with_reducible refine (spec_l1In.calls (rd b0 k0) 0 999 true _ A11.out).mono ?_);rintro e w' ⟨rfl,⟨nd,rfl⟩⟩;(try first|exact ⟨rfl,_,World.drewN_drewN _ _ _⟩|exact ⟨rfl,_,Eq.trans (World.drewN_drewN _ _ _) (congrArg (World.drewN _) (Nat.add_assoc _ _ _))⟩);obtain ⟨o8,j3,_,d3,_⟩:= info_parts info3;obtain ⟨q5,hA20,hC20⟩:= print_take_of (P:= Try.prog) (Value.int .i64) 0 22 3 .i64 Try.underlying22 j3 d3 (some m1) j1 b0 k0 (of_decide_eq_true (by first|(with_reducible assumption)|assumption)) (of_decide_eq_true (by first|(with_reducible assumption)|assumption)) o3.out;have m2:= mk (Kd.C_of_reads (h1:= fun _ => rfl) (hA20 _ (Kd.reads_of_C b1.out)));have o2:= mk hC20;clear hA20 hC20 j3 d3;have g2 : 0 ≤ (k0 : Int):= of_decide_eq_true (by first|(with_reducible assumption)|assumption);have d2 : k0 < (b0.length : Int):= of_decide_eq_true (by first|(with_reducible assumption)|assumption);obtain ⟨j2,q4,g0⟩:= Kd.at_int b1.out k0 g2 d2;obtain rfl : m1 = j2:= (by injection q4);replace g0:= (HB.out.cell (World.block_lt_of_cell? w _ g0)).trans g0;replace g2:= eq_true g2;replace d2:= eq_true d2)|(go_at_call 55;(try rw [show (k0 : Int).toNat = (b0.take (k0 : Int).toNat).length by rw [List.length_take];exact (Nat.min_eq_left (by first|omega|(simp at *;omega))).symm]);(with_reducible refine (spec_l4Has.calls k2 _ _ (b0.take (k0 : Int).toNat) (rd b0 k0) false _ ?side1 ?side2 A15.out).mono ?_);(case side1 => exact uc (Kd.C_below m2.out (by repeat (first|(with_reducible first|exact HB.out|apply below_alloc|apply pw_below_drewN|apply below_drew1|refine below_set ?_ z0.out)|exact HB.out))));(case side2 => exact o2.out);rintro e w' ⟨rfl,⟨nd,rfl⟩⟩;(try first|exact ⟨rfl,_,World.drewN_drewN _ _ _⟩|exact ⟨rfl,_,Eq.trans (World.drewN_drewN _ _ _) (congrArg (World.drewN _) (Nat.add_assoc _ _ _))⟩)));try go_wp2_with (first|(go_at_call 54;(with_reducible refine (spec_l1In.calls (rd b0 k0) 0 999 true _ A11.out).mono ?_);rintro e w' ⟨rfl,⟨nd,rfl⟩⟩;(try first|exact ⟨rfl,_,World.drewN_drewN _ _ _⟩|exact ⟨rfl,_,Eq.trans (World.drewN_drewN _ _ _) (congrArg (World.drewN _) (Nat.add_assoc _ _ _))⟩);obtain ⟨o8,j3,_,d3,_⟩:= info_parts info3;obtain ⟨q5,hA20,hC20⟩:= print_take_of (P:= Try.prog) (Value.int .i64) 0 22 3 .i64 Try.underlying22 j3 d3 (some m1) j1 b0 k0 (of_decide_eq_true (by first|(with_reducible assumption)|assumption)) (of_decide_eq_true (by first|(with_reducible assumption)|assumption)) o3.out;have m2:= mk (Kd.C_of_reads (h1:= fun _ => rfl) (hA20 _ (Kd.reads_of_C b1.out)));have o2:= mk hC20;clear hA20 hC20 j3 d3;have g2 : 0 ≤ (k0 : Int):= of_decide_eq_true (by first|(with_reducible assumption)|assumption);have d2 : k0 < (b0.length : Int):= of_decide_eq_true (by first|(with_reducible assumption)|assumption);obtain ⟨j2,q4,g0⟩:= Kd.at_int b1.out k0 g2 d2;obtain rfl : m1 = j2:= (by injection q4);replace g0:= (HB.out.cell (World.block_lt_of_cell? w _ g0)).trans g0;replace g2:= eq_true g2;replace d2:= eq_true d2)|(go_at_call 55;(try rw [show (k0 : Int).toNat = (b0.take (k0 : Int).toNat).length by rw [List.length_take];exact (Nat.min_eq_left (by first|omega|(simp at *;omega))).symm]);(with_reducible refine (spec_l4Has.calls k2 _ _ (b0.take (k0 : Int).toNat) (rd b0 k0) false _ ?side1 ?side2 A15.out).mono ?_);(case side1 => exact uc (Kd.C_below m2.out (by repeat (first|(with_reducible first|exact HB.out|apply below_alloc|apply pw_below_drewN|apply below_drew1|refine below_set ?_ z0.out)|exact HB.out))));(case side2 => exact o2.out);rintro e w' ⟨rfl,⟨nd,rfl⟩⟩;(try first|exact ⟨rfl,_,World.drewN_drewN _ _ _⟩|exact ⟨rfl,_,Eq.trans (World.drewN_drewN _ _ _) (congrArg (World.drewN _) (Nat.add_assoc _ _ _))⟩))))
                      go_roundg k2
                      case measure => have:= HJ1.out;have:= HK2.out;omega
                      case rel => exact ⟨(wrap64 (k0 + 1)),(by first|rfl|(simp;done)|(simp [*];done)),H',⟨by have:= HJ1.out;have:= HK2.out;omega⟩,⟨ub d0.out⟩,⟨by repeat (first|(with_reducible first|exact HB.out|apply below_alloc|apply pw_below_drewN|apply below_drew1|refine below_set ?_ z0.out)|exact HB.out)⟩⟩
                  · rw [if_neg c14] at H
                    exact absurd H (by simp)
                · replace c12:= Bool.eq_false_iff.mpr c12
                  subst c12
                  have H1 : (some false) = some r:= by rw [if_neg (show ¬ (false = true) by decide)] at H;exact H
                  clear H
                  have H:= H1
                  clear H1
                  obtain rfl:= Option.some.inj H
                  have y7 : wr.cell? ⟨o0,0,none⟩ = some (.slice b2 m0.length s1):= (blk_cell d0.out 0).trans rfl
                  have v7 : wr.cell? ⟨o0,1,none⟩ = some (.slice z1 b0.length j1):= (blk_cell d0.out 1).trans rfl
                  have s7 : wr.cell? ⟨o0,2,none⟩ = some (.slice v1 q0.length q1):= (blk_cell d0.out 2).trans rfl
                  have z6:= blk_frozen d0.out 0
                  have y6:= blk_frozen d0.out 1
                  have v6:= blk_frozen d0.out 2
                  have s3 : 0 ≤ (k0 : Int):= of_decide_eq_true (by first|(with_reducible assumption)|assumption)
                  have q3 : k0 < (b0.length : Int):= of_decide_eq_true (by first|(with_reducible assumption)|assumption)
                  obtain ⟨m1,j6,s0⟩:= Kd.at_int b1.out k0 s3 q3
                  cases j6
                  replace s0:= (HB.out.cell (World.block_lt_of_cell? w _ s0)).trans s0
                  replace s3:= eq_true s3
                  replace q3:= eq_true q3
                  go_wp2_with (first|(go_at_call 54;(with_reducible refine (spec_l1In.calls (rd b0 k0) 0 999 false _ A11.out).mono ?_);rintro e w' ⟨rfl,⟨nd,rfl⟩⟩;(try first|exact ⟨rfl,_,World.drewN_drewN _ _ _⟩|exact ⟨rfl,_,Eq.trans (World.drewN_drewN _ _ _) (congrArg (World.drewN _) (Nat.add_assoc _ _ _))⟩)))
                  repeat (go_quiet (first|(go_at_call 54;(with_reducible refine (spec_l1In.calls (rd b0 k0) 0 999 false _ A11.out).mono ?_);rintro e w' ⟨rfl,⟨nd,rfl⟩⟩;(try first|exact ⟨rfl,_,World.drewN_drewN _ _ _⟩|exact ⟨rfl,_,Eq.trans (World.drewN_drewN _ _ _) (congrArg (World.drewN _) (Nat.add_assoc _ _ _))⟩)));try go_wp2_with (first|(go_at_call 54;(with_reducible refine (spec_l1In.calls (rd b0 k0) 0 999 false _ A11.out).mono ?_);rintro e w' ⟨rfl,⟨nd,rfl⟩⟩;(try first|exact ⟨rfl,_,World.drewN_drewN _ _ _⟩|exact ⟨rfl,_,Eq.trans (World.drewN_drewN _ _ _) (congrArg (World.drewN _) (Nat.add_assoc _ _ _))⟩))))
                  go_ret
                  exact ⟨by first|rfl|(simp [errW_none,errW_some] <;> rfl)|(simp [*,errW_none,errW_some] <;> rfl),by repeat (first|(with_reducible first|exact HB.out|apply below_alloc|apply pw_below_drewN|apply below_drew1|refine below_set ?_ z0.out)|exact HB.out)⟩
              · rw [if_neg c10] at H
                exact absurd H (by simp)
            · rw [if_neg c9] at H
              have y9 : decide (k0 < (b0.length : Int)) = false:= decide_eq_false c9
              clear c9
              replace H:= Option.bind_eq_some_iff.mp H
              obtain ⟨d6,q9,H⟩:= H
              replace H : (some d6) = some r:= H
              have A22:= mk q9
              clear q9
              obtain rfl:= Option.some.inj H
              have q7 : wr.cell? ⟨o0,0,none⟩ = some (.slice b2 m0.length s1):= (blk_cell d0.out 0).trans rfl
              have o7 : wr.cell? ⟨o0,1,none⟩ = some (.slice z1 b0.length j1):= (blk_cell d0.out 1).trans rfl
              have m7 : wr.cell? ⟨o0,2,none⟩ = some (.slice v1 q0.length q1):= (blk_cell d0.out 2).trans rfl
              have s6:= blk_frozen d0.out 0
              have q6:= blk_frozen d0.out 1
              have o6:= blk_frozen d0.out 2
              go_wp2_with (first|(go_at_call 56;(with_reducible refine (spec_l4Pivots.calls k2 _ _ m0 _ _ q0 d6 _ ?side1 ?side2 ?side3 ?side4 A22.out).mono ?_);(case side1 => exact uc (Kd.C_below q2.out HB.out));(case side2 => exact s2.out);(case side3 => exact uc (Kd.C_below v4.out HB.out));(case side4 => exact z4.out);rintro e w24 ⟨rfl,hb⟩;have n0_:= mk (blk_below (g:= o0) (o:= .cells #[.slice b2 m0.length s1,.slice z1 b0.length j1,.slice v1 q0.length q1] 29 (0,0)) (ub d0.out) hb);have n1_:= mk (below_step (by repeat (first|(with_reducible first|exact HB.out|apply below_alloc|apply pw_below_drewN|apply below_drew1|refine below_set ?_ z0.out)|exact HB.out)) hb);clear d0;clear HB;have d0:= n0_;have HB:= n1_;clear n0_ n1_;(try clear hb);(try clear hb2);(try clear hk);(try clear hi)))
              repeat (go_quiet (first|(go_at_call 56;(with_reducible refine (spec_l4Pivots.calls k2 _ _ m0 _ _ q0 d6 _ ?side1 ?side2 ?side3 ?side4 A22.out).mono ?_);(case side1 => exact uc (Kd.C_below q2.out HB.out));(case side2 => exact s2.out);(case side3 => exact uc (Kd.C_below v4.out HB.out));(case side4 => exact z4.out);rintro e w24 ⟨rfl,hb⟩;have n0_:= mk (blk_below (g:= o0) (o:= .cells #[.slice b2 m0.length s1,.slice z1 b0.length j1,.slice v1 q0.length q1] 29 (0,0)) (ub d0.out) hb);have n1_:= mk (below_step (by repeat (first|(with_reducible first|exact HB.out|apply below_alloc|apply pw_below_drewN|apply below_drew1|refine below_set ?_ z0.out)|exact HB.out)) hb);clear d0;clear HB;have d0:= n0_;have HB:= n1_;clear n0_ n1_;(try clear hb);(try clear hb2);(try clear hk);(try clear hi)));try go_wp2_with (first|(go_at_call 56;(with_reducible refine (spec_l4Pivots.calls k2 _ _ m0 _ _ q0 d6 _ ?side1 ?side2 ?side3 ?side4 A22.out).mono ?_);(case side1 => exact uc (Kd.C_below q2.out HB.out));(case side2 => exact s2.out);(case side3 => exact uc (Kd.C_below v4.out HB.out));(case side4 => exact z4.out);rintro e w24 ⟨rfl,hb⟩;have n0_:= mk (blk_below (g:= o0) (o:= .cells #[.slice b2 m0.length s1,.slice z1 b0.length j1,.slice v1 q0.length q1] 29 (0,0)) (ub d0.out) hb);have n1_:= mk (below_step (by repeat (first|(with_reducible first|exact HB.out|apply below_alloc|apply pw_below_drewN|apply below_drew1|refine below_set ?_ z0.out)|exact HB.out)) hb);clear d0;clear HB;have d0:= n0_;have HB:= n1_;clear n0_ n1_;(try clear hb);(try clear hb2);(try clear hk);(try clear hi))))
              go_ret
              exact ⟨by first|rfl|(simp [errW_none,errW_some] <;> rfl)|(simp [*,errW_none,errW_some] <;> rfl),by repeat (first|(with_reducible first|exact HB.out|apply below_alloc|apply pw_below_drewN|apply below_drew1|refine below_set ?_ z0.out)|exact HB.out)⟩

/-! ### spec_FindRow: function 27 -/
def spec_FindRow.l0 : Nat → Int → Int → List Int → List Int → List (S50) → Option (Int)
  | 0, _, _, _, _, _ => none
  | k + 1, x1, x5, z5, m3, y5 => if x5 < (m3.length : Int) then (if 0 ≤ x5 then (if (rd m3 x5) = x1 then (some x5) else (spec_FindRow.l0 k x1 (wrap64 (x5 + 1)) z5 m3 y5)) else (none)) else (some (-1))
def spec_FindRow.f (k : Nat) (m0 : List Int) (b0 : List Int) (q0 : List (S50)) (a1 : Int) : Option (Int) := spec_FindRow.l0 k a1 0 m0 b0 q0
theorem spec_FindRow.mono_l : ∀ k, (∀ y0 y1 y2 y3 y4, LeO (spec_FindRow.l0 k y0 y1 y2 y3 y4) (spec_FindRow.l0 (k + 1) y0 y1 y2 y3 y4))
  | 0 => fun _ _ _ _ _ r h => by simp [spec_FindRow.l0] at h
  | k + 1 => by
    have ih0 := spec_FindRow.mono_l k
    · intro y0 y1 y2 y3 y4
      unfold spec_FindRow.l0
      repeat' first
      | (with_reducible exact ih0 _ _ _ _ _)
      | (with_reducible exact LeO.refl _)
      | (with_reducible exact LeO.none _)
      | (with_reducible refine LeO.ite ?_ ?_)
      | (with_reducible refine LeO.bind ?_ (fun _ => ?_))
      | exact ih0 _ _ _ _ _
      | exact LeO.none _
      | refine LeO.ite ?_ ?_
      | refine LeO.bind ?_ (fun _ => ?_)
theorem spec_FindRow.mono : ∀ a0 a1 a2 a3 k, LeO (spec_FindRow.f k a0 a1 a2 a3) (spec_FindRow.f (k + 1) a0 a1 a2 a3) := by
  intro a0 a1 a2 a3 k
  have ih0:= spec_FindRow.mono_l k
  unfold spec_FindRow.f
  repeat' first
     |(with_reducible exact ih0 _ _ _ _ _)
     |(with_reducible exact LeO.refl _)
     |(with_reducible exact LeO.none _)
     |(with_reducible refine LeO.ite ?_ ?_)
     |(with_reducible refine LeO.bind ?_ (fun _ => ?_))
     |exact ih0 _ _ _ _ _
     |exact LeO.none _
     |refine LeO.ite ?_ ?_
     |refine LeO.bind ?_ (fun _ => ?_)
set_option maxHeartbeats 8000000 in
set_option maxRecDepth 100000 in
theorem spec_FindRow.calls (k : Nat) (b2 : Option Addr) (s1 : Nat) (m0 : List Int) (z1 : Option Addr) (j1 : Nat) (b0 : List Int) (v1 : Option Addr) (q1 : Nat) (q0 : List (S50)) (a1 : Int) (r : Int) (w : World) (b4 : Kd.C (Kd.int .i64) w b2 m0.length m0) (hc0_0 : m0.length ≤ s1) (a4 : Kd.C (Kd.int .i64) w z1 b0.length b0) (hc0_1 : b0.length ≤ j1) (z3 : Kd.C k50 w v1 q0.length q0) (hc0_2 : q0.length ≤ q1) (h : spec_FindRow.f k m0 b0 q0 a1 = some r) :
    Calls Try.prog 27 #[.agg #[.slice b2 m0.length s1, .slice z1 b0.length j1, .slice v1 q0.length q1], .int .i64 a1] w fun e w' => e = .returned (.int .i64 r) ∧ Below w.heap.size w w' := by
  have hu29:= Try.underlying29
  have q2:= mk b4
  have s2:= mk hc0_0
  clear b4 hc0_0
  have b1:= mk a4
  have o3:= mk hc0_1
  clear a4 hc0_1
  have v4:= mk z3
  have z4:= mk hc0_2
  clear z3 hc0_2
  have HB:= mk (Below.refl w.heap.size w)
  have H : (spec_FindRow.l0 k a1 0 m0 b0 q0) = some r:= h
  clear h
  have H':= mk H
  clear H
  go_enter Try.func27,Try.ntmps27
  go_wp2_with (first|((with_reducible refine gate_dst (N:= 2) rfl ?_);refine box_event ?hg (N:= 2) ?hd (cs:= #[.slice b2 m0.length s1,.slice z1 b0.length j1,.slice v1 q0.length q1]) (t:= 29) ?hr ?_;(case hd => rfl);(case hg => rfl);(case hr => first|(go_simp;done)|(go_simp;rfl));intro o1 hg w3 hbox hb;have n0_:= mk (below_step (by repeat (first|(with_reducible first|exact HB.out|apply below_alloc|apply pw_below_drewN|apply below_drew1)|exact HB.out)) hb);have n1_:= mk (hbox);have n2_:= mk ((by rw [hg];exact (below_size (by repeat (first|(with_reducible first|exact HB.out|apply below_alloc|apply pw_below_drewN|apply below_drew1)|exact HB.out))) : w.heap.size ≤ o1));have n3_:= mk ((by rw [hg];exact (below_size (by repeat (first|(with_reducible first|exact HB.out|apply below_alloc|apply pw_below_drewN|apply below_drew1)|exact HB.out))) : w.heap.size ≤ o1));clear HB;have HB:= n0_;have v0:= n1_;have ma0:= n2_;have a5:= n3_;clear n0_ n1_ n2_ n3_;clear hb hbox hg))
  go_loopg [5] k (fun kq v5 w' => ∃ (v2 : Int),v5 = .int .i64 v2 ∧ Aside0 (spec_FindRow.l0 kq a1 v2 m0 b0 q0 = some r) ∧ Aside0 (kq ≤ k) ∧ Aside0 (w'.heap[o1]? = some (.cells #[(.slice b2 m0.length s1),(.slice z1 b0.length j1),(.slice v1 q0.length q1)] 29 (0,0))) ∧ Aside0 (Below w.heap.size w w'))
  case atStart => exact ⟨(0),(by first|rfl|(simp;done)|(simp [*];done)),H',⟨Nat.le_refl _⟩,⟨ub v0.out⟩,⟨by repeat (first|(with_reducible first|exact HB.out|apply below_alloc|apply pw_below_drewN|apply below_drew1|refine below_set ?_ a5.out)|exact HB.out)⟩⟩
  case round =>
    clear H'
    try clear c2
    try clear p2
    obtain ⟨v2,rfl,HA,HK1,v0,HB⟩:= hrel
    cases gk with
   |zero => exact absurd HA.out (by simp [spec_FindRow.l0])
   |succ k1 =>
      have H:= HA.out
      clear HA
      simp only [spec_FindRow.l0] at H
      by_cases c4 : v2 < (b0.length : Int)
      · rw [if_pos c4] at H
        have ba0 : decide (v2 < (b0.length : Int)) = true:= decide_eq_true c4
        clear c4
        by_cases c5 : 0 ≤ v2
        · rw [if_pos c5] at H
          have oa0 : decide (0 ≤ v2) = true:= decide_eq_true c5
          clear c5
          by_cases c6 : (rd b0 v2) = a1
          · rw [if_pos c6] at H
            have aa0 : ((rd b0 v2) == a1) = true:= beq_iff_eq.mpr c6
            have z9 : ((rd b0 v2) != a1) = false:= bne_eq_false_iff_eq.mpr c6
            clear c6
            obtain rfl:= Option.some.inj H
            have o4 : wr.cell? ⟨o1,0,none⟩ = some (.slice b2 m0.length s1):= (blk_cell v0.out 0).trans rfl
            have m4 : wr.cell? ⟨o1,1,none⟩ = some (.slice z1 b0.length j1):= (blk_cell v0.out 1).trans rfl
            have k4 : wr.cell? ⟨o1,2,none⟩ = some (.slice v1 q0.length q1):= (blk_cell v0.out 2).trans rfl
            have j4:= blk_frozen v0.out 0
            have g4:= blk_frozen v0.out 1
            have d4:= blk_frozen v0.out 2
            have b6 : 0 ≤ (v2 : Int):= of_decide_eq_true (by first|(with_reducible assumption)|assumption)
            have a6 : v2 < (b0.length : Int):= of_decide_eq_true (by first|(with_reducible assumption)|assumption)
            obtain ⟨m8,k8,g1⟩:= Kd.at_int b1.out v2 b6 a6
            cases k8
            replace g1:= (HB.out.cell (World.block_lt_of_cell? w _ g1)).trans g1
            replace b6:= eq_true b6
            replace a6:= eq_true a6
            go_wp2
            go_ret
            exact ⟨by first|rfl|(simp [errW_none,errW_some] <;> rfl)|(simp [*,errW_none,errW_some] <;> rfl),by repeat (first|(with_reducible first|exact HB.out|apply below_alloc|apply pw_below_drewN|apply below_drew1|refine below_set ?_ a5.out)|exact HB.out)⟩
          · rw [if_neg c6] at H
            have aa0 : ((rd b0 v2) == a1) = false:= beq_eq_false_iff_ne.mpr c6
            have z9 : ((rd b0 v2) != a1) = true:= bne_iff_ne.mpr c6
            have H':= mk H
            clear H
            have o9 : wr.cell? ⟨o1,0,none⟩ = some (.slice b2 m0.length s1):= (blk_cell v0.out 0).trans rfl
            have m9 : wr.cell? ⟨o1,1,none⟩ = some (.slice z1 b0.length j1):= (blk_cell v0.out 1).trans rfl
            have k9 : wr.cell? ⟨o1,2,none⟩ = some (.slice v1 q0.length q1):= (blk_cell v0.out 2).trans rfl
            have b9:= blk_frozen v0.out 0
            have a9:= blk_frozen v0.out 1
            have z8:= blk_frozen v0.out 2
            have b6 : 0 ≤ (v2 : Int):= of_decide_eq_true (by first|(with_reducible assumption)|assumption)
            have a6 : v2 < (b0.length : Int):= of_decide_eq_true (by first|(with_reducible assumption)|assumption)
            obtain ⟨m8,k8,g1⟩:= Kd.at_int b1.out v2 b6 a6
            cases k8
            replace g1:= (HB.out.cell (World.block_lt_of_cell? w _ g1)).trans g1
            replace b6:= eq_true b6
            replace a6:= eq_true a6
            go_wp2
            go_roundg k1
            case measure => have:= HK1.out;omega
            case rel => exact ⟨(wrap64 (v2 + 1)),(by first|rfl|(simp;done)|(simp [*];done)),H',⟨by have:= HK1.out;omega⟩,⟨ub v0.out⟩,⟨by repeat (first|(with_reducible first|exact HB.out|apply below_alloc|apply pw_below_drewN|apply below_drew1|refine below_set ?_ a5.out)|exact HB.out)⟩⟩
        · rw [if_neg c5] at H
          exact absurd H (by simp)
      · rw [if_neg c4] at H
        have ba0 : decide (v2 < (b0.length : Int)) = false:= decide_eq_false c4
        clear c4
        obtain rfl:= Option.some.inj H
        have j9 : wr.cell? ⟨o1,0,none⟩ = some (.slice b2 m0.length s1):= (blk_cell v0.out 0).trans rfl
        have g9 : wr.cell? ⟨o1,1,none⟩ = some (.slice z1 b0.length j1):= (blk_cell v0.out 1).trans rfl
        have d9 : wr.cell? ⟨o1,2,none⟩ = some (.slice v1 q0.length q1):= (blk_cell v0.out 2).trans rfl
        have y8:= blk_frozen v0.out 0
        have v8:= blk_frozen v0.out 1
        have s8:= blk_frozen v0.out 2
        go_wp2
        go_ret
        exact ⟨by first|rfl|(simp [errW_none,errW_some] <;> rfl)|(simp [*,errW_none,errW_some] <;> rfl),by repeat (first|(with_reducible first|exact HB.out|apply below_alloc|apply pw_below_drewN|apply below_drew1|refine below_set ?_ a5.out)|exact HB.out)⟩

end Go.Proofs.Ytlikcmonejefoab.PFnExactRippleDelete
