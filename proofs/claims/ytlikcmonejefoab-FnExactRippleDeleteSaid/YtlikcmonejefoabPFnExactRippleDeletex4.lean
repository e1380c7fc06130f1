-- printed by a program of this session, a turned copy of the print of the kit
import Derived.Test.YtlikcmonejefoabSq
import Derived.Test.YtlikcmonejefoabPFnExactRippleDeletex0
namespace Go.Proofs.Ytlikcmonejefoab.PFnExactRippleDelete
open Go.RowKit Go.Proofs.YtlikcmonejefoabW.PrintWords Go.Proofs.YtlikcmonejefoabW.PrintLast Go.Proofs.YtlikcmonejefoabW.PrintMore Go.Proofs.Ytlikcmonejefoab.Sq
attribute [local go_sem] max2_int min2_int max_two min_two max_three min_three max_four min_four Giv.cell_twice   -- for this text's walks alone
set_option linter.unusedVariables false
set_option linter.unusedSimpArgs false

/-! ### spec_l4Copy: function 28 -/
def spec_l4Copy.f (z0 : List Int) (v0 : List Int) (q0 : List (S50)) : Option (List Int × List Int × (List (S50))) := (some (([] : List Int) : List Int)).bind fun q2 => (if q2.length + z0.length < 17592186044416 then ((some (([] : List Int) : List Int)).bind fun d2 => (if d2.length + v0.length < 17592186044416 then ((some (([] : List (S50)) : List (S50))).bind fun y1 => (if y1.length + q0.length < 8796093022208 then (some ((q2 ++ z0), (d2 ++ v0), (y1 ++ q0))) else (none))) else (none))) else (none))
def spec_l4Copy.T1 : Bool × List (List Nat × List Nat) := (true, [([], []), ([], []), ([1], [1]), ([0, 2], [0, 2]), ([], []), ([], []), ([5], [5]), ([4, 6, 3], [4, 6]), ([], []), ([], []), ([9], [9]), ([8, 10, 7], [8, 10]), ([3, 7, 11], [3, 7, 11]), ([12, 11, 0, 1, 2, 3, 4, 5, 6, 7, 8, 9, 10, 11, 12], [12])])
def spec_l4Copy.B1 : List Nat := [0, 0, 2, 7, 0, 0, 32, 127, 0, 0, 512, 2047, 4095, 8191]
theorem spec_l4Copy.tab1 : rtab .any (opsOf Try.f28 1) = spec_l4Copy.T1 := by kernel_rfl
theorem spec_l4Copy.bits1 : waitsOk spec_l4Copy.T1.2 spec_l4Copy.B1 = true := by kernel_rfl
set_option maxHeartbeats 8000000 in
set_option maxRecDepth 100000 in
theorem spec_l4Copy.calls (m1 : Option Addr) (g1 : Nat) (z0 : List Int) (k1 : Option Addr) (d1 : Nat) (v0 : List Int) (j1 : Option Addr) (b1 : Nat) (q0 : List (S50)) (r1 : List Int) (r2 : List Int) (r3 : List (S50)) (w : World) (g4 : Kd.C (Kd.int .i64) w m1 z0.length z0) (hc0_0 : z0.length ≤ g1) (d4 : Kd.C (Kd.int .i64) w k1 v0.length v0) (hc0_1 : v0.length ≤ d1) (b4 : Kd.C k50 w j1 q0.length q0) (hc0_2 : q0.length ≤ b1) (h : spec_l4Copy.f z0 v0 q0 = some (r1, r2, r3)) :
  Calls Try.prog 28 #[.agg #[.slice m1 z0.length g1, .slice k1 v0.length d1, .slice j1 q0.length b1]] w fun e w' => ∃ v0_ v1_ v2_ : Value, e = .returned (.agg #[v0_, v1_, v2_]) ∧ Kd.R (Kd.int .i64) 3 w' w.heap.size (fun k_ => some k_ ≠ (v1_ : Value).ownBlock) v0_ r1 ∧ Kd.R (Kd.int .i64) 3 w' w.heap.size (fun k_ => some k_ ≠ (v0_ : Value).ownBlock) v1_ r2 ∧ Kd.R k50 50 w' w.heap.size (fun _ => True) v2_ r3 ∧ Below w.heap.size w w' := by
 have hu29:= Try.underlying29
 have v3:= mk g4
 have m5:= mk hc0_0
 clear g4 hc0_0
 have o4:= mk d4
 have k5:= mk hc0_1
 clear d4 hc0_1
 have a5:= mk b4
 have j5:= mk hc0_2
 clear b4 hc0_2
 have HB:= mk (Below.refl w.heap.size w)
 have H : ((some (([] : List Int) : List Int)).bind fun q2 => (if q2.length + z0.length < 17592186044416 then ((some (([] : List Int) : List Int)).bind fun d2 => (if d2.length + v0.length < 17592186044416 then ((some (([] : List (S50)) : List (S50))).bind fun y1 => (if y1.length + q0.length < 8796093022208 then (some ((q2 ++ z0),(d2 ++ v0),(y1 ++ q0))) else (none))) else (none))) else (none))) = some (r1,r2,r3):= h
 clear h
 obtain ⟨q2,o3⟩ : ∃ y_ : List Int,y_ = (([] : List Int)):= ⟨_,rfl⟩
 replace H : (if q2.length + z0.length < 17592186044416 then ((some (([] : List Int) : List Int)).bind fun d2 => (if d2.length + v0.length < 17592186044416 then ((some (([] : List (S50)) : List (S50))).bind fun y1 => (if y1.length + q0.length < 8796093022208 then (some ((q2 ++ z0),(d2 ++ v0),(y1 ++ q0))) else (none))) else (none))) else (none)) = some (r1,r2,r3):= by first|(rw [o3];with_reducible exact H)|(have H2_:= (Option.bind_some _ _).symm.trans H;rw [o3];with_reducible exact H2_)|(have H2_:= (Option.bind_some _ _).symm.trans H;with_reducible exact H2_)|with_reducible exact H|(rw [o3];exact H)|exact H
 have y2:= mk o3
 clear o3
 by_cases c2 : q2.length + z0.length < 17592186044416
 ·rw [if_pos c2] at H
  have LMc2:= mk c2
  clear c2
  obtain ⟨m2,m3⟩ : ∃ y_ : List Int,y_ = (q2 ++ z0):= ⟨_,rfl⟩
  replace H : ((some (([] : List Int) : List Int)).bind fun d2 => (if d2.length + v0.length < 17592186044416 then ((some (([] : List (S50)) : List (S50))).bind fun y1 => (if y1.length + q0.length < 8796093022208 then (some (m2,(d2 ++ v0),(y1 ++ q0))) else (none))) else (none))) = some (r1,r2,r3):= by first|(rw [m3];with_reducible exact H)|(have H2_:= (Option.bind_some _ _).symm.trans H;rw [m3];with_reducible exact H2_)|(have H2_:= (Option.bind_some _ _).symm.trans H;with_reducible exact H2_)|with_reducible exact H|(rw [m3];exact H)|exact H
  have s3:= mk m3
  clear m3
  obtain ⟨d2,k3⟩ : ∃ y_ : List Int,y_ = (([] : List Int)):= ⟨_,rfl⟩
  replace H : (if d2.length + v0.length < 17592186044416 then ((some (([] : List (S50)) : List (S50))).bind fun y1 => (if y1.length + q0.length < 8796093022208 then (some (m2,(d2 ++ v0),(y1 ++ q0))) else (none))) else (none)) = some (r1,r2,r3):= by first|(rw [k3];with_reducible exact H)|(have H2_:= (Option.bind_some _ _).symm.trans H;rw [k3];with_reducible exact H2_)|(have H2_:= (Option.bind_some _ _).symm.trans H;with_reducible exact H2_)|with_reducible exact H|(rw [k3];exact H)|exact H
  have k2:= mk k3
  clear k3
  by_cases c3 : d2.length + v0.length < 17592186044416
  ·rw [if_pos c3] at H
   have LMc3:= mk c3
   clear c3
   obtain ⟨z2,j3⟩ : ∃ y_ : List Int,y_ = (d2 ++ v0):= ⟨_,rfl⟩
   replace H : ((some (([] : List (S50)) : List (S50))).bind fun y1 => (if y1.length + q0.length < 8796093022208 then (some (m2,z2,(y1 ++ q0))) else (none))) = some (r1,r2,r3):= by first|(rw [j3];with_reducible exact H)|(have H2_:= (Option.bind_some _ _).symm.trans H;rw [j3];with_reducible exact H2_)|(have H2_:= (Option.bind_some _ _).symm.trans H;with_reducible exact H2_)|with_reducible exact H|(rw [j3];exact H)|exact H
   have m4:= mk j3
   clear j3
   obtain ⟨y1,g3⟩ : ∃ y_ : List (S50),y_ = (([] : List (S50))):= ⟨_,rfl⟩
   replace H : (if y1.length + q0.length < 8796093022208 then (some (m2,z2,(y1 ++ q0))) else (none)) = some (r1,r2,r3):= by first|(rw [g3];with_reducible exact H)|(have H2_:= (Option.bind_some _ _).symm.trans H;rw [g3];with_reducible exact H2_)|(have H2_:= (Option.bind_some _ _).symm.trans H;with_reducible exact H2_)|with_reducible exact H|(rw [g3];exact H)|exact H
   have g2:= mk g3
   clear g3
   by_cases c4 : y1.length + q0.length < 8796093022208
   ·rw [if_pos c4] at H
    have LMc4:= mk c4
    clear c4
    obtain ⟨a4,d3⟩ : ∃ y_ : List (S50),y_ = (y1 ++ q0):= ⟨_,rfl⟩
    replace H : (some (m2,z2,a4)) = some (r1,r2,r3):= by first|(rw [d3];with_reducible exact H)|(have H2_:= (Option.bind_some _ _).symm.trans H;rw [d3];with_reducible exact H2_)|(have H2_:= (Option.bind_some _ _).symm.trans H;with_reducible exact H2_)|with_reducible exact H|(rw [d3];exact H)|exact H
    have z4:= mk d3
    clear d3
    simp only [Option.some.injEq,Prod.mk.injEq] at H
    obtain ⟨rfl,rfl,rfl⟩:= H
    go_enter Try.func28,Try.ntmps28
    try go_wp2_with (first|((with_reducible refine gate_dst (N:= 1) rfl ?_);refine box_event ?hg (N:= 1) ?hd (cs:= #[.slice m1 z0.length g1,.slice k1 v0.length d1,.slice j1 q0.length b1]) (t:= 29) ?hr ?_;(case hd => rfl);(case hg => rfl);(case hr => first|(go_simp;done)|(go_simp;rfl));intro d0 hg w5 hbox hb;have n0_:= mk (below_step (by repeat (first|(with_reducible first|exact HB.out|apply below_alloc|apply pw_below_drewN|apply below_drew1)|exact HB.out)) hb);have n1_:= mk (hbox);have n2_:= mk ((by rw [hg];exact (below_size (by repeat (first|(with_reducible first|exact HB.out|apply below_alloc|apply pw_below_drewN|apply below_drew1)|exact HB.out))) : w.heap.size ≤ d0));have n3_:= mk ((by rw [hg];exact (below_size (by repeat (first|(with_reducible first|exact HB.out|apply below_alloc|apply pw_below_drewN|apply below_drew1)|exact HB.out))) : w.heap.size ≤ d0));clear HB;have HB:= n0_;have a0:= n1_;have q5:= n2_;have j0:= n3_;clear n0_ n1_ n2_ n3_;clear hb hbox hg)|((with_reducible refine gate_dst (N:= 2) rfl ?_);refine box_event ?hg (N:= 2) ?hd (cs:= #[.slice none 0 0,.slice none 0 0,.slice none 0 0]) (t:= 29) ?hr ?_;(case hd => rfl);(case hg => rfl);(case hr => first|(go_simp;done)|(go_simp;rfl));intro g0 hg w6 hbox hb;have n0_:= mk (blk_below (g:= d0) (o:= .cells #[.slice m1 z0.length g1,.slice k1 v0.length d1,.slice j1 q0.length b1] 29 (0,0)) (ub a0.out) hb);have n1_:= mk (below_step (by repeat (first|(with_reducible first|exact HB.out|apply below_alloc|apply pw_below_drewN|apply below_drew1|refine below_set ?_ j0.out)|exact HB.out)) hb);have n2_:= mk (hbox);have n3_:= mk ((by rw [hg];exact (below_size (by repeat (first|(with_reducible first|exact HB.out|apply below_alloc|apply pw_below_drewN|apply below_drew1|refine below_set ?_ j0.out)|exact HB.out))) : w.heap.size ≤ g0));have n4_:= mk ((by rw [hg];exact (below_size (by repeat (first|(with_reducible first|exact HB.out|apply below_alloc|apply pw_below_drewN|apply below_drew1|refine below_set ?_ j0.out)|exact HB.out))) : w.heap.size ≤ g0));have n5_:= mk ((by rw [hg];exact Nat.ne_of_lt (blk_lt (g:= d0) (o:= .cells #[.slice m1 z0.length g1,.slice k1 v0.length d1,.slice j1 q0.length b1] 29 (0,0)) (ub a0.out)) : d0 ≠ g0));have n6_:= mk ((by rw [hg];exact Nat.ne_of_gt (blk_lt (g:= d0) (o:= .cells #[.slice m1 z0.length g1,.slice k1 v0.length d1,.slice j1 q0.length b1] 29 (0,0)) (ub a0.out)) : g0 ≠ d0));clear a0;clear HB;have a0:= n0_;have HB:= n1_;have b0:= n2_;have o5:= n3_;have k0:= n4_;have o1:= n5_;have o2:= n6_;clear n0_ n1_ n2_ n3_ n4_ n5_ n6_;clear hb hbox hg))
    have n0_:= mk (blk_drew a0.out)
    have n1_:= mk (blk_drew b0.out)
    have n2_:= mk (below_drew1 HB.out)
    clear a0
    clear b0
    clear HB
    have a0:= n0_
    have b0:= n1_
    have HB:= n2_
    clear n0_ n1_ n2_
    refine start_ (n:= 14) (S:= fun w' => w'.cell? ⟨d0,0,none⟩ = some (.slice m1 z0.length g1) ∧ w'.cell? ⟨d0,1,none⟩ = some (.slice k1 v0.length d1) ∧ w'.cell? ⟨d0,2,none⟩ = some (.slice j1 q0.length b1)) (ds:= []) #[F_,F_,F_,F_,F_,F_,F_,F_,F_,F_,F_,F_,F_,F_] (by kernel_rfl) rfl rfl ⟨(blk_cell a0.out 0).trans rfl,(blk_cell a0.out 1).trans rfl,(blk_cell a0.out 2).trans rfl⟩ (fun hHeld => ?_);refine with_tabW spec_l4Copy.tab1 spec_l4Copy.bits1 (fun HT_ HW_ => ?_)
    generalize w6.drew = w7 at a0 b0 HB hHeld ⊢
    refine pure_ (i:= 1) (N:= some 4) (v:= ?_) (a':= ?_) #[F_,T_,F_,F_,F_,F_,F_,F_,F_,F_,F_,F_,F_,F_] rfl rfl (any_of HT_.out (by kernel_rfl)) (fun _ _ _ h => h) (Or.inl ⟨by rfl,?_⟩) ?_ ?_
    rotate_left
    ·intro w'
     go_simp
     with_reducible rfl
    rotate_left
    ·simp only [sp,i64_w,i32_w]
     rfl
    refine pure_ (i:= 5) (N:= some 8) (v:= ?_) (a':= ?_) #[F_,T_,F_,F_,F_,T_,F_,F_,F_,F_,F_,F_,F_,F_] rfl rfl (any_of HT_.out (by kernel_rfl)) (fun _ _ _ h => h) (Or.inl ⟨by rfl,?_⟩) ?_ ?_
    rotate_left
    ·intro w'
     go_simp
     with_reducible rfl
    rotate_left
    ·simp only [sp,i64_w,i32_w]
     rfl
    refine pure_ (i:= 9) (N:= some 12) (v:= ?_) (a':= ?_) #[F_,T_,F_,F_,F_,T_,F_,F_,F_,T_,F_,F_,F_,F_] rfl rfl (any_of HT_.out (by kernel_rfl)) (fun _ _ _ h => h) (Or.inl ⟨by rfl,?_⟩) ?_ ?_
    rotate_left
    ·intro w'
     go_simp
     with_reducible rfl
    rotate_left
    ·simp only [sp,i64_w,i32_w]
     rfl
    refine take_ (i:= 2) (N:= some 5) (v:= ?_) (a':= ?_) #[F_,T_,T_,F_,F_,T_,F_,F_,F_,T_,F_,F_,F_,F_] rfl rfl (take_ofW HT_.out HW_.out (by kernel_rfl)) (fun _ _ _ h => h) (Or.inl ⟨by rfl,?_⟩) hHeld ?_ ?_
    rotate_left
    ·rintro w' ⟨s0,s1,s2⟩
     go_simp
     with_reducible rfl
    rotate_left
    ·simp only [sp,i64_w,i32_w]
     rfl
    refine take_ (i:= 6) (N:= some 9) (v:= ?_) (a':= ?_) #[F_,T_,T_,F_,F_,T_,T_,F_,F_,T_,F_,F_,F_,F_] rfl rfl (take_ofW HT_.out HW_.out (by kernel_rfl)) (fun _ _ _ h => h) (Or.inl ⟨by rfl,?_⟩) hHeld ?_ ?_
    rotate_left
    ·rintro w' ⟨s0,s1,s2⟩
     go_simp
     with_reducible rfl
    rotate_left
    ·simp only [sp,i64_w,i32_w]
     rfl
    refine take_ (i:= 10) (N:= some 13) (v:= ?_) (a':= ?_) #[F_,T_,T_,F_,F_,T_,T_,F_,F_,T_,T_,F_,F_,F_] rfl rfl (take_ofW HT_.out HW_.out (by kernel_rfl)) (fun _ _ _ h => h) (Or.inl ⟨by rfl,?_⟩) hHeld ?_ ?_
    rotate_left
    ·rintro w' ⟨s0,s1,s2⟩
     go_simp
     with_reducible rfl
    rotate_left
    ·simp only [sp,i64_w,i32_w]
     rfl
    refine join_ (σ:= Value × Value × Value × Value × Value) 3 #[T_,T_,T_,T_,T_,T_,T_,T_,T_,T_,T_,F_,F_,F_] (fun s_ => [(3,s_.1),(6,s_.2.1),(7,s_.2.2.1),(10,s_.2.2.2.1),(11,s_.2.2.2.2)]) (fun s_ w' => (w'.cell? ⟨d0,0,none⟩ = some (.slice m1 z0.length g1) ∧ w'.cell? ⟨d0,1,none⟩ = some (.slice k1 v0.length d1) ∧ w'.cell? ⟨d0,2,none⟩ = some (.slice j1 q0.length b1)) ∧ (Kd.R (Kd.int .i64) 3 w' w.heap.size (fun k_ => some k_ ≠ (s_.2.2.2.1 : Value).ownBlock) s_.2.1 m2) ∧ (Kd.R (Kd.int .i64) 3 w' w.heap.size (fun k_ => some k_ ≠ (s_.2.1 : Value).ownBlock) s_.2.2.2.1 z2) ∧ (Kd.R k50 50 w' w.heap.size (fun _ => True) s_.2.2.2.2 y1) ∧ (w'.heap[d0]? = some (.cells #[.slice m1 z0.length g1,.slice k1 v0.length d1,.slice j1 q0.length b1] 29 (0,0))) ∧ (w'.heap[g0]? = some (.cells #[.slice none 0 0,.slice none 0 0,.slice none 0 0] 29 (0,0))) ∧ (Below w.heap.size w w')) ?_ ?_
    rotate_left
    ·intro hJ0_3_4_7_8
     refine join_ (σ:= Value × Value × Value × Value) 4 #[T_,T_,T_,T_,T_,T_,T_,T_,F_,T_,T_,F_,F_,F_] (fun s_ => [(3,s_.1),(6,s_.2.1),(7,s_.2.2.1),(10,s_.2.2.2)]) (fun s_ w' => (w'.cell? ⟨d0,0,none⟩ = some (.slice m1 z0.length g1) ∧ w'.cell? ⟨d0,1,none⟩ = some (.slice k1 v0.length d1) ∧ w'.cell? ⟨d0,2,none⟩ = some (.slice j1 q0.length b1)) ∧ (Kd.R (Kd.int .i64) 3 w' w.heap.size (fun k_ => some k_ ≠ (s_.2.2.2 : Value).ownBlock) s_.2.1 m2) ∧ (Kd.R (Kd.int .i64) 3 w' w.heap.size (fun k_ => some k_ ≠ (s_.2.1 : Value).ownBlock) s_.2.2.2 z2) ∧ (w'.heap[d0]? = some (.cells #[.slice m1 z0.length g1,.slice k1 v0.length d1,.slice j1 q0.length b1] 29 (0,0))) ∧ (w'.heap[g0]? = some (.cells #[.slice none 0 0,.slice none 0 0,.slice none 0 0] 29 (0,0))) ∧ (Below w.heap.size w w')) ?_ ?_
     rotate_left
     ·intro hJ0_3_4_7
      refine join_ (σ:= Value × Value × Value × Value) 4 #[T_,T_,T_,T_,T_,T_,T_,F_,T_,T_,T_,F_,F_,F_] (fun s_ => [(3,s_.1),(6,s_.2.1),(7,s_.2.2.1),(11,s_.2.2.2)]) (fun s_ w' => (w'.cell? ⟨d0,0,none⟩ = some (.slice m1 z0.length g1) ∧ w'.cell? ⟨d0,1,none⟩ = some (.slice k1 v0.length d1) ∧ w'.cell? ⟨d0,2,none⟩ = some (.slice j1 q0.length b1)) ∧ (Kd.R (Kd.int .i64) 3 w' w.heap.size (fun k_ => some k_ ≠ (s_.2.2.1 : Value).ownBlock) s_.2.1 m2) ∧ (Kd.R (Kd.int .i64) 3 w' w.heap.size (fun k_ => some k_ ≠ (s_.2.1 : Value).ownBlock) s_.2.2.1 d2) ∧ (Kd.R k50 50 w' w.heap.size (fun _ => True) s_.2.2.2 y1) ∧ (w'.heap[d0]? = some (.cells #[.slice m1 z0.length g1,.slice k1 v0.length d1,.slice j1 q0.length b1] 29 (0,0))) ∧ (w'.heap[g0]? = some (.cells #[.slice none 0 0,.slice none 0 0,.slice none 0 0] 29 (0,0))) ∧ (Below w.heap.size w w')) ?_ ?_
      rotate_left
      ·intro hJ0_3_4_8
       refine join_ (σ:= Value × Value × Value) 5 #[T_,T_,T_,T_,T_,T_,T_,F_,F_,T_,T_,F_,F_,F_] (fun s_ => [(3,s_.1),(6,s_.2.1),(7,s_.2.2)]) (fun s_ w' => (w'.cell? ⟨d0,0,none⟩ = some (.slice m1 z0.length g1) ∧ w'.cell? ⟨d0,1,none⟩ = some (.slice k1 v0.length d1) ∧ w'.cell? ⟨d0,2,none⟩ = some (.slice j1 q0.length b1)) ∧ (Kd.R (Kd.int .i64) 3 w' w.heap.size (fun k_ => some k_ ≠ (s_.2.2 : Value).ownBlock) s_.2.1 m2) ∧ (Kd.R (Kd.int .i64) 3 w' w.heap.size (fun k_ => some k_ ≠ (s_.2.1 : Value).ownBlock) s_.2.2 d2) ∧ (w'.heap[d0]? = some (.cells #[.slice m1 z0.length g1,.slice k1 v0.length d1,.slice j1 q0.length b1] 29 (0,0))) ∧ (w'.heap[g0]? = some (.cells #[.slice none 0 0,.slice none 0 0,.slice none 0 0] 29 (0,0))) ∧ (Below w.heap.size w w')) ?_ ?_
       rotate_left
       ·intro hJ0_3_4
        refine join_ (σ:= Value × Value × Value) 5 #[T_,T_,T_,T_,F_,T_,T_,F_,T_,T_,T_,F_,F_,F_] (fun s_ => [(3,s_.1),(6,s_.2.1),(11,s_.2.2)]) (fun s_ w' => (w'.cell? ⟨d0,0,none⟩ = some (.slice m1 z0.length g1) ∧ w'.cell? ⟨d0,1,none⟩ = some (.slice k1 v0.length d1) ∧ w'.cell? ⟨d0,2,none⟩ = some (.slice j1 q0.length b1)) ∧ (Kd.R (Kd.int .i64) 3 w' w.heap.size (fun _ => True) s_.2.1 m2) ∧ (Kd.R k50 50 w' w.heap.size (fun _ => True) s_.2.2 y1) ∧ (w'.heap[d0]? = some (.cells #[.slice m1 z0.length g1,.slice k1 v0.length d1,.slice j1 q0.length b1] 29 (0,0))) ∧ (w'.heap[g0]? = some (.cells #[.slice none 0 0,.slice none 0 0,.slice none 0 0] 29 (0,0))) ∧ (Below w.heap.size w w')) ?_ ?_
        rotate_left
        ·intro hJ0_3_8
         refine join_ (σ:= Value × Value × Value) 5 #[T_,T_,T_,F_,T_,T_,T_,F_,T_,T_,T_,F_,F_,F_] (fun s_ => [(3,s_.1),(7,s_.2.1),(11,s_.2.2)]) (fun s_ w' => (w'.cell? ⟨d0,0,none⟩ = some (.slice m1 z0.length g1) ∧ w'.cell? ⟨d0,1,none⟩ = some (.slice k1 v0.length d1) ∧ w'.cell? ⟨d0,2,none⟩ = some (.slice j1 q0.length b1)) ∧ (Kd.R (Kd.int .i64) 3 w' w.heap.size (fun k_ => some k_ ≠ (s_.2.1 : Value).ownBlock) s_.1 q2) ∧ (Kd.R (Kd.int .i64) 3 w' w.heap.size (fun k_ => some k_ ≠ (s_.1 : Value).ownBlock) s_.2.1 d2) ∧ (Kd.R k50 50 w' w.heap.size (fun _ => True) s_.2.2 y1) ∧ (w'.heap[d0]? = some (.cells #[.slice m1 z0.length g1,.slice k1 v0.length d1,.slice j1 q0.length b1] 29 (0,0))) ∧ (w'.heap[g0]? = some (.cells #[.slice none 0 0,.slice none 0 0,.slice none 0 0] 29 (0,0))) ∧ (Below w.heap.size w w')) ?_ ?_
         rotate_left
         ·intro hJ0_4_8
          refine join_ (σ:= Value × Value) 6 #[T_,T_,T_,T_,F_,T_,T_,F_,F_,T_,T_,F_,F_,F_] (fun s_ => [(3,s_.1),(6,s_.2)]) (fun s_ w' => (w'.cell? ⟨d0,0,none⟩ = some (.slice m1 z0.length g1) ∧ w'.cell? ⟨d0,1,none⟩ = some (.slice k1 v0.length d1) ∧ w'.cell? ⟨d0,2,none⟩ = some (.slice j1 q0.length b1)) ∧ (Kd.R (Kd.int .i64) 3 w' w.heap.size (fun _ => True) s_.2 m2) ∧ (w'.heap[d0]? = some (.cells #[.slice m1 z0.length g1,.slice k1 v0.length d1,.slice j1 q0.length b1] 29 (0,0))) ∧ (w'.heap[g0]? = some (.cells #[.slice none 0 0,.slice none 0 0,.slice none 0 0] 29 (0,0))) ∧ (Below w.heap.size w w')) ?_ ?_
          rotate_left
          ·intro hJ0_3
           refine join_ (σ:= Value × Value) 6 #[T_,T_,T_,F_,T_,T_,T_,F_,F_,T_,T_,F_,F_,F_] (fun s_ => [(3,s_.1),(7,s_.2)]) (fun s_ w' => (w'.cell? ⟨d0,0,none⟩ = some (.slice m1 z0.length g1) ∧ w'.cell? ⟨d0,1,none⟩ = some (.slice k1 v0.length d1) ∧ w'.cell? ⟨d0,2,none⟩ = some (.slice j1 q0.length b1)) ∧ (Kd.R (Kd.int .i64) 3 w' w.heap.size (fun k_ => some k_ ≠ (s_.2 : Value).ownBlock) s_.1 q2) ∧ (Kd.R (Kd.int .i64) 3 w' w.heap.size (fun k_ => some k_ ≠ (s_.1 : Value).ownBlock) s_.2 d2) ∧ (w'.heap[d0]? = some (.cells #[.slice m1 z0.length g1,.slice k1 v0.length d1,.slice j1 q0.length b1] 29 (0,0))) ∧ (w'.heap[g0]? = some (.cells #[.slice none 0 0,.slice none 0 0,.slice none 0 0] 29 (0,0))) ∧ (Below w.heap.size w w')) ?_ ?_
           rotate_left
           ·intro hJ0_4
            refine join_ (σ:= Value × Value) 6 #[T_,T_,T_,F_,F_,T_,T_,F_,T_,T_,T_,F_,F_,F_] (fun s_ => [(3,s_.1),(11,s_.2)]) (fun s_ w' => (w'.cell? ⟨d0,0,none⟩ = some (.slice m1 z0.length g1) ∧ w'.cell? ⟨d0,1,none⟩ = some (.slice k1 v0.length d1) ∧ w'.cell? ⟨d0,2,none⟩ = some (.slice j1 q0.length b1)) ∧ (Kd.R (Kd.int .i64) 3 w' w.heap.size (fun _ => True) s_.1 q2) ∧ (Kd.R k50 50 w' w.heap.size (fun _ => True) s_.2 y1) ∧ (w'.heap[d0]? = some (.cells #[.slice m1 z0.length g1,.slice k1 v0.length d1,.slice j1 q0.length b1] 29 (0,0))) ∧ (w'.heap[g0]? = some (.cells #[.slice none 0 0,.slice none 0 0,.slice none 0 0] 29 (0,0))) ∧ (Below w.heap.size w w')) ?_ ?_
            rotate_left
            ·intro hJ0_8
             refine join_ (σ:= Value × Value) 6 #[F_,T_,T_,F_,T_,T_,T_,F_,T_,T_,T_,F_,F_,F_] (fun s_ => [(7,s_.1),(11,s_.2)]) (fun s_ w' => (w'.cell? ⟨d0,0,none⟩ = some (.slice m1 z0.length g1) ∧ w'.cell? ⟨d0,1,none⟩ = some (.slice k1 v0.length d1) ∧ w'.cell? ⟨d0,2,none⟩ = some (.slice j1 q0.length b1)) ∧ (Kd.R (Kd.int .i64) 3 w' w.heap.size (fun _ => True) s_.1 d2) ∧ (Kd.R k50 50 w' w.heap.size (fun _ => True) s_.2 y1) ∧ (w'.heap[d0]? = some (.cells #[.slice m1 z0.length g1,.slice k1 v0.length d1,.slice j1 q0.length b1] 29 (0,0))) ∧ (w'.heap[g0]? = some (.cells #[.slice none 0 0,.slice none 0 0,.slice none 0 0] 29 (0,0))) ∧ (Below w.heap.size w w')) ?_ ?_
             rotate_left
             ·intro hJ4_8
              refine join_ (σ:= Value) 7 #[T_,T_,T_,F_,F_,T_,T_,F_,F_,T_,T_,F_,F_,F_] (fun s_ => [(3,s_)]) (fun s_ w' => (w'.cell? ⟨d0,0,none⟩ = some (.slice m1 z0.length g1) ∧ w'.cell? ⟨d0,1,none⟩ = some (.slice k1 v0.length d1) ∧ w'.cell? ⟨d0,2,none⟩ = some (.slice j1 q0.length b1)) ∧ (Kd.R (Kd.int .i64) 3 w' w.heap.size (fun _ => True) s_ q2) ∧ (w'.heap[d0]? = some (.cells #[.slice m1 z0.length g1,.slice k1 v0.length d1,.slice j1 q0.length b1] 29 (0,0))) ∧ (w'.heap[g0]? = some (.cells #[.slice none 0 0,.slice none 0 0,.slice none 0 0] 29 (0,0))) ∧ (Below w.heap.size w w')) ?_ ?_
              rotate_left
              ·intro hJ0
               refine join_ (σ:= Value) 7 #[F_,T_,T_,F_,T_,T_,T_,F_,F_,T_,T_,F_,F_,F_] (fun s_ => [(7,s_)]) (fun s_ w' => (w'.cell? ⟨d0,0,none⟩ = some (.slice m1 z0.length g1) ∧ w'.cell? ⟨d0,1,none⟩ = some (.slice k1 v0.length d1) ∧ w'.cell? ⟨d0,2,none⟩ = some (.slice j1 q0.length b1)) ∧ (Kd.R (Kd.int .i64) 3 w' w.heap.size (fun _ => True) s_ d2) ∧ (w'.heap[d0]? = some (.cells #[.slice m1 z0.length g1,.slice k1 v0.length d1,.slice j1 q0.length b1] 29 (0,0))) ∧ (w'.heap[g0]? = some (.cells #[.slice none 0 0,.slice none 0 0,.slice none 0 0] 29 (0,0))) ∧ (Below w.heap.size w w')) ?_ ?_
               rotate_left
               ·intro hJ4
                refine join_ (σ:= Value) 7 #[F_,T_,T_,F_,F_,T_,T_,F_,T_,T_,T_,F_,F_,F_] (fun s_ => [(11,s_)]) (fun s_ w' => (w'.cell? ⟨d0,0,none⟩ = some (.slice m1 z0.length g1) ∧ w'.cell? ⟨d0,1,none⟩ = some (.slice k1 v0.length d1) ∧ w'.cell? ⟨d0,2,none⟩ = some (.slice j1 q0.length b1)) ∧ (Kd.R k50 50 w' w.heap.size (fun _ => True) s_ y1) ∧ (w'.heap[d0]? = some (.cells #[.slice m1 z0.length g1,.slice k1 v0.length d1,.slice j1 q0.length b1] 29 (0,0))) ∧ (w'.heap[g0]? = some (.cells #[.slice none 0 0,.slice none 0 0,.slice none 0 0] 29 (0,0))) ∧ (Below w.heap.size w w')) ?_ ?_
                rotate_left
                ·intro hJ8
                 refine three_ (i:= 0) (j:= 4) (k:= 8) (Ni:= some 3) (Nj:= some 7) (Nk:= some 11) #[T_,T_,T_,F_,F_,T_,T_,F_,F_,T_,T_,F_,F_,F_] #[F_,T_,T_,F_,T_,T_,T_,F_,F_,T_,T_,F_,F_,F_] #[F_,T_,T_,F_,F_,T_,T_,F_,T_,T_,T_,F_,F_,F_] rfl rfl rfl rfl rfl rfl (three_of HT_.out (by kernel_rfl)) (by decide) (by decide) (by decide) (fun K hK => ?_) (fun K hK => ?_) (fun K hK => ?_)
                 ·skip
                  refine Kd.R_lit_step (Kd.int .i64) _ 3 ?hg (N:= 3) ?hd (xs:= ([] : List Int)) (inner:= []) (ok:= fun _ => True) (okp:= fun _ => True) ?hr ?hp (fun _ hk => hk) trivial (Below.refl _ _) (Nat.le_refl _) (by simp) ?_;(case hd => rfl);(case hg => rfl);(case hr => first|(go_simp;done)|(go_simp;rfl));(case hp => exact (Reps.none _ _))
                  intro v1 w8 ho9 hb hg_ hnew_
                  clear hg_ hnew_
                  (first|rw [← y2.out] at ho9|(simp only [Int.reduceToNat] at ho9;rw [← y2.out] at ho9))
                  have n0_:= mk (Kd.R_lower ho9 (below_size (by repeat (first|(with_reducible first|exact HB.out|apply below_alloc|apply pw_below_drewN|apply below_drew1|refine below_set ?_ j0.out|refine below_set ?_ k0.out)|exact HB.out))))
                  have n1_:= mk (blk_below (g:= d0) (o:= .cells #[.slice m1 z0.length g1,.slice k1 v0.length d1,.slice j1 q0.length b1] 29 (0,0)) (ub a0.out) hb)
                  have n2_:= mk (blk_below (g:= g0) (o:= .cells #[.slice none 0 0,.slice none 0 0,.slice none 0 0] 29 (0,0)) (ub b0.out) hb)
                  have n3_:= mk (below_step (by repeat (first|(with_reducible first|exact HB.out|apply below_alloc|apply pw_below_drewN|apply below_drew1|refine below_set ?_ j0.out|refine below_set ?_ k0.out)|exact HB.out)) hb)
                  clear a0
                  clear b0
                  clear HB
                  have a1:= n0_
                  have a0:= n1_
                  have b0:= n2_
                  have HB:= n3_
                  clear n0_ n1_ n2_ n3_
                  clear hb ho9
                  refine hK.out _ _ ⟨(blk_cell a0.out 0).trans rfl,(blk_cell a0.out 1).trans rfl,(blk_cell a0.out 2).trans rfl⟩ (fun hHeld => ?_)
                  clear hK K
                  refine norm_ (a':= ?_) ?_ ?_
                  rotate_left
                  ·show Act.put _ (some 3) _ = _
                   simp only [sp,i64_w,i32_w]
                   rfl
                  exact norm_ (by first|(simp only [putAll,Act.put,List.setIfInBounds_toArray,List.set_cons_zero,List.set_cons_succ];done)|(simp only [putAll,Act.put,List.setIfInBounds_toArray,List.set_cons_zero,List.set_cons_succ];rfl)) (hJ0 (v1) _ ⟨hHeld,(up a1.out),(ub a0.out),(ub b0.out),(by repeat (first|(with_reducible first|exact HB.out|apply below_alloc|apply pw_below_drewN|apply below_drew1|refine below_set ?_ j0.out|refine below_set ?_ k0.out)|exact HB.out))⟩)
                 ·skip
                  refine Kd.R_lit_step (Kd.int .i64) _ 3 ?hg (N:= 7) ?hd (xs:= ([] : List Int)) (inner:= []) (ok:= fun _ => True) (okp:= fun _ => True) ?hr ?hp (fun _ hk => hk) trivial (Below.refl _ _) (Nat.le_refl _) (by simp) ?_;(case hd => rfl);(case hg => rfl);(case hr => first|(go_simp;done)|(go_simp;rfl));(case hp => exact (Reps.none _ _))
                  intro q1 w8 ho9 hb hg_ hnew_
                  clear hg_ hnew_
                  (first|rw [← k2.out] at ho9|(simp only [Int.reduceToNat] at ho9;rw [← k2.out] at ho9))
                  have n0_:= mk (Kd.R_lower ho9 (below_size (by repeat (first|(with_reducible first|exact HB.out|apply below_alloc|apply pw_below_drewN|apply below_drew1|refine below_set ?_ j0.out|refine below_set ?_ k0.out)|exact HB.out))))
                  have n1_:= mk (blk_below (g:= d0) (o:= .cells #[.slice m1 z0.length g1,.slice k1 v0.length d1,.slice j1 q0.length b1] 29 (0,0)) (ub a0.out) hb)
                  have n2_:= mk (blk_below (g:= g0) (o:= .cells #[.slice none 0 0,.slice none 0 0,.slice none 0 0] 29 (0,0)) (ub b0.out) hb)
                  have n3_:= mk (below_step (by repeat (first|(with_reducible first|exact HB.out|apply below_alloc|apply pw_below_drewN|apply below_drew1|refine below_set ?_ j0.out|refine below_set ?_ k0.out)|exact HB.out)) hb)
                  clear a0
                  clear b0
                  clear HB
                  have o0:= n0_
                  have a0:= n1_
                  have b0:= n2_
                  have HB:= n3_
                  clear n0_ n1_ n2_ n3_
                  clear hb ho9
                  refine hK.out _ _ ⟨(blk_cell a0.out 0).trans rfl,(blk_cell a0.out 1).trans rfl,(blk_cell a0.out 2).trans rfl⟩ (fun hHeld => ?_)
                  clear hK K
                  refine norm_ (a':= ?_) ?_ ?_
                  rotate_left
                  ·show Act.put _ (some 7) _ = _
                   simp only [sp,i64_w,i32_w]
                   rfl
                  exact norm_ (by first|(simp only [putAll,Act.put,List.setIfInBounds_toArray,List.set_cons_zero,List.set_cons_succ];done)|(simp only [putAll,Act.put,List.setIfInBounds_toArray,List.set_cons_zero,List.set_cons_succ];rfl)) (hJ4 (q1) _ ⟨hHeld,(up o0.out),(ub a0.out),(ub b0.out),(by repeat (first|(with_reducible first|exact HB.out|apply below_alloc|apply pw_below_drewN|apply below_drew1|refine below_set ?_ j0.out|refine below_set ?_ k0.out)|exact HB.out))⟩)
                 ·skip
                  refine Kd.R_lit_step k50 _ 50 ?hg (N:= 11) ?hd (xs:= ([] : List (S50))) (inner:= []) (ok:= fun _ => True) (okp:= fun _ => True) ?hr ?hp (fun _ hk => hk) trivial (Below.refl _ _) (Nat.le_refl _) (by simp) ?_;(case hd => rfl);(case hg => rfl);(case hr => first|(go_simp;done)|(go_simp;rfl));(case hp => exact (Reps.none _ _))
                  intro a2 w8 ho9 hb hg_ hnew_
                  clear hg_ hnew_
                  (first|rw [← g2.out] at ho9|(simp only [Int.reduceToNat] at ho9;rw [← g2.out] at ho9))
                  have n0_:= mk (Kd.R_lower ho9 (below_size (by repeat (first|(with_reducible first|exact HB.out|apply below_alloc|apply pw_below_drewN|apply below_drew1|refine below_set ?_ j0.out|refine below_set ?_ k0.out)|exact HB.out))))
                  have n1_:= mk (blk_below (g:= d0) (o:= .cells #[.slice m1 z0.length g1,.slice k1 v0.length d1,.slice j1 q0.length b1] 29 (0,0)) (ub a0.out) hb)
                  have n2_:= mk (blk_below (g:= g0) (o:= .cells #[.slice none 0 0,.slice none 0 0,.slice none 0 0] 29 (0,0)) (ub b0.out) hb)
                  have n3_:= mk (below_step (by repeat (first|(with_reducible first|exact HB.out|apply below_alloc|apply pw_below_drewN|apply below_drew1|refine below_set ?_ j0.out|refine below_set ?_ k0.out)|exact HB.out)) hb)
                  clear a0
                  clear b0
                  clear HB
                  have m0:= n0_
                  have a0:= n1_
                  have b0:= n2_
                  have HB:= n3_
                  clear n0_ n1_ n2_ n3_
                  clear hb ho9
                  refine hK.out _ _ ⟨(blk_cell a0.out 0).trans rfl,(blk_cell a0.out 1).trans rfl,(blk_cell a0.out 2).trans rfl⟩ (fun hHeld => ?_)
                  clear hK K
                  refine norm_ (a':= ?_) ?_ ?_
                  rotate_left
                  ·show Act.put _ (some 11) _ = _
                   simp only [sp,i64_w,i32_w]
                   rfl
                  exact norm_ (by first|(simp only [putAll,Act.put,List.setIfInBounds_toArray,List.set_cons_zero,List.set_cons_succ];done)|(simp only [putAll,Act.put,List.setIfInBounds_toArray,List.set_cons_zero,List.set_cons_succ];rfl)) (hJ8 (a2) _ ⟨hHeld,(up m0.out),(ub a0.out),(ub b0.out),(by repeat (first|(with_reducible first|exact HB.out|apply below_alloc|apply pw_below_drewN|apply below_drew1|refine below_set ?_ j0.out|refine below_set ?_ k0.out)|exact HB.out))⟩)
                ·skip
                 rintro a2 w10 ⟨hS_,h0_,h1_,h2_,h3_⟩
                 have n0_ : Aside0 (Kd.R k50 50 w10 w.heap.size (fun _ => True) a2 y1):= ⟨h0_⟩
                 have n1_ : Aside0 (w10.heap[d0]? = some (.cells #[.slice m1 z0.length g1,.slice k1 v0.length d1,.slice j1 q0.length b1] 29 (0,0))):= ⟨h1_⟩
                 have n2_ : Aside0 (w10.heap[g0]? = some (.cells #[.slice none 0 0,.slice none 0 0,.slice none 0 0] 29 (0,0))):= ⟨h2_⟩
                 have n3_ : Aside0 (Below w.heap.size w w10):= ⟨h3_⟩
                 clear a0
                 clear b0
                 clear HB
                 clear h0_ h1_ h2_ h3_
                 have m0:= n0_
                 have a0:= n1_
                 have b0:= n2_
                 have HB:= n3_
                 clear n0_ n1_ n2_ n3_
                 have hHeld : w10.cell? ⟨d0,0,none⟩ = some (.slice m1 z0.length g1) ∧ w10.cell? ⟨d0,1,none⟩ = some (.slice k1 v0.length d1) ∧ w10.cell? ⟨d0,2,none⟩ = some (.slice j1 q0.length b1):= hS_
                 refine norm_ (a':= ?_) ?_ ?_
                 rotate_left
                 ·simp only [putAll,Act.put,List.setIfInBounds_toArray,List.set_cons_zero,List.set_cons_succ]
                  rfl
                 refine two_ (i:= 0) (j:= 4) (Ni:= some 3) (Nj:= some 7) #[T_,T_,T_,F_,F_,T_,T_,F_,T_,T_,T_,F_,F_,F_] #[F_,T_,T_,F_,T_,T_,T_,F_,T_,T_,T_,F_,F_,F_] rfl rfl rfl rfl (two_of HT_.out (by kernel_rfl)) (by decide) (by decide) (fun K hK => ?_) (fun K hK => ?_)
                 ·skip
                  refine Kd.R_lit_step (Kd.int .i64) _ 3 ?hg (N:= 3) ?hd (xs:= ([] : List Int)) (inner:= []) (ok:= fun _ => True) (okp:= fun _ => True) ?hr ?hp (fun _ hk => hk) trivial (Below.refl _ _) (Nat.le_refl _) (by simp) ?_;(case hd => rfl);(case hg => rfl);(case hr => first|(go_simp;done)|(go_simp;rfl));(case hp => exact (Reps.none _ _))
                  intro v1 w11 z1 hb hg_ hnew_
                  clear hg_ hnew_
                  (first|rw [← y2.out] at z1|(simp only [Int.reduceToNat] at z1;rw [← y2.out] at z1))
                  have n0_:= mk (Kd.R_below (up m0.out) hb)
                  have n1_:= mk (Kd.R_lower z1 (below_size (by repeat (first|(with_reducible first|exact HB.out|apply below_alloc|apply pw_below_drewN|apply below_drew1|refine below_set ?_ j0.out|refine below_set ?_ k0.out)|exact HB.out))))
                  have n2_:= mk (blk_below (g:= d0) (o:= .cells #[.slice m1 z0.length g1,.slice k1 v0.length d1,.slice j1 q0.length b1] 29 (0,0)) (ub a0.out) hb)
                  have n3_:= mk (blk_below (g:= g0) (o:= .cells #[.slice none 0 0,.slice none 0 0,.slice none 0 0] 29 (0,0)) (ub b0.out) hb)
                  have n4_:= mk (below_step (by repeat (first|(with_reducible first|exact HB.out|apply below_alloc|apply pw_below_drewN|apply below_drew1|refine below_set ?_ j0.out|refine below_set ?_ k0.out)|exact HB.out)) hb)
                  clear m0
                  clear a0
                  clear b0
                  clear HB
                  have m0:= n0_
                  have a1:= n1_
                  have a0:= n2_
                  have b0:= n3_
                  have HB:= n4_
                  clear n0_ n1_ n2_ n3_ n4_
                  clear hb z1
                  refine hK.out _ _ ⟨(blk_cell a0.out 0).trans rfl,(blk_cell a0.out 1).trans rfl,(blk_cell a0.out 2).trans rfl⟩ (fun hHeld => ?_)
                  clear hK K
                  refine norm_ (a':= ?_) ?_ ?_
                  rotate_left
                  ·show Act.put _ (some 3) _ = _
                   simp only [sp,i64_w,i32_w]
                   rfl
                  exact norm_ (by first|(simp only [putAll,Act.put,List.setIfInBounds_toArray,List.set_cons_zero,List.set_cons_succ];done)|(simp only [putAll,Act.put,List.setIfInBounds_toArray,List.set_cons_zero,List.set_cons_succ];rfl)) (hJ0_8 (v1,a2) _ ⟨hHeld,(up a1.out),(up m0.out),(ub a0.out),(ub b0.out),(by repeat (first|(with_reducible first|exact HB.out|apply below_alloc|apply pw_below_drewN|apply below_drew1|refine below_set ?_ j0.out|refine below_set ?_ k0.out)|exact HB.out))⟩)
                 ·skip
                  refine Kd.R_lit_step (Kd.int .i64) _ 3 ?hg (N:= 7) ?hd (xs:= ([] : List Int)) (inner:= []) (ok:= fun _ => True) (okp:= fun _ => True) ?hr ?hp (fun _ hk => hk) trivial (Below.refl _ _) (Nat.le_refl _) (by simp) ?_;(case hd => rfl);(case hg => rfl);(case hr => first|(go_simp;done)|(go_simp;rfl));(case hp => exact (Reps.none _ _))
                  intro q1 w11 z1 hb hg_ hnew_
                  clear hg_ hnew_
                  (first|rw [← k2.out] at z1|(simp only [Int.reduceToNat] at z1;rw [← k2.out] at z1))
                  have n0_:= mk (Kd.R_below (up m0.out) hb)
                  have n1_:= mk (Kd.R_lower z1 (below_size (by repeat (first|(with_reducible first|exact HB.out|apply below_alloc|apply pw_below_drewN|apply below_drew1|refine below_set ?_ j0.out|refine below_set ?_ k0.out)|exact HB.out))))
                  have n2_:= mk (blk_below (g:= d0) (o:= .cells #[.slice m1 z0.length g1,.slice k1 v0.length d1,.slice j1 q0.length b1] 29 (0,0)) (ub a0.out) hb)
                  have n3_:= mk (blk_below (g:= g0) (o:= .cells #[.slice none 0 0,.slice none 0 0,.slice none 0 0] 29 (0,0)) (ub b0.out) hb)
                  have n4_:= mk (below_step (by repeat (first|(with_reducible first|exact HB.out|apply below_alloc|apply pw_below_drewN|apply below_drew1|refine below_set ?_ j0.out|refine below_set ?_ k0.out)|exact HB.out)) hb)
                  clear m0
                  clear a0
                  clear b0
                  clear HB
                  have m0:= n0_
                  have o0:= n1_
                  have a0:= n2_
                  have b0:= n3_
                  have HB:= n4_
                  clear n0_ n1_ n2_ n3_ n4_
                  clear hb z1
                  refine hK.out _ _ ⟨(blk_cell a0.out 0).trans rfl,(blk_cell a0.out 1).trans rfl,(blk_cell a0.out 2).trans rfl⟩ (fun hHeld => ?_)
                  clear hK K
                  refine norm_ (a':= ?_) ?_ ?_
                  rotate_left
                  ·show Act.put _ (some 7) _ = _
                   simp only [sp,i64_w,i32_w]
                   rfl
                  exact norm_ (by first|(simp only [putAll,Act.put,List.setIfInBounds_toArray,List.set_cons_zero,List.set_cons_succ];done)|(simp only [putAll,Act.put,List.setIfInBounds_toArray,List.set_cons_zero,List.set_cons_succ];rfl)) (hJ4_8 (q1,a2) _ ⟨hHeld,(up o0.out),(up m0.out),(ub a0.out),(ub b0.out),(by repeat (first|(with_reducible first|exact HB.out|apply below_alloc|apply pw_below_drewN|apply below_drew1|refine below_set ?_ j0.out|refine below_set ?_ k0.out)|exact HB.out))⟩)
               ·skip
                rintro q1 w10 ⟨hS_,h0_,h1_,h2_,h3_⟩
                have n0_ : Aside0 (Kd.R (Kd.int .i64) 3 w10 w.heap.size (fun _ => True) q1 d2):= ⟨h0_⟩
                have n1_ : Aside0 (w10.heap[d0]? = some (.cells #[.slice m1 z0.length g1,.slice k1 v0.length d1,.slice j1 q0.length b1] 29 (0,0))):= ⟨h1_⟩
                have n2_ : Aside0 (w10.heap[g0]? = some (.cells #[.slice none 0 0,.slice none 0 0,.slice none 0 0] 29 (0,0))):= ⟨h2_⟩
                have n3_ : Aside0 (Below w.heap.size w w10):= ⟨h3_⟩
                clear a0
                clear b0
                clear HB
                clear h0_ h1_ h2_ h3_
                have o0:= n0_
                have a0:= n1_
                have b0:= n2_
                have HB:= n3_
                clear n0_ n1_ n2_ n3_
                have hHeld : w10.cell? ⟨d0,0,none⟩ = some (.slice m1 z0.length g1) ∧ w10.cell? ⟨d0,1,none⟩ = some (.slice k1 v0.length d1) ∧ w10.cell? ⟨d0,2,none⟩ = some (.slice j1 q0.length b1):= hS_
                refine norm_ (a':= ?_) ?_ ?_
                rotate_left
                ·simp only [putAll,Act.put,List.setIfInBounds_toArray,List.set_cons_zero,List.set_cons_succ]
                 rfl
                refine two_ (i:= 0) (j:= 8) (Ni:= some 3) (Nj:= some 11) #[T_,T_,T_,F_,T_,T_,T_,F_,F_,T_,T_,F_,F_,F_] #[F_,T_,T_,F_,T_,T_,T_,F_,T_,T_,T_,F_,F_,F_] rfl rfl rfl rfl (two_of HT_.out (by kernel_rfl)) (by decide) (by decide) (fun K hK => ?_) (fun K hK => ?_)
                ·skip
                 refine Kd.R_lit_step (Kd.int .i64) _ 3 ?hg (N:= 3) ?hd (xs:= ([] : List Int)) (inner:= []) (ok:= fun _ => True) (okp:= fun _ => True) ?hr ?hp (fun _ hk => hk) trivial (Below.refl _ _) (Nat.le_refl _) (by simp) ?_;(case hd => rfl);(case hg => rfl);(case hr => first|(go_simp;done)|(go_simp;rfl));(case hp => exact (Reps.none _ _))
                 intro v1 w11 z1 hb hg_ hnew_
                 clear hg_ hnew_
                 (first|rw [← y2.out] at z1|(simp only [Int.reduceToNat] at z1;rw [← y2.out] at z1))
                 have n0_:= mk (Kd.R_elder' (up o0.out) (Kd.R_base z1) hb)
                 have n1_:= mk (Kd.R_lower (Kd.R_new' z1 (Kd.R_lt (up o0.out))) (below_size (by repeat (first|(with_reducible first|exact HB.out|apply below_alloc|apply pw_below_drewN|apply below_drew1|refine below_set ?_ j0.out|refine below_set ?_ k0.out)|exact HB.out))))
                 have n2_:= mk (blk_below (g:= d0) (o:= .cells #[.slice m1 z0.length g1,.slice k1 v0.length d1,.slice j1 q0.length b1] 29 (0,0)) (ub a0.out) hb)
                 have n3_:= mk (blk_below (g:= g0) (o:= .cells #[.slice none 0 0,.slice none 0 0,.slice none 0 0] 29 (0,0)) (ub b0.out) hb)
                 have n4_:= mk (below_step (by repeat (first|(with_reducible first|exact HB.out|apply below_alloc|apply pw_below_drewN|apply below_drew1|refine below_set ?_ j0.out|refine below_set ?_ k0.out)|exact HB.out)) hb)
                 clear o0
                 clear a0
                 clear b0
                 clear HB
                 have o0:= n0_
                 have a1:= n1_
                 have a0:= n2_
                 have b0:= n3_
                 have HB:= n4_
                 clear n0_ n1_ n2_ n3_ n4_
                 clear hb z1
                 refine hK.out _ _ ⟨(blk_cell a0.out 0).trans rfl,(blk_cell a0.out 1).trans rfl,(blk_cell a0.out 2).trans rfl⟩ (fun hHeld => ?_)
                 clear hK K
                 refine norm_ (a':= ?_) ?_ ?_
                 rotate_left
                 ·show Act.put _ (some 3) _ = _
                  simp only [sp,i64_w,i32_w]
                  rfl
                 exact norm_ (by first|(simp only [putAll,Act.put,List.setIfInBounds_toArray,List.set_cons_zero,List.set_cons_succ];done)|(simp only [putAll,Act.put,List.setIfInBounds_toArray,List.set_cons_zero,List.set_cons_succ];rfl)) (hJ0_4 (v1,q1) _ ⟨hHeld,(by exact up (Kd.R_mono a1.out (fun _ hk => hk.2))),(by exact up (Kd.R_mono o0.out (fun _ hk => hk.2))),(ub a0.out),(ub b0.out),(by repeat (first|(with_reducible first|exact HB.out|apply below_alloc|apply pw_below_drewN|apply below_drew1|refine below_set ?_ j0.out|refine below_set ?_ k0.out)|exact HB.out))⟩)
                ·skip
                 refine Kd.R_lit_step k50 _ 50 ?hg (N:= 11) ?hd (xs:= ([] : List (S50))) (inner:= []) (ok:= fun _ => True) (okp:= fun _ => True) ?hr ?hp (fun _ hk => hk) trivial (Below.refl _ _) (Nat.le_refl _) (by simp) ?_;(case hd => rfl);(case hg => rfl);(case hr => first|(go_simp;done)|(go_simp;rfl));(case hp => exact (Reps.none _ _))
                 intro a2 w11 z1 hb hg_ hnew_
                 clear hg_ hnew_
                 (first|rw [← g2.out] at z1|(simp only [Int.reduceToNat] at z1;rw [← g2.out] at z1))
                 have n0_:= mk (Kd.R_below (up o0.out) hb)
                 have n1_:= mk (Kd.R_lower z1 (below_size (by repeat (first|(with_reducible first|exact HB.out|apply below_alloc|apply pw_below_drewN|apply below_drew1|refine below_set ?_ j0.out|refine below_set ?_ k0.out)|exact HB.out))))
                 have n2_:= mk (blk_below (g:= d0) (o:= .cells #[.slice m1 z0.length g1,.slice k1 v0.length d1,.slice j1 q0.length b1] 29 (0,0)) (ub a0.out) hb)
                 have n3_:= mk (blk_below (g:= g0) (o:= .cells #[.slice none 0 0,.slice none 0 0,.slice none 0 0] 29 (0,0)) (ub b0.out) hb)
                 have n4_:= mk (below_step (by repeat (first|(with_reducible first|exact HB.out|apply below_alloc|apply pw_below_drewN|apply below_drew1|refine below_set ?_ j0.out|refine below_set ?_ k0.out)|exact HB.out)) hb)
                 clear o0
                 clear a0
                 clear b0
                 clear HB
                 have o0:= n0_
                 have m0:= n1_
                 have a0:= n2_
                 have b0:= n3_
                 have HB:= n4_
                 clear n0_ n1_ n2_ n3_ n4_
                 clear hb z1
                 refine hK.out _ _ ⟨(blk_cell a0.out 0).trans rfl,(blk_cell a0.out 1).trans rfl,(blk_cell a0.out 2).trans rfl⟩ (fun hHeld => ?_)
                 clear hK K
                 refine norm_ (a':= ?_) ?_ ?_
                 rotate_left
                 ·show Act.put _ (some 11) _ = _
                  simp only [sp,i64_w,i32_w]
                  rfl
                 exact norm_ (by first|(simp only [putAll,Act.put,List.setIfInBounds_toArray,List.set_cons_zero,List.set_cons_succ];done)|(simp only [putAll,Act.put,List.setIfInBounds_toArray,List.set_cons_zero,List.set_cons_succ];rfl)) (hJ4_8 (q1,a2) _ ⟨hHeld,(up o0.out),(up m0.out),(ub a0.out),(ub b0.out),(by repeat (first|(with_reducible first|exact HB.out|apply below_alloc|apply pw_below_drewN|apply below_drew1|refine below_set ?_ j0.out|refine below_set ?_ k0.out)|exact HB.out))⟩)
              ·skip
               rintro v1 w10 ⟨hS_,h0_,h1_,h2_,h3_⟩
               have n0_ : Aside0 (Kd.R (Kd.int .i64) 3 w10 w.heap.size (fun _ => True) v1 q2):= ⟨h0_⟩
               have n1_ : Aside0 (w10.heap[d0]? = some (.cells #[.slice m1 z0.length g1,.slice k1 v0.length d1,.slice j1 q0.length b1] 29 (0,0))):= ⟨h1_⟩
               have n2_ : Aside0 (w10.heap[g0]? = some (.cells #[.slice none 0 0,.slice none 0 0,.slice none 0 0] 29 (0,0))):= ⟨h2_⟩
               have n3_ : Aside0 (Below w.heap.size w w10):= ⟨h3_⟩
               clear a0
               clear b0
               clear HB
               clear h0_ h1_ h2_ h3_
               have a1:= n0_
               have a0:= n1_
               have b0:= n2_
               have HB:= n3_
               clear n0_ n1_ n2_ n3_
               have hHeld : w10.cell? ⟨d0,0,none⟩ = some (.slice m1 z0.length g1) ∧ w10.cell? ⟨d0,1,none⟩ = some (.slice k1 v0.length d1) ∧ w10.cell? ⟨d0,2,none⟩ = some (.slice j1 q0.length b1):= hS_
               refine norm_ (a':= ?_) ?_ ?_
               rotate_left
               ·simp only [putAll,Act.put,List.setIfInBounds_toArray,List.set_cons_zero,List.set_cons_succ]
                rfl
               refine three_ (i:= 3) (j:= 4) (k:= 8) (Ni:= some 6) (Nj:= some 7) (Nk:= some 11) #[T_,T_,T_,T_,F_,T_,T_,F_,F_,T_,T_,F_,F_,F_] #[T_,T_,T_,F_,T_,T_,T_,F_,F_,T_,T_,F_,F_,F_] #[T_,T_,T_,F_,F_,T_,T_,F_,T_,T_,T_,F_,F_,F_] rfl rfl rfl rfl rfl rfl (three_of HT_.out (by kernel_rfl)) (by decide) (by decide) (by decide) (fun K hK => ?_) (fun K hK => ?_) (fun K hK => ?_)
               ·skip
                refine Kd.R_append_rows_step (Kd.int .i64) (w0:= w) w.heap.size (by rfl) (.tmp 3) (.tmp 5) 22 3 (.int .i64 0) 8 rfl Try.underlying22 info3 rfl (by decide) (by omega) v1 q2 z0 _ _ _ (fun _ => True) (fun _ => False) rfl rfl ?aO ?aR (fun _ _ h => h) (fun _ h => h.elim) ?aF ?aB ?aS ?aL ?_
                (case aR => exact uc (Kd.C_below v3.out HB.out))
                (case aB => exact (by repeat (first|(with_reducible first|exact HB.out|apply below_alloc|apply pw_below_drewN|apply below_drew1|refine below_set ?_ j0.out|refine below_set ?_ k0.out)|exact HB.out)))
                (case aF => exact (fun _ _ => trivial))
                (case aO => exact (up a1.out))
                (case aS => exact (below_size (by repeat (first|(with_reducible first|exact HB.out|apply below_alloc|apply pw_below_drewN|apply below_drew1|refine below_set ?_ j0.out|refine below_set ?_ k0.out)|exact HB.out))))
                (case aL => have:= LMc2.out;omega)
                intro b2 w11 ho hb hg hat
                rw [← s3.out] at ho
                have n0_:= mk (blk_grown (g:= d0) (o:= .cells #[.slice m1 z0.length g1,.slice k1 v0.length d1,.slice j1 q0.length b1] 29 (0,0)) (ub a0.out) hg (Kd.R_ne a1.out a0.out (by decide)))
                have n1_:= mk (blk_grown (g:= g0) (o:= .cells #[.slice none 0 0,.slice none 0 0,.slice none 0 0] 29 (0,0)) (ub b0.out) hg (Kd.R_ne a1.out b0.out (by decide)))
                have n2_:= mk (hb)
                have n3_:= mk (ho)
                clear a0
                clear b0
                clear HB
                clear a1
                have a0:= n0_
                have b0:= n1_
                have HB:= n2_
                have y0:= n3_
                clear n0_ n1_ n2_ n3_
                clear ho hb hg hat
                refine hK.out _ _ ⟨(blk_cell a0.out 0).trans rfl,(blk_cell a0.out 1).trans rfl,(blk_cell a0.out 2).trans rfl⟩ (fun hHeld => ?_)
                clear hK K
                refine norm_ (a':= ?_) ?_ ?_
                rotate_left
                ·show Act.put _ (some 6) _ = _
                 simp only [sp,i64_w,i32_w]
                 rfl
                exact norm_ (by first|(simp only [putAll,Act.put,List.setIfInBounds_toArray,List.set_cons_zero,List.set_cons_succ];done)|(simp only [putAll,Act.put,List.setIfInBounds_toArray,List.set_cons_zero,List.set_cons_succ];rfl)) (hJ0_3 (v1,b2) _ ⟨hHeld,(up y0.out),(ub a0.out),(ub b0.out),(by repeat (first|(with_reducible first|exact HB.out|apply below_alloc|apply pw_below_drewN|apply below_drew1|refine below_set ?_ j0.out|refine below_set ?_ k0.out)|exact HB.out))⟩)
               ·skip
                refine Kd.R_lit_step (Kd.int .i64) _ 3 ?hg (N:= 7) ?hd (xs:= ([] : List Int)) (inner:= []) (ok:= fun _ => True) (okp:= fun _ => True) ?hr ?hp (fun _ hk => hk) trivial (Below.refl _ _) (Nat.le_refl _) (by simp) ?_;(case hd => rfl);(case hg => rfl);(case hr => first|(go_simp;done)|(go_simp;rfl));(case hp => exact (Reps.none _ _))
                intro q1 w11 z1 hb hg_ hnew_
                clear hg_ hnew_
                (first|rw [← k2.out] at z1|(simp only [Int.reduceToNat] at z1;rw [← k2.out] at z1))
                have n0_:= mk (Kd.R_elder' (up a1.out) (Kd.R_base z1) hb)
                have n1_:= mk (Kd.R_lower (Kd.R_new' z1 (Kd.R_lt (up a1.out))) (below_size (by repeat (first|(with_reducible first|exact HB.out|apply below_alloc|apply pw_below_drewN|apply below_drew1|refine below_set ?_ j0.out|refine below_set ?_ k0.out)|exact HB.out))))
                have n2_:= mk (blk_below (g:= d0) (o:= .cells #[.slice m1 z0.length g1,.slice k1 v0.length d1,.slice j1 q0.length b1] 29 (0,0)) (ub a0.out) hb)
                have n3_:= mk (blk_below (g:= g0) (o:= .cells #[.slice none 0 0,.slice none 0 0,.slice none 0 0] 29 (0,0)) (ub b0.out) hb)
                have n4_:= mk (below_step (by repeat (first|(with_reducible first|exact HB.out|apply below_alloc|apply pw_below_drewN|apply below_drew1|refine below_set ?_ j0.out|refine below_set ?_ k0.out)|exact HB.out)) hb)
                clear a1
                clear a0
                clear b0
                clear HB
                have a1:= n0_
                have o0:= n1_
                have a0:= n2_
                have b0:= n3_
                have HB:= n4_
                clear n0_ n1_ n2_ n3_ n4_
                clear hb z1
                refine hK.out _ _ ⟨(blk_cell a0.out 0).trans rfl,(blk_cell a0.out 1).trans rfl,(blk_cell a0.out 2).trans rfl⟩ (fun hHeld => ?_)
                clear hK K
                refine norm_ (a':= ?_) ?_ ?_
                rotate_left
                ·show Act.put _ (some 7) _ = _
                 simp only [sp,i64_w,i32_w]
                 rfl
                exact norm_ (by first|(simp only [putAll,Act.put,List.setIfInBounds_toArray,List.set_cons_zero,List.set_cons_succ];done)|(simp only [putAll,Act.put,List.setIfInBounds_toArray,List.set_cons_zero,List.set_cons_succ];rfl)) (hJ0_4 (v1,q1) _ ⟨hHeld,(by exact up (Kd.R_mono a1.out (fun _ hk => hk.2))),(by exact up (Kd.R_mono o0.out (fun _ hk => hk.2))),(ub a0.out),(ub b0.out),(by repeat (first|(with_reducible first|exact HB.out|apply below_alloc|apply pw_below_drewN|apply below_drew1|refine below_set ?_ j0.out|refine below_set ?_ k0.out)|exact HB.out))⟩)
               ·skip
                refine Kd.R_lit_step k50 _ 50 ?hg (N:= 11) ?hd (xs:= ([] : List (S50))) (inner:= []) (ok:= fun _ => True) (okp:= fun _ => True) ?hr ?hp (fun _ hk => hk) trivial (Below.refl _ _) (Nat.le_refl _) (by simp) ?_;(case hd => rfl);(case hg => rfl);(case hr => first|(go_simp;done)|(go_simp;rfl));(case hp => exact (Reps.none _ _))
                intro a2 w11 z1 hb hg_ hnew_
                clear hg_ hnew_
                (first|rw [← g2.out] at z1|(simp only [Int.reduceToNat] at z1;rw [← g2.out] at z1))
                have n0_:= mk (Kd.R_below (up a1.out) hb)
                have n1_:= mk (Kd.R_lower z1 (below_size (by repeat (first|(with_reducible first|exact HB.out|apply below_alloc|apply pw_below_drewN|apply below_drew1|refine below_set ?_ j0.out|refine below_set ?_ k0.out)|exact HB.out))))
                have n2_:= mk (blk_below (g:= d0) (o:= .cells #[.slice m1 z0.length g1,.slice k1 v0.length d1,.slice j1 q0.length b1] 29 (0,0)) (ub a0.out) hb)
                have n3_:= mk (blk_below (g:= g0) (o:= .cells #[.slice none 0 0,.slice none 0 0,.slice none 0 0] 29 (0,0)) (ub b0.out) hb)
                have n4_:= mk (below_step (by repeat (first|(with_reducible first|exact HB.out|apply below_alloc|apply pw_below_drewN|apply below_drew1|refine below_set ?_ j0.out|refine below_set ?_ k0.out)|exact HB.out)) hb)
                clear a1
                clear a0
                clear b0
                clear HB
                have a1:= n0_
                have m0:= n1_
                have a0:= n2_
                have b0:= n3_
                have HB:= n4_
                clear n0_ n1_ n2_ n3_ n4_
                clear hb z1
                refine hK.out _ _ ⟨(blk_cell a0.out 0).trans rfl,(blk_cell a0.out 1).trans rfl,(blk_cell a0.out 2).trans rfl⟩ (fun hHeld => ?_)
                clear hK K
                refine norm_ (a':= ?_) ?_ ?_
                rotate_left
                ·show Act.put _ (some 11) _ = _
                 simp only [sp,i64_w,i32_w]
                 rfl
                exact norm_ (by first|(simp only [putAll,Act.put,List.setIfInBounds_toArray,List.set_cons_zero,List.set_cons_succ];done)|(simp only [putAll,Act.put,List.setIfInBounds_toArray,List.set_cons_zero,List.set_cons_succ];rfl)) (hJ0_8 (v1,a2) _ ⟨hHeld,(up a1.out),(up m0.out),(ub a0.out),(ub b0.out),(by repeat (first|(with_reducible first|exact HB.out|apply below_alloc|apply pw_below_drewN|apply below_drew1|refine below_set ?_ j0.out|refine below_set ?_ k0.out)|exact HB.out))⟩)
             ·skip
              rintro ⟨q1,a2⟩ w12 ⟨hS_,h0_,h1_,h2_,h3_,h4_⟩
              have n0_ : Aside0 (Kd.R (Kd.int .i64) 3 w12 w.heap.size (fun _ => True) q1 d2):= ⟨h0_⟩
              have n1_ : Aside0 (Kd.R k50 50 w12 w.heap.size (fun _ => True) a2 y1):= ⟨h1_⟩
              have n2_ : Aside0 (w12.heap[d0]? = some (.cells #[.slice m1 z0.length g1,.slice k1 v0.length d1,.slice j1 q0.length b1] 29 (0,0))):= ⟨h2_⟩
              have n3_ : Aside0 (w12.heap[g0]? = some (.cells #[.slice none 0 0,.slice none 0 0,.slice none 0 0] 29 (0,0))):= ⟨h3_⟩
              have n4_ : Aside0 (Below w.heap.size w w12):= ⟨h4_⟩
              clear a0
              clear b0
              clear HB
              clear h0_ h1_ h2_ h3_ h4_
              have o0:= n0_
              have m0:= n1_
              have a0:= n2_
              have b0:= n3_
              have HB:= n4_
              clear n0_ n1_ n2_ n3_ n4_
              have hHeld : w12.cell? ⟨d0,0,none⟩ = some (.slice m1 z0.length g1) ∧ w12.cell? ⟨d0,1,none⟩ = some (.slice k1 v0.length d1) ∧ w12.cell? ⟨d0,2,none⟩ = some (.slice j1 q0.length b1):= hS_
              refine norm_ (a':= ?_) ?_ ?_
              rotate_left
              ·simp only [putAll,Act.put,List.setIfInBounds_toArray,List.set_cons_zero,List.set_cons_succ]
               rfl
              refine one_ (i:= 0) (N:= some 3) #[T_,T_,T_,F_,T_,T_,T_,F_,T_,T_,T_,F_,F_,F_] rfl rfl (one_of HT_.out (by kernel_rfl)) (by decide) (fun K hK => ?_)
              refine Kd.R_lit_step (Kd.int .i64) _ 3 ?hg (N:= 3) ?hd (xs:= ([] : List Int)) (inner:= []) (ok:= fun _ => True) (okp:= fun _ => True) ?hr ?hp (fun _ hk => hk) trivial (Below.refl _ _) (Nat.le_refl _) (by simp) ?_;(case hd => rfl);(case hg => rfl);(case hr => first|(go_simp;done)|(go_simp;rfl));(case hp => exact (Reps.none _ _))
              intro v1 w13 v2 hb hg_ hnew_
              clear hg_ hnew_
              (first|rw [← y2.out] at v2|(simp only [Int.reduceToNat] at v2;rw [← y2.out] at v2))
              have n0_:= mk (Kd.R_elder' (up o0.out) (Kd.R_base v2) hb)
              have n1_:= mk (Kd.R_below (up m0.out) hb)
              have n2_:= mk (Kd.R_lower (Kd.R_new' v2 (Kd.R_lt (up o0.out))) (below_size (by repeat (first|(with_reducible first|exact HB.out|apply below_alloc|apply pw_below_drewN|apply below_drew1|refine below_set ?_ j0.out|refine below_set ?_ k0.out)|exact HB.out))))
              have n3_:= mk (blk_below (g:= d0) (o:= .cells #[.slice m1 z0.length g1,.slice k1 v0.length d1,.slice j1 q0.length b1] 29 (0,0)) (ub a0.out) hb)
              have n4_:= mk (blk_below (g:= g0) (o:= .cells #[.slice none 0 0,.slice none 0 0,.slice none 0 0] 29 (0,0)) (ub b0.out) hb)
              have n5_:= mk (below_step (by repeat (first|(with_reducible first|exact HB.out|apply below_alloc|apply pw_below_drewN|apply below_drew1|refine below_set ?_ j0.out|refine below_set ?_ k0.out)|exact HB.out)) hb)
              clear o0
              clear m0
              clear a0
              clear b0
              clear HB
              have o0:= n0_
              have m0:= n1_
              have a1:= n2_
              have a0:= n3_
              have b0:= n4_
              have HB:= n5_
              clear n0_ n1_ n2_ n3_ n4_ n5_
              clear hb v2
              refine hK.out _ _ ⟨(blk_cell a0.out 0).trans rfl,(blk_cell a0.out 1).trans rfl,(blk_cell a0.out 2).trans rfl⟩ (fun hHeld => ?_)
              clear hK K
              refine norm_ (a':= ?_) ?_ ?_
              rotate_left
              ·show Act.put _ (some 3) _ = _
               simp only [sp,i64_w,i32_w]
               rfl
              exact norm_ (by first|(simp only [putAll,Act.put,List.setIfInBounds_toArray,List.set_cons_zero,List.set_cons_succ];done)|(simp only [putAll,Act.put,List.setIfInBounds_toArray,List.set_cons_zero,List.set_cons_succ];rfl)) (hJ0_4_8 (v1,q1,a2) _ ⟨hHeld,(by exact up (Kd.R_mono a1.out (fun _ hk => hk.2))),(by exact up (Kd.R_mono o0.out (fun _ hk => hk.2))),(up m0.out),(ub a0.out),(ub b0.out),(by repeat (first|(with_reducible first|exact HB.out|apply below_alloc|apply pw_below_drewN|apply below_drew1|refine below_set ?_ j0.out|refine below_set ?_ k0.out)|exact HB.out))⟩)
            ·skip
             rintro ⟨v1,a2⟩ w12 ⟨hS_,h0_,h1_,h2_,h3_,h4_⟩
             have n0_ : Aside0 (Kd.R (Kd.int .i64) 3 w12 w.heap.size (fun _ => True) v1 q2):= ⟨h0_⟩
             have n1_ : Aside0 (Kd.R k50 50 w12 w.heap.size (fun _ => True) a2 y1):= ⟨h1_⟩
             have n2_ : Aside0 (w12.heap[d0]? = some (.cells #[.slice m1 z0.length g1,.slice k1 v0.length d1,.slice j1 q0.length b1] 29 (0,0))):= ⟨h2_⟩
             have n3_ : Aside0 (w12.heap[g0]? = some (.cells #[.slice none 0 0,.slice none 0 0,.slice none 0 0] 29 (0,0))):= ⟨h3_⟩
             have n4_ : Aside0 (Below w.heap.size w w12):= ⟨h4_⟩
             clear a0
             clear b0
             clear HB
             clear h0_ h1_ h2_ h3_ h4_
             have a1:= n0_
             have m0:= n1_
             have a0:= n2_
             have b0:= n3_
             have HB:= n4_
             clear n0_ n1_ n2_ n3_ n4_
             have hHeld : w12.cell? ⟨d0,0,none⟩ = some (.slice m1 z0.length g1) ∧ w12.cell? ⟨d0,1,none⟩ = some (.slice k1 v0.length d1) ∧ w12.cell? ⟨d0,2,none⟩ = some (.slice j1 q0.length b1):= hS_
             refine norm_ (a':= ?_) ?_ ?_
             rotate_left
             ·simp only [putAll,Act.put,List.setIfInBounds_toArray,List.set_cons_zero,List.set_cons_succ]
              rfl
             refine two_ (i:= 3) (j:= 4) (Ni:= some 6) (Nj:= some 7) #[T_,T_,T_,T_,F_,T_,T_,F_,T_,T_,T_,F_,F_,F_] #[T_,T_,T_,F_,T_,T_,T_,F_,T_,T_,T_,F_,F_,F_] rfl rfl rfl rfl (two_of HT_.out (by kernel_rfl)) (by decide) (by decide) (fun K hK => ?_) (fun K hK => ?_)
             ·skip
              refine Kd.R_append_rows_step (Kd.int .i64) (w0:= w) w.heap.size (by rfl) (.tmp 3) (.tmp 5) 22 3 (.int .i64 0) 8 rfl Try.underlying22 info3 rfl (by decide) (by omega) v1 q2 z0 _ _ _ (fun _ => True) (fun _ => False) rfl rfl ?aO ?aR (fun _ _ h => h) (fun _ h => h.elim) ?aF ?aB ?aS ?aL ?_
              (case aR => exact uc (Kd.C_below v3.out HB.out))
              (case aB => exact (by repeat (first|(with_reducible first|exact HB.out|apply below_alloc|apply pw_below_drewN|apply below_drew1|refine below_set ?_ j0.out|refine below_set ?_ k0.out)|exact HB.out)))
              (case aF => exact (fun _ _ => trivial))
              (case aO => exact (up a1.out))
              (case aS => exact (below_size (by repeat (first|(with_reducible first|exact HB.out|apply below_alloc|apply pw_below_drewN|apply below_drew1|refine below_set ?_ j0.out|refine below_set ?_ k0.out)|exact HB.out))))
              (case aL => have:= LMc2.out;omega)
              intro b2 w13 ho hb hg hat
              rw [← s3.out] at ho
              have n0_:= mk (blk_grown (g:= d0) (o:= .cells #[.slice m1 z0.length g1,.slice k1 v0.length d1,.slice j1 q0.length b1] 29 (0,0)) (ub a0.out) hg (Kd.R_ne a1.out a0.out (by decide)))
              have n1_:= mk (blk_grown (g:= g0) (o:= .cells #[.slice none 0 0,.slice none 0 0,.slice none 0 0] 29 (0,0)) (ub b0.out) hg (Kd.R_ne a1.out b0.out (by decide)))
              have n2_:= mk (Kd.R_over' (up m0.out) (Kd.R_typed (up a1.out)) (by decide) hg)
              have n3_:= mk (hb)
              have n4_:= mk (ho)
              clear a0
              clear b0
              clear m0
              clear HB
              clear a1
              have a0:= n0_
              have b0:= n1_
              have m0:= n2_
              have HB:= n3_
              have y0:= n4_
              clear n0_ n1_ n2_ n3_ n4_
              clear ho hb hg hat
              refine hK.out _ _ ⟨(blk_cell a0.out 0).trans rfl,(blk_cell a0.out 1).trans rfl,(blk_cell a0.out 2).trans rfl⟩ (fun hHeld => ?_)
              clear hK K
              refine norm_ (a':= ?_) ?_ ?_
              rotate_left
              ·show Act.put _ (some 6) _ = _
               simp only [sp,i64_w,i32_w]
               rfl
              exact norm_ (by first|(simp only [putAll,Act.put,List.setIfInBounds_toArray,List.set_cons_zero,List.set_cons_succ];done)|(simp only [putAll,Act.put,List.setIfInBounds_toArray,List.set_cons_zero,List.set_cons_succ];rfl)) (hJ0_3_8 (v1,b2,a2) _ ⟨hHeld,(up y0.out),(up m0.out),(ub a0.out),(ub b0.out),(by repeat (first|(with_reducible first|exact HB.out|apply below_alloc|apply pw_below_drewN|apply below_drew1|refine below_set ?_ j0.out|refine below_set ?_ k0.out)|exact HB.out))⟩)
             ·skip
              refine Kd.R_lit_step (Kd.int .i64) _ 3 ?hg (N:= 7) ?hd (xs:= ([] : List Int)) (inner:= []) (ok:= fun _ => True) (okp:= fun _ => True) ?hr ?hp (fun _ hk => hk) trivial (Below.refl _ _) (Nat.le_refl _) (by simp) ?_;(case hd => rfl);(case hg => rfl);(case hr => first|(go_simp;done)|(go_simp;rfl));(case hp => exact (Reps.none _ _))
              intro q1 w13 v2 hb hg_ hnew_
              clear hg_ hnew_
              (first|rw [← k2.out] at v2|(simp only [Int.reduceToNat] at v2;rw [← k2.out] at v2))
              have n0_:= mk (Kd.R_elder' (up a1.out) (Kd.R_base v2) hb)
              have n1_:= mk (Kd.R_below (up m0.out) hb)
              have n2_:= mk (Kd.R_lower (Kd.R_new' v2 (Kd.R_lt (up a1.out))) (below_size (by repeat (first|(with_reducible first|exact HB.out|apply below_alloc|apply pw_below_drewN|apply below_drew1|refine below_set ?_ j0.out|refine below_set ?_ k0.out)|exact HB.out))))
              have n3_:= mk (blk_below (g:= d0) (o:= .cells #[.slice m1 z0.length g1,.slice k1 v0.length d1,.slice j1 q0.length b1] 29 (0,0)) (ub a0.out) hb)
              have n4_:= mk (blk_below (g:= g0) (o:= .cells #[.slice none 0 0,.slice none 0 0,.slice none 0 0] 29 (0,0)) (ub b0.out) hb)
              have n5_:= mk (below_step (by repeat (first|(with_reducible first|exact HB.out|apply below_alloc|apply pw_below_drewN|apply below_drew1|refine below_set ?_ j0.out|refine below_set ?_ k0.out)|exact HB.out)) hb)
              clear a1
              clear m0
              clear a0
              clear b0
              clear HB
              have a1:= n0_
              have m0:= n1_
              have o0:= n2_
              have a0:= n3_
              have b0:= n4_
              have HB:= n5_
              clear n0_ n1_ n2_ n3_ n4_ n5_
              clear hb v2
              refine hK.out _ _ ⟨(blk_cell a0.out 0).trans rfl,(blk_cell a0.out 1).trans rfl,(blk_cell a0.out 2).trans rfl⟩ (fun hHeld => ?_)
              clear hK K
              refine norm_ (a':= ?_) ?_ ?_
              rotate_left
              ·show Act.put _ (some 7) _ = _
               simp only [sp,i64_w,i32_w]
               rfl
              exact norm_ (by first|(simp only [putAll,Act.put,List.setIfInBounds_toArray,List.set_cons_zero,List.set_cons_succ];done)|(simp only [putAll,Act.put,List.setIfInBounds_toArray,List.set_cons_zero,List.set_cons_succ];rfl)) (hJ0_4_8 (v1,q1,a2) _ ⟨hHeld,(by exact up (Kd.R_mono a1.out (fun _ hk => hk.2))),(by exact up (Kd.R_mono o0.out (fun _ hk => hk.2))),(up m0.out),(ub a0.out),(ub b0.out),(by repeat (first|(with_reducible first|exact HB.out|apply below_alloc|apply pw_below_drewN|apply below_drew1|refine below_set ?_ j0.out|refine below_set ?_ k0.out)|exact HB.out))⟩)
           ·skip
            rintro ⟨v1,q1⟩ w12 ⟨hS_,h0_,h1_,h2_,h3_,h4_⟩
            have n0_ : Aside0 (Kd.R (Kd.int .i64) 3 w12 w.heap.size (fun k_ => some k_ ≠ (q1 : Value).ownBlock) v1 q2):= ⟨h0_⟩
            have n1_ : Aside0 (Kd.R (Kd.int .i64) 3 w12 w.heap.size (fun k_ => some k_ ≠ (v1 : Value).ownBlock) q1 d2):= ⟨h1_⟩
            have n2_ : Aside0 (w12.heap[d0]? = some (.cells #[.slice m1 z0.length g1,.slice k1 v0.length d1,.slice j1 q0.length b1] 29 (0,0))):= ⟨h2_⟩
            have n3_ : Aside0 (w12.heap[g0]? = some (.cells #[.slice none 0 0,.slice none 0 0,.slice none 0 0] 29 (0,0))):= ⟨h3_⟩
            have n4_ : Aside0 (Below w.heap.size w w12):= ⟨h4_⟩
            clear a0
            clear b0
            clear HB
            clear h0_ h1_ h2_ h3_ h4_
            have a1:= n0_
            have o0:= n1_
            have a0:= n2_
            have b0:= n3_
            have HB:= n4_
            clear n0_ n1_ n2_ n3_ n4_
            have hHeld : w12.cell? ⟨d0,0,none⟩ = some (.slice m1 z0.length g1) ∧ w12.cell? ⟨d0,1,none⟩ = some (.slice k1 v0.length d1) ∧ w12.cell? ⟨d0,2,none⟩ = some (.slice j1 q0.length b1):= hS_
            refine norm_ (a':= ?_) ?_ ?_
            rotate_left
            ·simp only [putAll,Act.put,List.setIfInBounds_toArray,List.set_cons_zero,List.set_cons_succ]
             rfl
            refine two_ (i:= 3) (j:= 8) (Ni:= some 6) (Nj:= some 11) #[T_,T_,T_,T_,T_,T_,T_,F_,F_,T_,T_,F_,F_,F_] #[T_,T_,T_,F_,T_,T_,T_,F_,T_,T_,T_,F_,F_,F_] rfl rfl rfl rfl (two_of HT_.out (by kernel_rfl)) (by decide) (by decide) (fun K hK => ?_) (fun K hK => ?_)
            ·skip
             refine Kd.R_append_rows_step (Kd.int .i64) (w0:= w) w.heap.size (by rfl) (.tmp 3) (.tmp 5) 22 3 (.int .i64 0) 8 rfl Try.underlying22 info3 rfl (by decide) (by omega) v1 q2 z0 _ _ _ (fun k_ => some k_ ≠ (q1 : Value).ownBlock) (fun _ => False) rfl rfl ?aO ?aR (fun _ _ h => h) (fun _ h => h.elim) ?aF ?aB ?aS ?aL ?_
             (case aR => exact uc (Kd.C_below v3.out HB.out))
             (case aB => exact (by repeat (first|(with_reducible first|exact HB.out|apply below_alloc|apply pw_below_drewN|apply below_drew1|refine below_set ?_ j0.out|refine below_set ?_ k0.out)|exact HB.out)))
             (case aF => exact (fun k_ hk => Kd.fresh' (Kd.R_lt (up o0.out)) k_ hk))
             (case aO => exact (up a1.out))
             (case aS => exact (below_size (by repeat (first|(with_reducible first|exact HB.out|apply below_alloc|apply pw_below_drewN|apply below_drew1|refine below_set ?_ j0.out|refine below_set ?_ k0.out)|exact HB.out))))
             (case aL => have:= LMc2.out;omega)
             intro b2 w13 ho hb hg hat
             rw [← s3.out] at ho
             have n0_:= mk (blk_grown (g:= d0) (o:= .cells #[.slice m1 z0.length g1,.slice k1 v0.length d1,.slice j1 q0.length b1] 29 (0,0)) (ub a0.out) hg (Kd.R_ne a1.out a0.out (by decide)))
             have n1_:= mk (blk_grown (g:= g0) (o:= .cells #[.slice none 0 0,.slice none 0 0,.slice none 0 0] 29 (0,0)) (ub b0.out) hg (Kd.R_ne a1.out b0.out (by decide)))
             have n2_:= mk (Kd.R_after (ok:= (fun _ => True)) (by exact up (Kd.R_mono o0.out (fun _ hk => ⟨trivial,hk⟩))) hg hat)
             have n3_:= mk (hb)
             have n4_:= mk (ho)
             clear a0
             clear b0
             clear o0
             clear HB
             clear a1
             have a0:= n0_
             have b0:= n1_
             have o0:= n2_
             have HB:= n3_
             have y0:= n4_
             clear n0_ n1_ n2_ n3_ n4_
             clear ho hb hg hat
             refine hK.out _ _ ⟨(blk_cell a0.out 0).trans rfl,(blk_cell a0.out 1).trans rfl,(blk_cell a0.out 2).trans rfl⟩ (fun hHeld => ?_)
             clear hK K
             refine norm_ (a':= ?_) ?_ ?_
             rotate_left
             ·show Act.put _ (some 6) _ = _
              simp only [sp,i64_w,i32_w]
              rfl
             exact norm_ (by first|(simp only [putAll,Act.put,List.setIfInBounds_toArray,List.set_cons_zero,List.set_cons_succ];done)|(simp only [putAll,Act.put,List.setIfInBounds_toArray,List.set_cons_zero,List.set_cons_succ];rfl)) (hJ0_3_4 (v1,b2,q1) _ ⟨hHeld,(up y0.out),(by exact up (Kd.R_mono o0.out (fun _ hk => hk.2))),(ub a0.out),(ub b0.out),(by repeat (first|(with_reducible first|exact HB.out|apply below_alloc|apply pw_below_drewN|apply below_drew1|refine below_set ?_ j0.out|refine below_set ?_ k0.out)|exact HB.out))⟩)
            ·skip
             refine Kd.R_lit_step k50 _ 50 ?hg (N:= 11) ?hd (xs:= ([] : List (S50))) (inner:= []) (ok:= fun _ => True) (okp:= fun _ => True) ?hr ?hp (fun _ hk => hk) trivial (Below.refl _ _) (Nat.le_refl _) (by simp) ?_;(case hd => rfl);(case hg => rfl);(case hr => first|(go_simp;done)|(go_simp;rfl));(case hp => exact (Reps.none _ _))
             intro a2 w13 v2 hb hg_ hnew_
             clear hg_ hnew_
             (first|rw [← g2.out] at v2|(simp only [Int.reduceToNat] at v2;rw [← g2.out] at v2))
             have n0_:= mk (Kd.R_below (up a1.out) hb)
             have n1_:= mk (Kd.R_below (up o0.out) hb)
             have n2_:= mk (Kd.R_lower v2 (below_size (by repeat (first|(with_reducible first|exact HB.out|apply below_alloc|apply pw_below_drewN|apply below_drew1|refine below_set ?_ j0.out|refine below_set ?_ k0.out)|exact HB.out))))
             have n3_:= mk (blk_below (g:= d0) (o:= .cells #[.slice m1 z0.length g1,.slice k1 v0.length d1,.slice j1 q0.length b1] 29 (0,0)) (ub a0.out) hb)
             have n4_:= mk (blk_below (g:= g0) (o:= .cells #[.slice none 0 0,.slice none 0 0,.slice none 0 0] 29 (0,0)) (ub b0.out) hb)
             have n5_:= mk (below_step (by repeat (first|(with_reducible first|exact HB.out|apply below_alloc|apply pw_below_drewN|apply below_drew1|refine below_set ?_ j0.out|refine below_set ?_ k0.out)|exact HB.out)) hb)
             clear a1
             clear o0
             clear a0
             clear b0
             clear HB
             have a1:= n0_
             have o0:= n1_
             have m0:= n2_
             have a0:= n3_
             have b0:= n4_
             have HB:= n5_
             clear n0_ n1_ n2_ n3_ n4_ n5_
             clear hb v2
             refine hK.out _ _ ⟨(blk_cell a0.out 0).trans rfl,(blk_cell a0.out 1).trans rfl,(blk_cell a0.out 2).trans rfl⟩ (fun hHeld => ?_)
             clear hK K
             refine norm_ (a':= ?_) ?_ ?_
             rotate_left
             ·show Act.put _ (some 11) _ = _
              simp only [sp,i64_w,i32_w]
              rfl
             exact norm_ (by first|(simp only [putAll,Act.put,List.setIfInBounds_toArray,List.set_cons_zero,List.set_cons_succ];done)|(simp only [putAll,Act.put,List.setIfInBounds_toArray,List.set_cons_zero,List.set_cons_succ];rfl)) (hJ0_4_8 (v1,q1,a2) _ ⟨hHeld,(up a1.out),(up o0.out),(up m0.out),(ub a0.out),(ub b0.out),(by repeat (first|(with_reducible first|exact HB.out|apply below_alloc|apply pw_below_drewN|apply below_drew1|refine below_set ?_ j0.out|refine below_set ?_ k0.out)|exact HB.out))⟩)
          ·skip
           rintro ⟨v1,b2⟩ w11 ⟨hS_,h0_,h1_,h2_,h3_⟩
           have n0_ : Aside0 (Kd.R (Kd.int .i64) 3 w11 w.heap.size (fun _ => True) b2 m2):= ⟨h0_⟩
           have n1_ : Aside0 (w11.heap[d0]? = some (.cells #[.slice m1 z0.length g1,.slice k1 v0.length d1,.slice j1 q0.length b1] 29 (0,0))):= ⟨h1_⟩
           have n2_ : Aside0 (w11.heap[g0]? = some (.cells #[.slice none 0 0,.slice none 0 0,.slice none 0 0] 29 (0,0))):= ⟨h2_⟩
           have n3_ : Aside0 (Below w.heap.size w w11):= ⟨h3_⟩
           clear a0
           clear b0
           clear HB
           clear h0_ h1_ h2_ h3_
           have y0:= n0_
           have a0:= n1_
           have b0:= n2_
           have HB:= n3_
           clear n0_ n1_ n2_ n3_
           have hHeld : w11.cell? ⟨d0,0,none⟩ = some (.slice m1 z0.length g1) ∧ w11.cell? ⟨d0,1,none⟩ = some (.slice k1 v0.length d1) ∧ w11.cell? ⟨d0,2,none⟩ = some (.slice j1 q0.length b1):= hS_
           refine norm_ (a':= ?_) ?_ ?_
           rotate_left
           ·simp only [putAll,Act.put,List.setIfInBounds_toArray,List.set_cons_zero,List.set_cons_succ]
            rfl
           refine two_ (i:= 4) (j:= 8) (Ni:= some 7) (Nj:= some 11) #[T_,T_,T_,T_,T_,T_,T_,F_,F_,T_,T_,F_,F_,F_] #[T_,T_,T_,T_,F_,T_,T_,F_,T_,T_,T_,F_,F_,F_] rfl rfl rfl rfl (two_of HT_.out (by kernel_rfl)) (by decide) (by decide) (fun K hK => ?_) (fun K hK => ?_)
           ·skip
            refine Kd.R_lit_step (Kd.int .i64) _ 3 ?hg (N:= 7) ?hd (xs:= ([] : List Int)) (inner:= []) (ok:= fun _ => True) (okp:= fun _ => True) ?hr ?hp (fun _ hk => hk) trivial (Below.refl _ _) (Nat.le_refl _) (by simp) ?_;(case hd => rfl);(case hg => rfl);(case hr => first|(go_simp;done)|(go_simp;rfl));(case hp => exact (Reps.none _ _))
            intro q1 w12 b3 hb hg_ hnew_
            clear hg_ hnew_
            (first|rw [← k2.out] at b3|(simp only [Int.reduceToNat] at b3;rw [← k2.out] at b3))
            have n0_:= mk (Kd.R_elder' (up y0.out) (Kd.R_base b3) hb)
            have n1_:= mk (Kd.R_lower (Kd.R_new' b3 (Kd.R_lt (up y0.out))) (below_size (by repeat (first|(with_reducible first|exact HB.out|apply below_alloc|apply pw_below_drewN|apply below_drew1|refine below_set ?_ j0.out|refine below_set ?_ k0.out)|exact HB.out))))
            have n2_:= mk (blk_below (g:= d0) (o:= .cells #[.slice m1 z0.length g1,.slice k1 v0.length d1,.slice j1 q0.length b1] 29 (0,0)) (ub a0.out) hb)
            have n3_:= mk (blk_below (g:= g0) (o:= .cells #[.slice none 0 0,.slice none 0 0,.slice none 0 0] 29 (0,0)) (ub b0.out) hb)
            have n4_:= mk (below_step (by repeat (first|(with_reducible first|exact HB.out|apply below_alloc|apply pw_below_drewN|apply below_drew1|refine below_set ?_ j0.out|refine below_set ?_ k0.out)|exact HB.out)) hb)
            clear y0
            clear a0
            clear b0
            clear HB
            have y0:= n0_
            have o0:= n1_
            have a0:= n2_
            have b0:= n3_
            have HB:= n4_
            clear n0_ n1_ n2_ n3_ n4_
            clear hb b3
            refine hK.out _ _ ⟨(blk_cell a0.out 0).trans rfl,(blk_cell a0.out 1).trans rfl,(blk_cell a0.out 2).trans rfl⟩ (fun hHeld => ?_)
            clear hK K
            refine norm_ (a':= ?_) ?_ ?_
            rotate_left
            ·show Act.put _ (some 7) _ = _
             simp only [sp,i64_w,i32_w]
             rfl
            exact norm_ (by first|(simp only [putAll,Act.put,List.setIfInBounds_toArray,List.set_cons_zero,List.set_cons_succ];done)|(simp only [putAll,Act.put,List.setIfInBounds_toArray,List.set_cons_zero,List.set_cons_succ];rfl)) (hJ0_3_4 (v1,b2,q1) _ ⟨hHeld,(by exact up (Kd.R_mono y0.out (fun _ hk => hk.2))),(by exact up (Kd.R_mono o0.out (fun _ hk => hk.2))),(ub a0.out),(ub b0.out),(by repeat (first|(with_reducible first|exact HB.out|apply below_alloc|apply pw_below_drewN|apply below_drew1|refine below_set ?_ j0.out|refine below_set ?_ k0.out)|exact HB.out))⟩)
           ·skip
            refine Kd.R_lit_step k50 _ 50 ?hg (N:= 11) ?hd (xs:= ([] : List (S50))) (inner:= []) (ok:= fun _ => True) (okp:= fun _ => True) ?hr ?hp (fun _ hk => hk) trivial (Below.refl _ _) (Nat.le_refl _) (by simp) ?_;(case hd => rfl);(case hg => rfl);(case hr => first|(go_simp;done)|(go_simp;rfl));(case hp => exact (Reps.none _ _))
            intro a2 w12 b3 hb hg_ hnew_
            clear hg_ hnew_
            (first|rw [← g2.out] at b3|(simp only [Int.reduceToNat] at b3;rw [← g2.out] at b3))
            have n0_:= mk (Kd.R_below (up y0.out) hb)
            have n1_:= mk (Kd.R_lower b3 (below_size (by repeat (first|(with_reducible first|exact HB.out|apply below_alloc|apply pw_below_drewN|apply below_drew1|refine below_set ?_ j0.out|refine below_set ?_ k0.out)|exact HB.out))))
            have n2_:= mk (blk_below (g:= d0) (o:= .cells #[.slice m1 z0.length g1,.slice k1 v0.length d1,.slice j1 q0.length b1] 29 (0,0)) (ub a0.out) hb)
            have n3_:= mk (blk_below (g:= g0) (o:= .cells #[.slice none 0 0,.slice none 0 0,.slice none 0 0] 29 (0,0)) (ub b0.out) hb)
            have n4_:= mk (below_step (by repeat (first|(with_reducible first|exact HB.out|apply below_alloc|apply pw_below_drewN|apply below_drew1|refine below_set ?_ j0.out|refine below_set ?_ k0.out)|exact HB.out)) hb)
            clear y0
            clear a0
            clear b0
            clear HB
            have y0:= n0_
            have m0:= n1_
            have a0:= n2_
            have b0:= n3_
            have HB:= n4_
            clear n0_ n1_ n2_ n3_ n4_
            clear hb b3
            refine hK.out _ _ ⟨(blk_cell a0.out 0).trans rfl,(blk_cell a0.out 1).trans rfl,(blk_cell a0.out 2).trans rfl⟩ (fun hHeld => ?_)
            clear hK K
            refine norm_ (a':= ?_) ?_ ?_
            rotate_left
            ·show Act.put _ (some 11) _ = _
             simp only [sp,i64_w,i32_w]
             rfl
            exact norm_ (by first|(simp only [putAll,Act.put,List.setIfInBounds_toArray,List.set_cons_zero,List.set_cons_succ];done)|(simp only [putAll,Act.put,List.setIfInBounds_toArray,List.set_cons_zero,List.set_cons_succ];rfl)) (hJ0_3_8 (v1,b2,a2) _ ⟨hHeld,(up y0.out),(up m0.out),(ub a0.out),(ub b0.out),(by repeat (first|(with_reducible first|exact HB.out|apply below_alloc|apply pw_below_drewN|apply below_drew1|refine below_set ?_ j0.out|refine below_set ?_ k0.out)|exact HB.out))⟩)
         ·skip
          rintro ⟨v1,q1,a2⟩ w14 ⟨hS_,h0_,h1_,h2_,h3_,h4_,h5_⟩
          have n0_ : Aside0 (Kd.R (Kd.int .i64) 3 w14 w.heap.size (fun k_ => some k_ ≠ (q1 : Value).ownBlock) v1 q2):= ⟨h0_⟩
          have n1_ : Aside0 (Kd.R (Kd.int .i64) 3 w14 w.heap.size (fun k_ => some k_ ≠ (v1 : Value).ownBlock) q1 d2):= ⟨h1_⟩
          have n2_ : Aside0 (Kd.R k50 50 w14 w.heap.size (fun _ => True) a2 y1):= ⟨h2_⟩
          have n3_ : Aside0 (w14.heap[d0]? = some (.cells #[.slice m1 z0.length g1,.slice k1 v0.length d1,.slice j1 q0.length b1] 29 (0,0))):= ⟨h3_⟩
          have n4_ : Aside0 (w14.heap[g0]? = some (.cells #[.slice none 0 0,.slice none 0 0,.slice none 0 0] 29 (0,0))):= ⟨h4_⟩
          have n5_ : Aside0 (Below w.heap.size w w14):= ⟨h5_⟩
          clear a0
          clear b0
          clear HB
          clear h0_ h1_ h2_ h3_ h4_ h5_
          have a1:= n0_
          have o0:= n1_
          have m0:= n2_
          have a0:= n3_
          have b0:= n4_
          have HB:= n5_
          clear n0_ n1_ n2_ n3_ n4_ n5_
          have hHeld : w14.cell? ⟨d0,0,none⟩ = some (.slice m1 z0.length g1) ∧ w14.cell? ⟨d0,1,none⟩ = some (.slice k1 v0.length d1) ∧ w14.cell? ⟨d0,2,none⟩ = some (.slice j1 q0.length b1):= hS_
          refine norm_ (a':= ?_) ?_ ?_
          rotate_left
          ·simp only [putAll,Act.put,List.setIfInBounds_toArray,List.set_cons_zero,List.set_cons_succ]
           rfl
          refine one_ (i:= 3) (N:= some 6) #[T_,T_,T_,T_,T_,T_,T_,F_,T_,T_,T_,F_,F_,F_] rfl rfl (one_of HT_.out (by kernel_rfl)) (by decide) (fun K hK => ?_)
          refine Kd.R_append_rows_step (Kd.int .i64) (w0:= w) w.heap.size (by rfl) (.tmp 3) (.tmp 5) 22 3 (.int .i64 0) 8 rfl Try.underlying22 info3 rfl (by decide) (by omega) v1 q2 z0 _ _ _ (fun k_ => some k_ ≠ (q1 : Value).ownBlock) (fun _ => False) rfl rfl ?aO ?aR (fun _ _ h => h) (fun _ h => h.elim) ?aF ?aB ?aS ?aL ?_
          (case aR => exact uc (Kd.C_below v3.out HB.out))
          (case aB => exact (by repeat (first|(with_reducible first|exact HB.out|apply below_alloc|apply pw_below_drewN|apply below_drew1|refine below_set ?_ j0.out|refine below_set ?_ k0.out)|exact HB.out)))
          (case aF => exact (fun k_ hk => Kd.fresh' (Kd.R_lt (up o0.out)) k_ hk))
          (case aO => exact (up a1.out))
          (case aS => exact (below_size (by repeat (first|(with_reducible first|exact HB.out|apply below_alloc|apply pw_below_drewN|apply below_drew1|refine below_set ?_ j0.out|refine below_set ?_ k0.out)|exact HB.out))))
          (case aL => have:= LMc2.out;omega)
          intro b2 w15 ho hb hg hat
          rw [← s3.out] at ho
          have n0_:= mk (blk_grown (g:= d0) (o:= .cells #[.slice m1 z0.length g1,.slice k1 v0.length d1,.slice j1 q0.length b1] 29 (0,0)) (ub a0.out) hg (Kd.R_ne a1.out a0.out (by decide)))
          have n1_:= mk (blk_grown (g:= g0) (o:= .cells #[.slice none 0 0,.slice none 0 0,.slice none 0 0] 29 (0,0)) (ub b0.out) hg (Kd.R_ne a1.out b0.out (by decide)))
          have n2_:= mk (Kd.R_after (ok:= (fun _ => True)) (by exact up (Kd.R_mono o0.out (fun _ hk => ⟨trivial,hk⟩))) hg hat)
          have n3_:= mk (Kd.R_over' (up m0.out) (Kd.R_typed (up a1.out)) (by decide) hg)
          have n4_:= mk (hb)
          have n5_:= mk (ho)
          clear a0
          clear b0
          clear o0
          clear m0
          clear HB
          clear a1
          have a0:= n0_
          have b0:= n1_
          have o0:= n2_
          have m0:= n3_
          have HB:= n4_
          have y0:= n5_
          clear n0_ n1_ n2_ n3_ n4_ n5_
          clear ho hb hg hat
          refine hK.out _ _ ⟨(blk_cell a0.out 0).trans rfl,(blk_cell a0.out 1).trans rfl,(blk_cell a0.out 2).trans rfl⟩ (fun hHeld => ?_)
          clear hK K
          refine norm_ (a':= ?_) ?_ ?_
          rotate_left
          ·show Act.put _ (some 6) _ = _
           simp only [sp,i64_w,i32_w]
           rfl
          exact norm_ (by first|(simp only [putAll,Act.put,List.setIfInBounds_toArray,List.set_cons_zero,List.set_cons_succ];done)|(simp only [putAll,Act.put,List.setIfInBounds_toArray,List.set_cons_zero,List.set_cons_succ];rfl)) (hJ0_3_4_8 (v1,b2,q1,a2) _ ⟨hHeld,(up y0.out),(by exact up (Kd.R_mono o0.out (fun _ hk => hk.2))),(up m0.out),(ub a0.out),(ub b0.out),(by repeat (first|(with_reducible first|exact HB.out|apply below_alloc|apply pw_below_drewN|apply below_drew1|refine below_set ?_ j0.out|refine below_set ?_ k0.out)|exact HB.out))⟩)
        ·skip
         rintro ⟨v1,b2,a2⟩ w13 ⟨hS_,h0_,h1_,h2_,h3_,h4_⟩
         have n0_ : Aside0 (Kd.R (Kd.int .i64) 3 w13 w.heap.size (fun _ => True) b2 m2):= ⟨h0_⟩
         have n1_ : Aside0 (Kd.R k50 50 w13 w.heap.size (fun _ => True) a2 y1):= ⟨h1_⟩
         have n2_ : Aside0 (w13.heap[d0]? = some (.cells #[.slice m1 z0.length g1,.slice k1 v0.length d1,.slice j1 q0.length b1] 29 (0,0))):= ⟨h2_⟩
         have n3_ : Aside0 (w13.heap[g0]? = some (.cells #[.slice none 0 0,.slice none 0 0,.slice none 0 0] 29 (0,0))):= ⟨h3_⟩
         have n4_ : Aside0 (Below w.heap.size w w13):= ⟨h4_⟩
         clear a0
         clear b0
         clear HB
         clear h0_ h1_ h2_ h3_ h4_
         have y0:= n0_
         have m0:= n1_
         have a0:= n2_
         have b0:= n3_
         have HB:= n4_
         clear n0_ n1_ n2_ n3_ n4_
         have hHeld : w13.cell? ⟨d0,0,none⟩ = some (.slice m1 z0.length g1) ∧ w13.cell? ⟨d0,1,none⟩ = some (.slice k1 v0.length d1) ∧ w13.cell? ⟨d0,2,none⟩ = some (.slice j1 q0.length b1):= hS_
         refine norm_ (a':= ?_) ?_ ?_
         rotate_left
         ·simp only [putAll,Act.put,List.setIfInBounds_toArray,List.set_cons_zero,List.set_cons_succ]
          rfl
         refine one_ (i:= 4) (N:= some 7) #[T_,T_,T_,T_,T_,T_,T_,F_,T_,T_,T_,F_,F_,F_] rfl rfl (one_of HT_.out (by kernel_rfl)) (by decide) (fun K hK => ?_)
         refine Kd.R_lit_step (Kd.int .i64) _ 3 ?hg (N:= 7) ?hd (xs:= ([] : List Int)) (inner:= []) (ok:= fun _ => True) (okp:= fun _ => True) ?hr ?hp (fun _ hk => hk) trivial (Below.refl _ _) (Nat.le_refl _) (by simp) ?_;(case hd => rfl);(case hg => rfl);(case hr => first|(go_simp;done)|(go_simp;rfl));(case hp => exact (Reps.none _ _))
         intro q1 w14 a3 hb hg_ hnew_
         clear hg_ hnew_
         (first|rw [← k2.out] at a3|(simp only [Int.reduceToNat] at a3;rw [← k2.out] at a3))
         have n0_:= mk (Kd.R_elder' (up y0.out) (Kd.R_base a3) hb)
         have n1_:= mk (Kd.R_below (up m0.out) hb)
         have n2_:= mk (Kd.R_lower (Kd.R_new' a3 (Kd.R_lt (up y0.out))) (below_size (by repeat (first|(with_reducible first|exact HB.out|apply below_alloc|apply pw_below_drewN|apply below_drew1|refine below_set ?_ j0.out|refine below_set ?_ k0.out)|exact HB.out))))
         have n3_:= mk (blk_below (g:= d0) (o:= .cells #[.slice m1 z0.length g1,.slice k1 v0.length d1,.slice j1 q0.length b1] 29 (0,0)) (ub a0.out) hb)
         have n4_:= mk (blk_below (g:= g0) (o:= .cells #[.slice none 0 0,.slice none 0 0,.slice none 0 0] 29 (0,0)) (ub b0.out) hb)
         have n5_:= mk (below_step (by repeat (first|(with_reducible first|exact HB.out|apply below_alloc|apply pw_below_drewN|apply below_drew1|refine below_set ?_ j0.out|refine below_set ?_ k0.out)|exact HB.out)) hb)
         clear y0
         clear m0
         clear a0
         clear b0
         clear HB
         have y0:= n0_
         have m0:= n1_
         have o0:= n2_
         have a0:= n3_
         have b0:= n4_
         have HB:= n5_
         clear n0_ n1_ n2_ n3_ n4_ n5_
         clear hb a3
         refine hK.out _ _ ⟨(blk_cell a0.out 0).trans rfl,(blk_cell a0.out 1).trans rfl,(blk_cell a0.out 2).trans rfl⟩ (fun hHeld => ?_)
         clear hK K
         refine norm_ (a':= ?_) ?_ ?_
         rotate_left
         ·show Act.put _ (some 7) _ = _
          simp only [sp,i64_w,i32_w]
          rfl
         exact norm_ (by first|(simp only [putAll,Act.put,List.setIfInBounds_toArray,List.set_cons_zero,List.set_cons_succ];done)|(simp only [putAll,Act.put,List.setIfInBounds_toArray,List.set_cons_zero,List.set_cons_succ];rfl)) (hJ0_3_4_8 (v1,b2,q1,a2) _ ⟨hHeld,(by exact up (Kd.R_mono y0.out (fun _ hk => hk.2))),(by exact up (Kd.R_mono o0.out (fun _ hk => hk.2))),(up m0.out),(ub a0.out),(ub b0.out),(by repeat (first|(with_reducible first|exact HB.out|apply below_alloc|apply pw_below_drewN|apply below_drew1|refine below_set ?_ j0.out|refine below_set ?_ k0.out)|exact HB.out))⟩)
       ·skip
        rintro ⟨v1,b2,q1⟩ w13 ⟨hS_,h0_,h1_,h2_,h3_,h4_⟩
        have n0_ : Aside0 (Kd.R (Kd.int .i64) 3 w13 w.heap.size (fun k_ => some k_ ≠ (q1 : Value).ownBlock) b2 m2):= ⟨h0_⟩
        have n1_ : Aside0 (Kd.R (Kd.int .i64) 3 w13 w.heap.size (fun k_ => some k_ ≠ (b2 : Value).ownBlock) q1 d2):= ⟨h1_⟩
        have n2_ : Aside0 (w13.heap[d0]? = some (.cells #[.slice m1 z0.length g1,.slice k1 v0.length d1,.slice j1 q0.length b1] 29 (0,0))):= ⟨h2_⟩
        have n3_ : Aside0 (w13.heap[g0]? = some (.cells #[.slice none 0 0,.slice none 0 0,.slice none 0 0] 29 (0,0))):= ⟨h3_⟩
        have n4_ : Aside0 (Below w.heap.size w w13):= ⟨h4_⟩
        clear a0
        clear b0
        clear HB
        clear h0_ h1_ h2_ h3_ h4_
        have y0:= n0_
        have o0:= n1_
        have a0:= n2_
        have b0:= n3_
        have HB:= n4_
        clear n0_ n1_ n2_ n3_ n4_
        have hHeld : w13.cell? ⟨d0,0,none⟩ = some (.slice m1 z0.length g1) ∧ w13.cell? ⟨d0,1,none⟩ = some (.slice k1 v0.length d1) ∧ w13.cell? ⟨d0,2,none⟩ = some (.slice j1 q0.length b1):= hS_
        refine norm_ (a':= ?_) ?_ ?_
        rotate_left
        ·simp only [putAll,Act.put,List.setIfInBounds_toArray,List.set_cons_zero,List.set_cons_succ]
         rfl
        refine two_ (i:= 7) (j:= 8) (Ni:= some 10) (Nj:= some 11) #[T_,T_,T_,T_,T_,T_,T_,T_,F_,T_,T_,F_,F_,F_] #[T_,T_,T_,T_,T_,T_,T_,F_,T_,T_,T_,F_,F_,F_] rfl rfl rfl rfl (two_of HT_.out (by kernel_rfl)) (by decide) (by decide) (fun K hK => ?_) (fun K hK => ?_)
        ·skip
         refine Kd.R_append_rows_step (Kd.int .i64) (w0:= w) w.heap.size (by rfl) (.tmp 7) (.tmp 9) 22 3 (.int .i64 0) 8 rfl Try.underlying22 info3 rfl (by decide) (by omega) q1 d2 v0 _ _ _ (fun k_ => some k_ ≠ (b2 : Value).ownBlock) (fun _ => False) rfl rfl ?aO ?aR (fun _ _ h => h) (fun _ h => h.elim) ?aF ?aB ?aS ?aL ?_
         (case aR => exact uc (Kd.C_below o4.out HB.out))
         (case aB => exact (by repeat (first|(with_reducible first|exact HB.out|apply below_alloc|apply pw_below_drewN|apply below_drew1|refine below_set ?_ j0.out|refine below_set ?_ k0.out)|exact HB.out)))
         (case aF => exact (fun k_ hk => Kd.fresh' (Kd.R_lt (up y0.out)) k_ hk))
         (case aO => exact (up o0.out))
         (case aS => exact (below_size (by repeat (first|(with_reducible first|exact HB.out|apply below_alloc|apply pw_below_drewN|apply below_drew1|refine below_set ?_ j0.out|refine below_set ?_ k0.out)|exact HB.out))))
         (case aL => have:= LMc3.out;omega)
         intro q3 w14 ho hb hg hat
         rw [← m4.out] at ho
         have n0_:= mk (blk_grown (g:= d0) (o:= .cells #[.slice m1 z0.length g1,.slice k1 v0.length d1,.slice j1 q0.length b1] 29 (0,0)) (ub a0.out) hg (Kd.R_ne o0.out a0.out (by decide)))
         have n1_:= mk (blk_grown (g:= g0) (o:= .cells #[.slice none 0 0,.slice none 0 0,.slice none 0 0] 29 (0,0)) (ub b0.out) hg (Kd.R_ne o0.out b0.out (by decide)))
         have n2_:= mk (Kd.R_after (ok:= (fun _ => True)) (by exact up (Kd.R_mono y0.out (fun _ hk => ⟨trivial,hk⟩))) hg hat)
         have n3_:= mk (hb)
         have n4_:= mk (ho)
         clear a0
         clear b0
         clear y0
         clear HB
         clear o0
         have a0:= n0_
         have b0:= n1_
         have y0:= n2_
         have HB:= n3_
         have j2:= n4_
         clear n0_ n1_ n2_ n3_ n4_
         clear ho hb hg hat
         refine hK.out _ _ ⟨(blk_cell a0.out 0).trans rfl,(blk_cell a0.out 1).trans rfl,(blk_cell a0.out 2).trans rfl⟩ (fun hHeld => ?_)
         clear hK K
         refine norm_ (a':= ?_) ?_ ?_
         rotate_left
         ·show Act.put _ (some 10) _ = _
          simp only [sp,i64_w,i32_w]
          rfl
         exact norm_ (by first|(simp only [putAll,Act.put,List.setIfInBounds_toArray,List.set_cons_zero,List.set_cons_succ];done)|(simp only [putAll,Act.put,List.setIfInBounds_toArray,List.set_cons_zero,List.set_cons_succ];rfl)) (hJ0_3_4_7 (v1,b2,q1,q3) _ ⟨hHeld,(by exact up (Kd.R_mono y0.out (fun _ hk => hk.2))),(up j2.out),(ub a0.out),(ub b0.out),(by repeat (first|(with_reducible first|exact HB.out|apply below_alloc|apply pw_below_drewN|apply below_drew1|refine below_set ?_ j0.out|refine below_set ?_ k0.out)|exact HB.out))⟩)
        ·skip
         refine Kd.R_lit_step k50 _ 50 ?hg (N:= 11) ?hd (xs:= ([] : List (S50))) (inner:= []) (ok:= fun _ => True) (okp:= fun _ => True) ?hr ?hp (fun _ hk => hk) trivial (Below.refl _ _) (Nat.le_refl _) (by simp) ?_;(case hd => rfl);(case hg => rfl);(case hr => first|(go_simp;done)|(go_simp;rfl));(case hp => exact (Reps.none _ _))
         intro a2 w14 a3 hb hg_ hnew_
         clear hg_ hnew_
         (first|rw [← g2.out] at a3|(simp only [Int.reduceToNat] at a3;rw [← g2.out] at a3))
         have n0_:= mk (Kd.R_below (up y0.out) hb)
         have n1_:= mk (Kd.R_below (up o0.out) hb)
         have n2_:= mk (Kd.R_lower a3 (below_size (by repeat (first|(with_reducible first|exact HB.out|apply below_alloc|apply pw_below_drewN|apply below_drew1|refine below_set ?_ j0.out|refine below_set ?_ k0.out)|exact HB.out))))
         have n3_:= mk (blk_below (g:= d0) (o:= .cells #[.slice m1 z0.length g1,.slice k1 v0.length d1,.slice j1 q0.length b1] 29 (0,0)) (ub a0.out) hb)
         have n4_:= mk (blk_below (g:= g0) (o:= .cells #[.slice none 0 0,.slice none 0 0,.slice none 0 0] 29 (0,0)) (ub b0.out) hb)
         have n5_:= mk (below_step (by repeat (first|(with_reducible first|exact HB.out|apply below_alloc|apply pw_below_drewN|apply below_drew1|refine below_set ?_ j0.out|refine below_set ?_ k0.out)|exact HB.out)) hb)
         clear y0
         clear o0
         clear a0
         clear b0
         clear HB
         have y0:= n0_
         have o0:= n1_
         have m0:= n2_
         have a0:= n3_
         have b0:= n4_
         have HB:= n5_
         clear n0_ n1_ n2_ n3_ n4_ n5_
         clear hb a3
         refine hK.out _ _ ⟨(blk_cell a0.out 0).trans rfl,(blk_cell a0.out 1).trans rfl,(blk_cell a0.out 2).trans rfl⟩ (fun hHeld => ?_)
         clear hK K
         refine norm_ (a':= ?_) ?_ ?_
         rotate_left
         ·show Act.put _ (some 11) _ = _
          simp only [sp,i64_w,i32_w]
          rfl
         exact norm_ (by first|(simp only [putAll,Act.put,List.setIfInBounds_toArray,List.set_cons_zero,List.set_cons_succ];done)|(simp only [putAll,Act.put,List.setIfInBounds_toArray,List.set_cons_zero,List.set_cons_succ];rfl)) (hJ0_3_4_8 (v1,b2,q1,a2) _ ⟨hHeld,(up y0.out),(up o0.out),(up m0.out),(ub a0.out),(ub b0.out),(by repeat (first|(with_reducible first|exact HB.out|apply below_alloc|apply pw_below_drewN|apply below_drew1|refine below_set ?_ j0.out|refine below_set ?_ k0.out)|exact HB.out))⟩)
      ·skip
       rintro ⟨v1,b2,q1,a2⟩ w15 ⟨hS_,h0_,h1_,h2_,h3_,h4_,h5_⟩
       have n0_ : Aside0 (Kd.R (Kd.int .i64) 3 w15 w.heap.size (fun k_ => some k_ ≠ (q1 : Value).ownBlock) b2 m2):= ⟨h0_⟩
       have n1_ : Aside0 (Kd.R (Kd.int .i64) 3 w15 w.heap.size (fun k_ => some k_ ≠ (b2 : Value).ownBlock) q1 d2):= ⟨h1_⟩
       have n2_ : Aside0 (Kd.R k50 50 w15 w.heap.size (fun _ => True) a2 y1):= ⟨h2_⟩
       have n3_ : Aside0 (w15.heap[d0]? = some (.cells #[.slice m1 z0.length g1,.slice k1 v0.length d1,.slice j1 q0.length b1] 29 (0,0))):= ⟨h3_⟩
       have n4_ : Aside0 (w15.heap[g0]? = some (.cells #[.slice none 0 0,.slice none 0 0,.slice none 0 0] 29 (0,0))):= ⟨h4_⟩
       have n5_ : Aside0 (Below w.heap.size w w15):= ⟨h5_⟩
       clear a0
       clear b0
       clear HB
       clear h0_ h1_ h2_ h3_ h4_ h5_
       have y0:= n0_
       have o0:= n1_
       have m0:= n2_
       have a0:= n3_
       have b0:= n4_
       have HB:= n5_
       clear n0_ n1_ n2_ n3_ n4_ n5_
       have hHeld : w15.cell? ⟨d0,0,none⟩ = some (.slice m1 z0.length g1) ∧ w15.cell? ⟨d0,1,none⟩ = some (.slice k1 v0.length d1) ∧ w15.cell? ⟨d0,2,none⟩ = some (.slice j1 q0.length b1):= hS_
       refine norm_ (a':= ?_) ?_ ?_
       rotate_left
       ·simp only [putAll,Act.put,List.setIfInBounds_toArray,List.set_cons_zero,List.set_cons_succ]
        rfl
       refine one_ (i:= 7) (N:= some 10) #[T_,T_,T_,T_,T_,T_,T_,T_,T_,T_,T_,F_,F_,F_] rfl rfl (one_of HT_.out (by kernel_rfl)) (by decide) (fun K hK => ?_)
       refine Kd.R_append_rows_step (Kd.int .i64) (w0:= w) w.heap.size (by rfl) (.tmp 7) (.tmp 9) 22 3 (.int .i64 0) 8 rfl Try.underlying22 info3 rfl (by decide) (by omega) q1 d2 v0 _ _ _ (fun k_ => some k_ ≠ (b2 : Value).ownBlock) (fun _ => False) rfl rfl ?aO ?aR (fun _ _ h => h) (fun _ h => h.elim) ?aF ?aB ?aS ?aL ?_
       (case aR => exact uc (Kd.C_below o4.out HB.out))
       (case aB => exact (by repeat (first|(with_reducible first|exact HB.out|apply below_alloc|apply pw_below_drewN|apply below_drew1|refine below_set ?_ j0.out|refine below_set ?_ k0.out)|exact HB.out)))
       (case aF => exact (fun k_ hk => Kd.fresh' (Kd.R_lt (up y0.out)) k_ hk))
       (case aO => exact (up o0.out))
       (case aS => exact (below_size (by repeat (first|(with_reducible first|exact HB.out|apply below_alloc|apply pw_below_drewN|apply below_drew1|refine below_set ?_ j0.out|refine below_set ?_ k0.out)|exact HB.out))))
       (case aL => have:= LMc3.out;omega)
       intro q3 w16 ho hb hg hat
       rw [← m4.out] at ho
       have n0_:= mk (blk_grown (g:= d0) (o:= .cells #[.slice m1 z0.length g1,.slice k1 v0.length d1,.slice j1 q0.length b1] 29 (0,0)) (ub a0.out) hg (Kd.R_ne o0.out a0.out (by decide)))
       have n1_:= mk (blk_grown (g:= g0) (o:= .cells #[.slice none 0 0,.slice none 0 0,.slice none 0 0] 29 (0,0)) (ub b0.out) hg (Kd.R_ne o0.out b0.out (by decide)))
       have n2_:= mk (Kd.R_after (ok:= (fun _ => True)) (by exact up (Kd.R_mono y0.out (fun _ hk => ⟨trivial,hk⟩))) hg hat)
       have n3_:= mk (Kd.R_over' (up m0.out) (Kd.R_typed (up o0.out)) (by decide) hg)
       have n4_:= mk (hb)
       have n5_:= mk (ho)
       clear a0
       clear b0
       clear y0
       clear m0
       clear HB
       clear o0
       have a0:= n0_
       have b0:= n1_
       have y0:= n2_
       have m0:= n3_
       have HB:= n4_
       have j2:= n5_
       clear n0_ n1_ n2_ n3_ n4_ n5_
       clear ho hb hg hat
       refine hK.out _ _ ⟨(blk_cell a0.out 0).trans rfl,(blk_cell a0.out 1).trans rfl,(blk_cell a0.out 2).trans rfl⟩ (fun hHeld => ?_)
       clear hK K
       refine norm_ (a':= ?_) ?_ ?_
       rotate_left
       ·show Act.put _ (some 10) _ = _
        simp only [sp,i64_w,i32_w]
        rfl
       exact norm_ (by first|(simp only [putAll,Act.put,List.setIfInBounds_toArray,List.set_cons_zero,List.set_cons_succ];done)|(simp only [putAll,Act.put,List.setIfInBounds_toArray,List.set_cons_zero,List.set_cons_succ];rfl)) (hJ0_3_4_7_8 (v1,b2,q1,q3,a2) _ ⟨hHeld,(by exact up (Kd.R_mono y0.out (fun _ hk => hk.2))),(up j2.out),(up m0.out),(ub a0.out),(ub b0.out),(by repeat (first|(with_reducible first|exact HB.out|apply below_alloc|apply pw_below_drewN|apply below_drew1|refine below_set ?_ j0.out|refine below_set ?_ k0.out)|exact HB.out))⟩)
     ·skip
      rintro ⟨v1,b2,q1,q3⟩ w14 ⟨hS_,h0_,h1_,h2_,h3_,h4_⟩
      have n0_ : Aside0 (Kd.R (Kd.int .i64) 3 w14 w.heap.size (fun k_ => some k_ ≠ (q3 : Value).ownBlock) b2 m2):= ⟨h0_⟩
      have n1_ : Aside0 (Kd.R (Kd.int .i64) 3 w14 w.heap.size (fun k_ => some k_ ≠ (b2 : Value).ownBlock) q3 z2):= ⟨h1_⟩
      have n2_ : Aside0 (w14.heap[d0]? = some (.cells #[.slice m1 z0.length g1,.slice k1 v0.length d1,.slice j1 q0.length b1] 29 (0,0))):= ⟨h2_⟩
      have n3_ : Aside0 (w14.heap[g0]? = some (.cells #[.slice none 0 0,.slice none 0 0,.slice none 0 0] 29 (0,0))):= ⟨h3_⟩
      have n4_ : Aside0 (Below w.heap.size w w14):= ⟨h4_⟩
      clear a0
      clear b0
      clear HB
      clear h0_ h1_ h2_ h3_ h4_
      have y0:= n0_
      have j2:= n1_
      have a0:= n2_
      have b0:= n3_
      have HB:= n4_
      clear n0_ n1_ n2_ n3_ n4_
      have hHeld : w14.cell? ⟨d0,0,none⟩ = some (.slice m1 z0.length g1) ∧ w14.cell? ⟨d0,1,none⟩ = some (.slice k1 v0.length d1) ∧ w14.cell? ⟨d0,2,none⟩ = some (.slice j1 q0.length b1):= hS_
      refine norm_ (a':= ?_) ?_ ?_
      rotate_left
      ·simp only [putAll,Act.put,List.setIfInBounds_toArray,List.set_cons_zero,List.set_cons_succ]
       rfl
      refine one_ (i:= 8) (N:= some 11) #[T_,T_,T_,T_,T_,T_,T_,T_,T_,T_,T_,F_,F_,F_] rfl rfl (one_of HT_.out (by kernel_rfl)) (by decide) (fun K hK => ?_)
      refine Kd.R_lit_step k50 _ 50 ?hg (N:= 11) ?hd (xs:= ([] : List (S50))) (inner:= []) (ok:= fun _ => True) (okp:= fun _ => True) ?hr ?hp (fun _ hk => hk) trivial (Below.refl _ _) (Nat.le_refl _) (by simp) ?_;(case hd => rfl);(case hg => rfl);(case hr => first|(go_simp;done)|(go_simp;rfl));(case hp => exact (Reps.none _ _))
      intro a2 w15 j4 hb hg_ hnew_
      clear hg_ hnew_
      (first|rw [← g2.out] at j4|(simp only [Int.reduceToNat] at j4;rw [← g2.out] at j4))
      have n0_:= mk (Kd.R_below (up y0.out) hb)
      have n1_:= mk (Kd.R_below (up j2.out) hb)
      have n2_:= mk (Kd.R_lower j4 (below_size (by repeat (first|(with_reducible first|exact HB.out|apply below_alloc|apply pw_below_drewN|apply below_drew1|refine below_set ?_ j0.out|refine below_set ?_ k0.out)|exact HB.out))))
      have n3_:= mk (blk_below (g:= d0) (o:= .cells #[.slice m1 z0.length g1,.slice k1 v0.length d1,.slice j1 q0.length b1] 29 (0,0)) (ub a0.out) hb)
      have n4_:= mk (blk_below (g:= g0) (o:= .cells #[.slice none 0 0,.slice none 0 0,.slice none 0 0] 29 (0,0)) (ub b0.out) hb)
      have n5_:= mk (below_step (by repeat (first|(with_reducible first|exact HB.out|apply below_alloc|apply pw_below_drewN|apply below_drew1|refine below_set ?_ j0.out|refine below_set ?_ k0.out)|exact HB.out)) hb)
      clear y0
      clear j2
      clear a0
      clear b0
      clear HB
      have y0:= n0_
      have j2:= n1_
      have m0:= n2_
      have a0:= n3_
      have b0:= n4_
      have HB:= n5_
      clear n0_ n1_ n2_ n3_ n4_ n5_
      clear hb j4
      refine hK.out _ _ ⟨(blk_cell a0.out 0).trans rfl,(blk_cell a0.out 1).trans rfl,(blk_cell a0.out 2).trans rfl⟩ (fun hHeld => ?_)
      clear hK K
      refine norm_ (a':= ?_) ?_ ?_
      rotate_left
      ·show Act.put _ (some 11) _ = _
       simp only [sp,i64_w,i32_w]
       rfl
      exact norm_ (by first|(simp only [putAll,Act.put,List.setIfInBounds_toArray,List.set_cons_zero,List.set_cons_succ];done)|(simp only [putAll,Act.put,List.setIfInBounds_toArray,List.set_cons_zero,List.set_cons_succ];rfl)) (hJ0_3_4_7_8 (v1,b2,q1,q3,a2) _ ⟨hHeld,(up y0.out),(up j2.out),(up m0.out),(ub a0.out),(ub b0.out),(by repeat (first|(with_reducible first|exact HB.out|apply below_alloc|apply pw_below_drewN|apply below_drew1|refine below_set ?_ j0.out|refine below_set ?_ k0.out)|exact HB.out))⟩)
    rintro ⟨v1,b2,q1,q3,a2⟩ w16 ⟨hS_,h0_,h1_,h2_,h3_,h4_,h5_⟩
    have n0_ : Aside0 (Kd.R (Kd.int .i64) 3 w16 w.heap.size (fun k_ => some k_ ≠ (q3 : Value).ownBlock) b2 m2):= ⟨h0_⟩
    have n1_ : Aside0 (Kd.R (Kd.int .i64) 3 w16 w.heap.size (fun k_ => some k_ ≠ (b2 : Value).ownBlock) q3 z2):= ⟨h1_⟩
    have n2_ : Aside0 (Kd.R k50 50 w16 w.heap.size (fun _ => True) a2 y1):= ⟨h2_⟩
    have n3_ : Aside0 (w16.heap[d0]? = some (.cells #[.slice m1 z0.length g1,.slice k1 v0.length d1,.slice j1 q0.length b1] 29 (0,0))):= ⟨h3_⟩
    have n4_ : Aside0 (w16.heap[g0]? = some (.cells #[.slice none 0 0,.slice none 0 0,.slice none 0 0] 29 (0,0))):= ⟨h4_⟩
    have n5_ : Aside0 (Below w.heap.size w w16):= ⟨h5_⟩
    clear a0
    clear b0
    clear HB
    clear h0_ h1_ h2_ h3_ h4_ h5_
    have y0:= n0_
    have j2:= n1_
    have m0:= n2_
    have a0:= n3_
    have b0:= n4_
    have HB:= n5_
    clear n0_ n1_ n2_ n3_ n4_ n5_
    have hHeld : w16.cell? ⟨d0,0,none⟩ = some (.slice m1 z0.length g1) ∧ w16.cell? ⟨d0,1,none⟩ = some (.slice k1 v0.length d1) ∧ w16.cell? ⟨d0,2,none⟩ = some (.slice j1 q0.length b1):= hS_
    refine norm_ (a':= ?_) ?_ ?_
    rotate_left
    ·simp only [putAll,Act.put,List.setIfInBounds_toArray,List.set_cons_zero,List.set_cons_succ]
     rfl
    refine one_ (i:= 11) (N:= some 14) #[T_,T_,T_,T_,T_,T_,T_,T_,T_,T_,T_,T_,F_,F_] rfl rfl (one_of HT_.out (by kernel_rfl)) (by decide) (fun K hK => ?_)
    refine Kd.R_append_rows_step k50 (w0:= w) w.heap.size (by rfl) (.tmp 11) (.tmp 13) 27 50 (.agg #[(.int .i64 0),(.int .i64 0)]) 16 rfl Try.underlying27 info50 rfl (by decide) (by omega) a2 y1 q0 _ _ _ (fun _ => True) (fun _ => False) rfl rfl ?aO ?aR (fun _ _ h => h) (fun _ h => h.elim) ?aF ?aB ?aS ?aL ?_
    (case aR => exact uc (Kd.C_below a5.out HB.out))
    (case aB => exact (by repeat (first|(with_reducible first|exact HB.out|apply below_alloc|apply pw_below_drewN|apply below_drew1|refine below_set ?_ j0.out|refine below_set ?_ k0.out)|exact HB.out)))
    (case aF => exact (fun _ _ => trivial))
    (case aO => exact (up m0.out))
    (case aS => exact (below_size (by repeat (first|(with_reducible first|exact HB.out|apply below_alloc|apply pw_below_drewN|apply below_drew1|refine below_set ?_ j0.out|refine below_set ?_ k0.out)|exact HB.out))))
    (case aL => have:= LMc4.out;omega)
    intro s5 w17 ho hb hg hat
    rw [← z4.out] at ho
    have n0_:= mk (blk_grown (g:= d0) (o:= .cells #[.slice m1 z0.length g1,.slice k1 v0.length d1,.slice j1 q0.length b1] 29 (0,0)) (ub a0.out) hg (Kd.R_ne m0.out a0.out (by decide)))
    have n1_:= mk (blk_grown (g:= g0) (o:= .cells #[.slice none 0 0,.slice none 0 0,.slice none 0 0] 29 (0,0)) (ub b0.out) hg (Kd.R_ne m0.out b0.out (by decide)))
    have n2_:= mk (Kd.R_over' (up y0.out) (Kd.R_typed (up m0.out)) (by decide) hg)
    have n3_:= mk (Kd.R_over' (up j2.out) (Kd.R_typed (up m0.out)) (by decide) hg)
    have n4_:= mk (hb)
    have n5_:= mk (ho)
    clear a0
    clear b0
    clear y0
    clear j2
    clear HB
    clear m0
    have a0:= n0_
    have b0:= n1_
    have y0:= n2_
    have j2:= n3_
    have HB:= n4_
    have q4:= n5_
    clear n0_ n1_ n2_ n3_ n4_ n5_
    clear ho hb hg hat
    obtain ⟨y4,v4,g5⟩:= Kd.R_slice q4.out
    (first|subst g5|(injection g5 with f1_ f2_ f3_;have f4_:= f1_.symm;have f5_:= f3_.symm;clear f1_ f2_ f3_;subst f4_;subst f5_))
    obtain ⟨s4,k4,d5⟩:= Kd.R_slice j2.out
    (first|subst d5|(injection d5 with f1_ f2_ f3_;have f4_:= f1_.symm;have f5_:= f3_.symm;clear f1_ f2_ f3_;subst f4_;subst f5_))
    obtain ⟨z3,y3,b5⟩:= Kd.R_slice y0.out
    (first|subst b5|(injection b5 with f1_ f2_ f3_;have f4_:= f1_.symm;have f5_:= f3_.symm;clear f1_ f2_ f3_;subst f4_;subst f5_))
    refine hK.out _ _ ⟨(blk_cell a0.out 0).trans rfl,(blk_cell a0.out 1).trans rfl,(blk_cell a0.out 2).trans rfl⟩ (fun hHeld => ?_)
    clear hK K
    refine norm_ (a':= ?_) ?_ ?_
    rotate_left
    ·show Act.put _ (some 14) _ = _
     simp only [sp,i64_w,i32_w]
     rfl
    refine pure_ (i:= 12) (N:= some 15) (v:= ?_) (a':= ?_) #[T_,T_,T_,T_,T_,T_,T_,T_,T_,T_,T_,T_,T_,F_] rfl rfl (any_of HT_.out (by kernel_rfl)) (fun _ _ _ h => h) (Or.inl ⟨by rfl,?_⟩) ?_ ?_
    rotate_left
    ·intro w'
     go_simp
     with_reducible rfl
    rotate_left
    ·simp only [sp,i64_w,i32_w]
     rfl
    refine one_ (i:= 13) (N:= none) #[T_,T_,T_,T_,T_,T_,T_,T_,T_,T_,T_,T_,T_,T_] rfl rfl (one_of HT_.out (by kernel_rfl)) (by decide) (fun K hK => ?_)
    have hs21 : w17.cell? ⟨g0,0,none⟩ = some (.slice none 0 0):= (blk_cell b0.out 0).trans rfl
    have hfs21:= blk_frozen b0.out 0
    have hns21_0:= o1.out
    have hms21_0:= o2.out
    have hs22 : w17.cell? ⟨g0,1,none⟩ = some (.slice none 0 0):= (blk_cell b0.out 1).trans rfl
    have hfs22:= blk_frozen b0.out 1
    have hns22_0:= o1.out
    have hms22_0:= o2.out
    have hs23 : w17.cell? ⟨g0,2,none⟩ = some (.slice none 0 0):= (blk_cell b0.out 2).trans rfl
    have hfs23:= blk_frozen b0.out 2
    have hns23_0:= o1.out
    have hms23_0:= o2.out
    refine skip_ (w1:= ?_) (by rfl) rfl ?_ ?_
    rotate_left
    ·go_simp
     rfl
    refine hK.out _ _ ⟨((cell_far (p:= ⟨g0,_,none⟩) o1.out _).trans (((cell_far (p:= ⟨g0,_,none⟩) o1.out _).trans (((cell_far (p:= ⟨g0,_,none⟩) o1.out _).trans (hHeld.1)))))),((cell_far (p:= ⟨g0,_,none⟩) o1.out _).trans (((cell_far (p:= ⟨g0,_,none⟩) o1.out _).trans (((cell_far (p:= ⟨g0,_,none⟩) o1.out _).trans (hHeld.2.1)))))),((cell_far (p:= ⟨g0,_,none⟩) o1.out _).trans (((cell_far (p:= ⟨g0,_,none⟩) o1.out _).trans (((cell_far (p:= ⟨g0,_,none⟩) o1.out _).trans (hHeld.2.2))))))⟩ (fun hHeld => ?_)
    clear hK K
    refine done_ (done_of HT_.out (by kernel_rfl)) ?_
    try go_wp2
    refine bodyPost_ret (results_cell_row rfl _ _ g0 29 #[.slice z3 m2.length y3,.slice s4 z2.length k4,.slice y4 a4.length v4] (0,0) _ rfl (by (with_reducible repeat (first|refine blk_drewN ?_ _|refine blk_drew ?_|refine blk_alloc ?_ _));refine blk_put (cs:= #[.slice z3 m2.length y3,.slice s4 z2.length k4,.slice none 0 0]) ?_ 2 _ rfl;(with_reducible repeat (first|refine blk_drewN ?_ _|refine blk_drew ?_|refine blk_alloc ?_ _));refine blk_put (cs:= #[.slice z3 m2.length y3,.slice none 0 0,.slice none 0 0]) ?_ 1 _ rfl;(with_reducible repeat (first|refine blk_drewN ?_ _|refine blk_drew ?_|refine blk_alloc ?_ _));refine blk_put (cs:= #[.slice none 0 0,.slice none 0 0,.slice none 0 0]) ?_ 0 _ rfl;(with_reducible repeat (first|refine blk_drewN ?_ _|refine blk_drew ?_|refine blk_alloc ?_ _));exact b0.out) Try.underlying29 rfl (by kernel_rfl)) rfl ?_
    exact ⟨_,_,_,by first|rfl|(simp [errW_none,errW_some] <;> rfl)|(simp [*,errW_none,errW_some] <;> rfl),by exact up (Kd.R_mono (Kd.R_far (p:= ⟨g0,2,none⟩) (Kd.R_far (p:= ⟨g0,1,none⟩) (Kd.R_far (p:= ⟨g0,0,none⟩) (Kd.R_types y0.out b0.out (by decide)) (fun _ hk => hk.2) (.slice z3 m2.length y3)) (fun _ hk => hk.2) (.slice s4 z2.length k4)) (fun _ hk => hk.2) (.slice y4 a4.length v4)) (fun _ hk => hk.1)),by exact up (Kd.R_mono (Kd.R_far (p:= ⟨g0,2,none⟩) (Kd.R_far (p:= ⟨g0,1,none⟩) (Kd.R_far (p:= ⟨g0,0,none⟩) (Kd.R_types j2.out b0.out (by decide)) (fun _ hk => hk.2) (.slice z3 m2.length y3)) (fun _ hk => hk.2) (.slice s4 z2.length k4)) (fun _ hk => hk.2) (.slice y4 a4.length v4)) (fun _ hk => hk.1)),by exact up (Kd.R_mono (Kd.R_far (p:= ⟨g0,2,none⟩) (Kd.R_far (p:= ⟨g0,1,none⟩) (Kd.R_far (p:= ⟨g0,0,none⟩) (Kd.R_types q4.out b0.out (by decide)) (fun _ hk => hk.2) (.slice z3 m2.length y3)) (fun _ hk => hk.2) (.slice s4 z2.length k4)) (fun _ hk => hk.2) (.slice y4 a4.length v4)) (fun _ hk => trivial)),by repeat (first|(with_reducible first|exact HB.out|apply below_alloc|apply pw_below_drewN|apply below_drew1|refine below_set ?_ j0.out|refine below_set ?_ k0.out)|exact HB.out)⟩
   ·rw [if_neg c4] at H
    exact absurd H (by simp)
  ·rw [if_neg c3] at H
   exact absurd H (by simp)
 ·rw [if_neg c2] at H
  exact absurd H (by simp)

end Go.Proofs.Ytlikcmonejefoab.PFnExactRippleDelete
