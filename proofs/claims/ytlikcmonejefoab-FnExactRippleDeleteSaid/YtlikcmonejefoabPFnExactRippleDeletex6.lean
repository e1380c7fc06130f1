-- printed by a program of this session, a turned copy of the print of the kit
import Derived.Test.YtlikcmonejefoabSq
import Derived.Test.YtlikcmonejefoabPFnExactRippleDeletex0
import Derived.Test.YtlikcmonejefoabPFnExactRippleDeletex5
namespace Go.Proofs.Ytlikcmonejefoab.PFnExactRippleDelete
open Go.RowKit Go.Proofs.YtlikcmonejefoabW.PrintWords Go.Proofs.YtlikcmonejefoabW.PrintLast Go.Proofs.YtlikcmonejefoabW.PrintMore Go.Proofs.Ytlikcmonejefoab.Sq
attribute [local go_sem] max2_int min2_int max_two min_two max_three min_three max_four min_four Giv.cell_twice   -- for this text's walks alone
set_option linter.unusedVariables false
set_option linter.unusedSimpArgs false

/-! ### laws_toPivotS: function 31 -/
def laws_toPivotS.l0 : Nat → List (S76) → List (S50) → Int → Option ((List (S50)))
  | 0, _, _, _ => none
  | k + 1, x0, x3, x4 => if x4 < (x0.length : Int) then (if 0 ≤ x4 then ((laws_toPivot.f ((rd_T76 x0 x4).f0) ((rd_T76 x0 x4).f1)).bind fun s5 => (if x4 < (x3.length : Int) then (laws_toPivotS.l0 k x0 (x3.set (x4 : Int).toNat (⟨s5.1, s5.2⟩ : S50)) (wrap64 (x4 + 1))) else (none))) else (none)) else (some x3)
def laws_toPivotS.f (k : Nat) (l0 : List (S76)) : Option ((List (S50))) := if 0 ≤ (l0.length : Int) then (if ((l0.length : Int) : Int).toNat ≤ 17592186044416 then (laws_toPivotS.l0 k l0 (List.replicate ((l0.length : Int) : Int).toNat z50) 0) else (none)) else (none)
theorem laws_toPivotS.mono_l : ∀ k, (∀ y0 y1 y2, LeO (laws_toPivotS.l0 k y0 y1 y2) (laws_toPivotS.l0 (k + 1) y0 y1 y2))
  | 0 => fun _ _ _ r h => by simp [laws_toPivotS.l0] at h
  | k + 1 => by
    have ih0 := laws_toPivotS.mono_l k
    · intro y0 y1 y2
      unfold laws_toPivotS.l0
      repeat' first
      | (with_reducible exact ih0 _ _ _)
      | (with_reducible exact LeO.refl _)
      | (with_reducible exact LeO.none _)
      | (with_reducible refine LeO.ite ?_ ?_)
      | (with_reducible refine LeO.bind ?_ (fun _ => ?_))
      | exact ih0 _ _ _
      | exact LeO.none _
      | refine LeO.ite ?_ ?_
      | refine LeO.bind ?_ (fun _ => ?_)
theorem laws_toPivotS.mono : ∀ a0 k, LeO (laws_toPivotS.f k a0) (laws_toPivotS.f (k + 1) a0) := by
  intro a0 k
  have ih0:= laws_toPivotS.mono_l k
  unfold laws_toPivotS.f
  repeat' first
     |(with_reducible exact ih0 _ _ _)
     |(with_reducible exact LeO.refl _)
     |(with_reducible exact LeO.none _)
     |(with_reducible refine LeO.ite ?_ ?_)
     |(with_reducible refine LeO.bind ?_ (fun _ => ?_))
     |exact ih0 _ _ _
     |exact LeO.none _
     |refine LeO.ite ?_ ?_
     |refine LeO.bind ?_ (fun _ => ?_)
set_option maxHeartbeats 8000000 in
set_option maxRecDepth 100000 in
theorem laws_toPivotS.calls (k : Nat) (A0 : Option Addr) (c0 : Nat) (l0 : List (S76)) (r : List (S50)) (w : World) (hr0 : Kd.C k76 w A0 l0.length l0) (hc0 : l0.length ≤ c0) (h : laws_toPivotS.f k l0 = some r) :
    Calls Try.prog 31 #[.slice A0 l0.length c0] w fun e w' => ∃ v0_ : Value, e = .returned (v0_) ∧ Kd.R k50 50 w' w.heap.size (fun _ => True) v0_ r ∧ Below w.heap.size w w' := by
  have hu76:= Try.underlying76
  have hu50:= Try.underlying50
  have HR0:= mk hr0
  have HC0:= mk hc0
  clear hr0 hc0
  have HB:= mk (Below.refl w.heap.size w)
  have H : (if 0 ≤ (l0.length : Int) then (if ((l0.length : Int) : Int).toNat ≤ 17592186044416 then (laws_toPivotS.l0 k l0 (List.replicate ((l0.length : Int) : Int).toNat z50) 0) else (none)) else (none)) = some r:= h
  clear h
  by_cases c2 : 0 ≤ (l0.length : Int)
  · rw [if_pos c2] at H
    have q5:= eq_true c2
    have y9 : decide (0 ≤ (l0.length : Int)) = true:= decide_eq_true c2
    clear c2
    by_cases c3 : ((l0.length : Int) : Int).toNat ≤ 17592186044416
    · rw [if_pos c3] at H
      have v9:= eq_true c3
      have ka2 : decide (((l0.length : Int) : Int).toNat ≤ 17592186044416) = true:= decide_eq_true c3
      clear c3
      obtain ⟨sa0,d3⟩ : ∃ y_ : List (S50),y_ = (List.replicate ((l0.length : Int) : Int).toNat z50):= ⟨_,rfl⟩
      replace H : (laws_toPivotS.l0 k l0 sa0 0) = some r:= by first|(rw [d3];with_reducible exact H)|(have H2_:= (Option.bind_some _ _).symm.trans H;rw [d3];with_reducible exact H2_)|(have H2_:= (Option.bind_some _ _).symm.trans H;with_reducible exact H2_)|with_reducible exact H|(rw [d3];exact H)|exact H
      have v5:= mk d3
      clear d3
      have H':= mk H
      clear H
      go_enter Try.func31,Try.ntmps31
      go_wp2_with (first|((with_reducible refine gate_dst (N:= 7) rfl ?_);refine Kd.R_make k50 _ 50 rfl (N:= 7) rfl 27 _ _ rfl (l0.length : Int) rfl rfl Try.underlying27 (.agg #[(.int .i64 0),(.int .i64 0)]) 16 info50 rfl (by decide) (by omega) z50 (ok:= fun _ => True) (okp:= fun _ => True) (k50_mkM _ _ _ z50 ) (fun _ hk => hk) trivial (of_decide_eq_true (by first|(with_reducible assumption)|assumption)) (Nat.le_trans (Nat.mul_le_mul_right _ (of_decide_eq_true (by first|(with_reducible assumption)|assumption) : (l0.length : Int).toNat ≤ 17592186044416)) (by omega)) (Below.refl _ _) (Nat.le_refl _) ?_;intro sa1 w4 ho5 hb hg_ hnew_;clear hg_ hnew_;(first|rw [← v5.out] at ho5|(simp only [Int.reduceToNat] at ho5;rw [← v5.out] at ho5));have n0_:= mk (Kd.R_lower ho5 (below_size (by repeat (first|(with_reducible first|exact HB.out|apply below_alloc|apply pw_below_drewN|apply below_drew1)|exact HB.out))));have n1_:= mk (below_step (by repeat (first|(with_reducible first|exact HB.out|apply below_alloc|apply pw_below_drewN|apply below_drew1)|exact HB.out)) hb);clear HB;have ka0:= n0_;have HB:= n1_;clear n0_ n1_;clear hb ho5))
      go_loopg [4] k (fun kq v4 w' => ∃ (b2 : List (S50)) (o0 : Int),v4 = .int .i64 o0 ∧ Aside0 (laws_toPivotS.l0 kq l0 b2 o0 = some r) ∧ Aside0 (kq ≤ k) ∧ Aside0 (Kd.R k50 50 w' w.heap.size (fun _ => True) sa1 b2) ∧ Aside0 (Below w.heap.size w w'))
      case atStart => exact ⟨(sa0),(0),(by first|rfl|(simp;done)|(simp [*];done)),H',⟨Nat.le_refl _⟩,⟨up ka0.out⟩,⟨by repeat (first|(with_reducible first|exact HB.out|apply below_alloc|apply pw_below_drewN|apply below_drew1)|exact HB.out)⟩⟩
      case round =>
        clear H'
        try clear c2
        try clear q5
        try clear y9
        try clear p2
        try clear c3
        try clear v9
        try clear ka2
        obtain ⟨b2,o0,rfl,HA,HK1,a3,HB⟩:= hrel
        cases gk with
       |zero => exact absurd HA.out (by simp [laws_toPivotS.l0])
       |succ k1 =>
          have H:= HA.out
          clear HA
          simp only [laws_toPivotS.l0] at H
          by_cases c6 : o0 < (l0.length : Int)
          · rw [if_pos c6] at H
            have s9 : decide (o0 < (l0.length : Int)) = true:= decide_eq_true c6
            clear c6
            by_cases c7 : 0 ≤ o0
            · rw [if_pos c7] at H
              have qa3 : decide (0 ≤ o0) = true:= decide_eq_true c7
              clear c7
              replace H:= Option.bind_eq_some_iff.mp H
              obtain ⟨⟨b4,a4⟩,A80,H⟩:= H
              replace H : (if o0 < (b2.length : Int) then (laws_toPivotS.l0 k1 l0 (b2.set (o0 : Int).toNat (⟨b4,a4⟩ : S50)) (wrap64 (o0 + 1))) else (none)) = some r:= H
              have A8:= mk A80
              clear A80
              by_cases c9 : o0 < (b2.length : Int)
              · rw [if_pos c9] at H
                have oa3 : decide (o0 < (b2.length : Int)) = true:= decide_eq_true c9
                clear c9
                obtain ⟨z5,b3⟩ : ∃ y_ : List (S50),y_ = (b2.set (o0 : Int).toNat (⟨b4,a4⟩ : S50)):= ⟨_,rfl⟩
                replace H : (laws_toPivotS.l0 k1 l0 z5 (wrap64 (o0 + 1))) = some r:= by first|(rw [b3];with_reducible exact H)|(have H2_:= (Option.bind_some _ _).symm.trans H;rw [b3];with_reducible exact H2_)|(have H2_:= (Option.bind_some _ _).symm.trans H;with_reducible exact H2_)|with_reducible exact H|(rw [b3];exact H)|exact H
                have aa0:= mk b3
                clear b3
                have H':= mk H
                clear H
                have b6 : 0 ≤ (o0 : Int):= of_decide_eq_true (by first|(with_reducible assumption)|assumption)
                have a6 : o0 < (l0.length : Int):= of_decide_eq_true (by first|(with_reducible assumption)|assumption)
                obtain ⟨ma2,ga2,s2,q2⟩:= at_T76 HR0.out o0 b6 a6
                cases ga2
                replace s2:= (HB.out.cell (World.block_lt_of_cell? w _ s2)).trans s2
                replace q2:= (HB.out.cell (World.block_lt_of_cell? w _ q2)).trans q2
                replace b6:= eq_true b6
                replace a6:= eq_true a6
                go_wp2_with (first|((with_reducible refine gate_callee (f:= 58) rfl ?_);refine goesL_ (some 20) rfl rfl Try.func58 (by kernel_rfl) rfl #[.agg #[.int .i64 ((rd_T76 l0 o0).f0),.int .i64 ((rd_T76 l0 o0).f1)]] rfl (by (try simp only [List.map_toArray,List.map_cons,List.map_nil]);first|done|rfl|(simp only [List.length_drop,List.length_take];rfl)) ?_;(with_reducible refine (laws_toPivot.calls ((rd_T76 l0 o0).f0) ((rd_T76 l0 o0).f1) b4 a4 _ A8.out).mono ?_);rintro e w11 ⟨rfl,hb⟩;refine ⟨_,rfl,?_⟩;have n0_:= mk (Kd.R_below (up a3.out) hb);have n1_:= mk (below_step (by repeat (first|(with_reducible first|exact HB.out|apply below_alloc|apply pw_below_drewN|apply below_drew1)|exact HB.out)) hb);clear a3;clear HB;have a3:= n0_;have HB:= n1_;clear n0_ n1_;(try clear hb);(try clear hb2);(try clear hk);(try clear hi);have p10 : 0 ≤ (o0 : Int):= of_decide_eq_true (by first|(with_reducible assumption)|assumption);have q10 : (o0 : Int) < ((b2.length : Int) : Int):= of_decide_eq_true (by first|(with_reducible assumption)|assumption);obtain ⟨s3,ka1,ja1,ga1,za1,ja3,oa1⟩:= Kd.R_form a3.out (by omega);(first|cases ja1|(injection ja1 with ea_ en_ ec_;(first|subst ea_|(injection ea_ with ea_;subst ea_));subst ec_;clear en_));have qa1:= mk ga1;have ya3:= mk oa1;clear ga1 za1 oa1;obtain ⟨ma3,o9,da1,o4,m4⟩:= Kd.R_elem a3.out z50 (o0 : Int) p10 q10;obtain rfl:= k50_openM da1;have ya0 : w11.cell? ⟨s3,(o0 : Int).toNat * 2,none⟩ = some (.int .i64 ((rd_T50 b2 o0).f0)):= o4 0 _ rfl;have va0 : w11.cell? ⟨s3,(o0 : Int).toNat * 2 + 1,none⟩ = some (.int .i64 ((rd_T50 b2 o0).f1)):= o4 1 _ rfl;have aa1 : w11.frozen? ⟨s3,(o0 : Int).toNat * 2,none⟩ = false:= m4 0;have za0 : w11.frozen? ⟨s3,(o0 : Int).toNat * 2 + 1,none⟩ = false:= m4 1;clear o9 o4 m4 da1;replace p10:= eq_true p10;replace q10:= eq_true q10;have ma1:= mk (show Kd.R k50 50 w11 w.heap.size (fun _ => True) (.slice (some ⟨s3,0,none⟩) b2.length ka1) b2 from (up a3.out));obtain ⟨ka3,o5,ba1,q3,k4⟩:= Kd.R_elem ma1.out z50 (o0 : Int) (of_decide_eq_true (by first|(with_reducible assumption)|assumption)) (by have h_ : (o0 : Int) < ((b2.length : Int) : Int):= of_decide_eq_true (by first|(with_reducible assumption)|assumption);first|exact h_|(have e_:= (Kd.R_reads' a3.out).1;omega)|simpa using h_);obtain rfl:= k50_openM ba1;have ja0:= Kd.R_seg ma1.out (o0 : Int) (of_decide_eq_true (by first|(with_reducible assumption)|assumption)) (by have h_ : (o0 : Int) < ((b2.length : Int) : Int):= of_decide_eq_true (by first|(with_reducible assumption)|assumption);first|exact h_|(have e_:= (Kd.R_reads' a3.out).1;omega)|simpa using h_) (seg:= [.int .i64 b4,.int .i64 a4]) (j:= 0) o5 q3 (show 2 ≤ 2 from by decide) (x':= (⟨b4,a4⟩ : S50)) (k50_mkM _ _ _ (⟨b4,a4⟩ : S50) ) (fun _ hk => hk);have b5:= q3 0 _ rfl;(try simp only [show (k50).sz = 2 from rfl,Nat.mul_one,Nat.add_zero] at b5);have m5:= k4 0;(try simp only [show (k50).sz = 2 from rfl,Nat.mul_one,Nat.add_zero] at m5);have a5:= q3 1 _ rfl;(try simp only [show (k50).sz = 2 from rfl,Nat.mul_one,Nat.add_zero] at a5);have k5:= k4 1;(try simp only [show (k50).sz = 2 from rfl,Nat.mul_one,Nat.add_zero] at k5);clear o5 q3 k4 ba1)|((with_reducible refine gate_store (t:= 50) (p:= 21) rfl ?_);refine store_event (t:= 50) (p:= 21) (v:= ?vo_w13) (w1:= ((w11.setCell ⟨s3,(o0 : Int).toNat * 2,none⟩ (.int .i64 b4)).setCell ⟨s3,(o0 : Int).toNat * 2 + 1,none⟩ (.int .i64 a4))) ?hg ?ho ?hn ?hr ?_;(case ho => rfl);(case hg => rfl);(case hn => rfl);(case hr => first|(go_simp;done)|(go_simp;rfl));intro w13 hw;have hg : w11.grownBy w13 (some s3):= (by rw [hw];exact ja0.2);have hp_ : Kd.R k50 50 w13 w.heap.size (fun _ => True) (.slice (some ⟨s3,0,none⟩) b2.length ka1) z5:= (by rw [hw,aa0.out];exact ja0.1);clear ja0;have n0_:= mk (hp_);have n1_:= mk ((by rw [hw];exact below_set (below_set (HB.out) qa1.out) qa1.out : Below w.heap.size w w13));clear a3;clear HB;have a3:= n0_;have HB:= n1_;clear n0_ n1_;clear hg hw hp_))
                go_roundg k1
                case measure => have:= HK1.out;omega
                case rel => exact ⟨(z5),(wrap64 (o0 + 1)),(by first|rfl|(simp;done)|(simp [*];done)),H',⟨by have:= HK1.out;omega⟩,⟨up a3.out⟩,⟨by repeat (first|(with_reducible first|exact HB.out|apply below_alloc|apply pw_below_drewN|apply below_drew1)|exact HB.out)⟩⟩
              · rw [if_neg c9] at H
                exact absurd H (by simp)
            · rw [if_neg c7] at H
              exact absurd H (by simp)
          · rw [if_neg c6] at H
            have s9 : decide (o0 < (l0.length : Int)) = false:= decide_eq_false c6
            clear c6
            obtain rfl:= Option.some.inj H
            go_wp2
            go_ret
            exact ⟨_,by first|rfl|(simp [errW_none,errW_some] <;> rfl)|(simp [*,errW_none,errW_some] <;> rfl),up a3.out,by repeat (first|(with_reducible first|exact HB.out|apply below_alloc|apply pw_below_drewN|apply below_drew1)|exact HB.out)⟩
    · rw [if_neg c3] at H
      exact absurd H (by simp)
  · rw [if_neg c2] at H
    exact absurd H (by simp)

/-! ### laws_toCracker: function 8 -/
def laws_toCracker.f (k : Nat) (d1 : List Int) (b1 : List Int) (v0 : List (S76)) : Option (List Int × List Int × (List (S50))) := (laws_toIntS.f k d1).bind fun o1 => ((laws_toIntS.f k b1).bind fun v1 => ((laws_toPivotS.f k v0).bind fun z1 => (some (o1, v1, z1))))
theorem laws_toCracker.mono : ∀ a0 a1 a2 k, LeO (laws_toCracker.f k a0 a1 a2) (laws_toCracker.f (k + 1) a0 a1 a2) := by
  intro a0 a1 a2 k
  unfold laws_toCracker.f
  repeat' first
     |(with_reducible exact laws_toIntS.mono _ _)
     |(with_reducible exact laws_toPivotS.mono _ _)
     |(with_reducible exact LeO.refl _)
     |(with_reducible exact LeO.none _)
     |(with_reducible refine LeO.ite ?_ ?_)
     |(with_reducible refine LeO.bind ?_ (fun _ => ?_))
     |exact laws_toIntS.mono _ _
     |exact laws_toPivotS.mono _ _
     |exact LeO.none _
     |refine LeO.ite ?_ ?_
     |refine LeO.bind ?_ (fun _ => ?_)
set_option maxHeartbeats 8000000 in
set_option maxRecDepth 100000 in
theorem laws_toCracker.calls (k : Nat) (o2 : Option Addr) (j2 : Nat) (d1 : List Int) (m2 : Option Addr) (g2 : Nat) (b1 : List Int) (k2 : Option Addr) (d2 : Nat) (v0 : List (S76)) (r1 : List Int) (r2 : List Int) (r3 : List (S50)) (w : World) (j5 : Kd.C (Kd.int .i64) w o2 d1.length d1) (hc0_0 : d1.length ≤ j2) (g5 : Kd.C (Kd.int .i64) w m2 b1.length b1) (hc0_1 : b1.length ≤ g2) (d5 : Kd.C k76 w k2 v0.length v0) (hc0_2 : v0.length ≤ d2) (h : laws_toCracker.f k d1 b1 v0 = some (r1, r2, r3)) :
    Calls Try.prog 8 #[.agg #[.slice o2 d1.length j2, .slice m2 b1.length g2, .slice k2 v0.length d2]] w fun e w' => ∃ v0_ v1_ v2_ : Value, e = .returned (.agg #[v0_, v1_, v2_]) ∧ Kd.R (Kd.int .i64) 3 w' w.heap.size (fun k_ => some k_ ≠ (v1_ : Value).ownBlock) v0_ r1 ∧ Kd.R (Kd.int .i64) 3 w' w.heap.size (fun k_ => some k_ ≠ (v0_ : Value).ownBlock) v1_ r2 ∧ Kd.R k50 50 w' w.heap.size (fun _ => True) v2_ r3 ∧ Below w.heap.size w w' := by
  have hu25:= Try.underlying25
  have hu29:= Try.underlying29
  have ga0:= mk j5
  have qa0:= mk hc0_0
  clear j5 hc0_0
  have da0:= mk g5
  have oa0:= mk hc0_1
  clear g5 hc0_1
  have ba0:= mk d5
  have ma0:= mk hc0_2
  clear d5 hc0_2
  have HB:= mk (Below.refl w.heap.size w)
  have H : ((laws_toIntS.f k d1).bind fun o1 => ((laws_toIntS.f k b1).bind fun v1 => ((laws_toPivotS.f k v0).bind fun z1 => (some (o1,v1,z1))))) = some (r1,r2,r3):= h
  clear h
  replace H:= Option.bind_eq_some_iff.mp H
  obtain ⟨o1,A20,H⟩:= H
  replace H : ((laws_toIntS.f k b1).bind fun v1 => ((laws_toPivotS.f k v0).bind fun z1 => (some (o1,v1,z1)))) = some (r1,r2,r3):= H
  have A2:= mk A20
  clear A20
  replace H:= Option.bind_eq_some_iff.mp H
  obtain ⟨v1,A30,H⟩:= H
  replace H : ((laws_toPivotS.f k v0).bind fun z1 => (some (o1,v1,z1))) = some (r1,r2,r3):= H
  have A3:= mk A30
  clear A30
  replace H:= Option.bind_eq_some_iff.mp H
  obtain ⟨z1,A40,H⟩:= H
  replace H : (some (o1,v1,z1)) = some (r1,r2,r3):= H
  have A4:= mk A40
  clear A40
  simp only [Option.some.injEq,Prod.mk.injEq] at H
  obtain ⟨rfl,rfl,rfl⟩:= H
  go_enter Try.func8,Try.ntmps8
  go_wp2_with (first|((with_reducible refine gate_dst (N:= 1) rfl ?_);refine box_event ?hg (N:= 1) ?hd (cs:= #[.slice o2 d1.length j2,.slice m2 b1.length g2,.slice k2 v0.length d2]) (t:= 25) ?hr ?_;(case hd => rfl);(case hg => rfl);(case hr => first|(go_simp;done)|(go_simp;rfl));intro k0 hg w5 hbox hb;have n0_:= mk (below_step (by repeat (first|(with_reducible first|exact HB.out|apply below_alloc|apply pw_below_drewN|apply below_drew1)|exact HB.out)) hb);have n1_:= mk (hbox);have n2_:= mk ((by rw [hg];exact (below_size (by repeat (first|(with_reducible first|exact HB.out|apply below_alloc|apply pw_below_drewN|apply below_drew1)|exact HB.out))) : w.heap.size ≤ k0));have n3_:= mk ((by rw [hg];exact (below_size (by repeat (first|(with_reducible first|exact HB.out|apply below_alloc|apply pw_below_drewN|apply below_drew1)|exact HB.out))) : w.heap.size ≤ k0));clear HB;have HB:= n0_;have b0:= n1_;have sa2:= n2_;have q0:= n3_;clear n0_ n1_ n2_ n3_;clear hb hbox hg)|((with_reducible refine gate_dst (N:= 2) rfl ?_);refine box_event ?hg (N:= 2) ?hd (cs:= #[.slice none 0 0,.slice none 0 0,.slice none 0 0]) (t:= 29) ?hr ?_;(case hd => rfl);(case hg => rfl);(case hr => first|(go_simp;done)|(go_simp;rfl));intro j0 hg w6 hbox hb;have n0_:= mk (blk_below (g:= k0) (o:= .cells #[.slice o2 d1.length j2,.slice m2 b1.length g2,.slice k2 v0.length d2] 25 (0,0)) (ub b0.out) hb);have n1_:= mk (below_step (by repeat (first|(with_reducible first|exact HB.out|apply below_alloc|apply pw_below_drewN|apply below_drew1|refine below_set ?_ q0.out)|exact HB.out)) hb);have n2_:= mk (hbox);have n3_:= mk ((by rw [hg];exact (below_size (by repeat (first|(with_reducible first|exact HB.out|apply below_alloc|apply pw_below_drewN|apply below_drew1|refine below_set ?_ q0.out)|exact HB.out))) : w.heap.size ≤ j0));have n4_:= mk ((by rw [hg];exact (below_size (by repeat (first|(with_reducible first|exact HB.out|apply below_alloc|apply pw_below_drewN|apply below_drew1|refine below_set ?_ q0.out)|exact HB.out))) : w.heap.size ≤ j0));have n5_:= mk ((by rw [hg];exact Nat.ne_of_lt (blk_lt (g:= k0) (o:= .cells #[.slice o2 d1.length j2,.slice m2 b1.length g2,.slice k2 v0.length d2] 25 (0,0)) (ub b0.out)) : k0 ≠ j0));have n6_:= mk ((by rw [hg];exact Nat.ne_of_gt (blk_lt (g:= k0) (o:= .cells #[.slice o2 d1.length j2,.slice m2 b1.length g2,.slice k2 v0.length d2] 25 (0,0)) (ub b0.out)) : j0 ≠ k0));clear b0;clear HB;have b0:= n0_;have HB:= n1_;have m0:= n2_;have qa2:= n3_;have z0:= n4_;have m3:= n5_;have k3:= n6_;clear n0_ n1_ n2_ n3_ n4_ n5_ n6_;clear hb hbox hg)|((with_reducible refine gate_dst (N:= 3) rfl ?_);refine box_event ?hg (N:= 3) ?hd (cs:= #[.slice none 0 0,.slice none 0 0,.slice none 0 0]) (t:= 29) ?hr ?_;(case hd => rfl);(case hg => rfl);(case hr => first|(go_simp;done)|(go_simp;rfl));intro g0 hg w7 hbox hb;have n0_:= mk (blk_below (g:= k0) (o:= .cells #[.slice o2 d1.length j2,.slice m2 b1.length g2,.slice k2 v0.length d2] 25 (0,0)) (ub b0.out) hb);have n1_:= mk (blk_below (g:= j0) (o:= .cells #[.slice none 0 0,.slice none 0 0,.slice none 0 0] 29 (0,0)) (ub m0.out) hb);have n2_:= mk (below_step (by repeat (first|(with_reducible first|exact HB.out|apply below_alloc|apply pw_below_drewN|apply below_drew1|refine below_set ?_ q0.out|refine below_set ?_ z0.out)|exact HB.out)) hb);have n3_:= mk (hbox);have n4_:= mk ((by rw [hg];exact (below_size (by repeat (first|(with_reducible first|exact HB.out|apply below_alloc|apply pw_below_drewN|apply below_drew1|refine below_set ?_ q0.out|refine below_set ?_ z0.out)|exact HB.out))) : w.heap.size ≤ g0));have n5_:= mk ((by rw [hg];exact (below_size (by repeat (first|(with_reducible first|exact HB.out|apply below_alloc|apply pw_below_drewN|apply below_drew1|refine below_set ?_ q0.out|refine below_set ?_ z0.out)|exact HB.out))) : w.heap.size ≤ g0));have n6_:= mk ((by rw [hg];exact Nat.ne_of_lt (blk_lt (g:= k0) (o:= .cells #[.slice o2 d1.length j2,.slice m2 b1.length g2,.slice k2 v0.length d2] 25 (0,0)) (ub b0.out)) : k0 ≠ g0));have n7_:= mk ((by rw [hg];exact Nat.ne_of_gt (blk_lt (g:= k0) (o:= .cells #[.slice o2 d1.length j2,.slice m2 b1.length g2,.slice k2 v0.length d2] 25 (0,0)) (ub b0.out)) : g0 ≠ k0));have n8_:= mk ((by rw [hg];exact Nat.ne_of_lt (blk_lt (g:= j0) (o:= .cells #[.slice none 0 0,.slice none 0 0,.slice none 0 0] 29 (0,0)) (ub m0.out)) : j0 ≠ g0));have n9_:= mk ((by rw [hg];exact Nat.ne_of_gt (blk_lt (g:= j0) (o:= .cells #[.slice none 0 0,.slice none 0 0,.slice none 0 0] 29 (0,0)) (ub m0.out)) : g0 ≠ j0));clear b0;clear m0;clear HB;have b0:= n0_;have m0:= n1_;have HB:= n2_;have d0:= n3_;have oa2:= n4_;have s1:= n5_;have g1:= n6_;have j3:= n7_;have s0:= n8_;have g3:= n9_;clear n0_ n1_ n2_ n3_ n4_ n5_ n6_ n7_ n8_ n9_;clear hb hbox hg;have ga3:= m3.out;have ba3:= k3.out;have da3:= g1.out;have aa3:= j3.out;have m9 : w7.cell? ⟨k0,0,none⟩ = some (.slice o2 d1.length j2):= (blk_cell b0.out 0).trans rfl;have k9 : w7.cell? ⟨k0,1,none⟩ = some (.slice m2 b1.length g2):= (blk_cell b0.out 1).trans rfl;have j9 : w7.cell? ⟨k0,2,none⟩ = some (.slice k2 v0.length d2):= (blk_cell b0.out 2).trans rfl;have s7:= blk_frozen b0.out 0;have q7:= blk_frozen b0.out 1;have o7:= blk_frozen b0.out 2)|((with_reducible refine gate_callee (f:= 30) rfl ?_);refine goesL_ (some 6) rfl rfl Try.func30 (by kernel_rfl) rfl #[.slice o2 d1.length j2] rfl (by (try simp only [List.map_toArray,List.map_cons,List.map_nil]);first|done|rfl|(simp only [List.length_drop,List.length_take];rfl)) ?_;(with_reducible refine (laws_toIntS.calls k _ _ d1 o1 _ ?side1 ?side2 A2.out).mono ?_);(case side1 => exact uc (Kd.C_below ga0.out HB.out));(case side2 => exact qa0.out);rintro e w11 ⟨za2,rfl,ho0,hb⟩;refine ⟨_,rfl,?_⟩;have n0_:= mk (Kd.R_lower ho0 (below_size (by repeat (first|(with_reducible first|exact HB.out|apply below_alloc|apply pw_below_drewN|apply below_drew1|refine below_set ?_ q0.out|refine below_set ?_ z0.out|refine below_set ?_ s1.out)|exact HB.out))));have n1_:= mk (blk_below (g:= k0) (o:= .cells #[.slice o2 d1.length j2,.slice m2 b1.length g2,.slice k2 v0.length d2] 25 (0,0)) (ub b0.out) hb);have n2_:= mk (blk_below (g:= j0) (o:= .cells #[.slice none 0 0,.slice none 0 0,.slice none 0 0] 29 (0,0)) (ub m0.out) hb);have n3_:= mk (blk_below (g:= g0) (o:= .cells #[.slice none 0 0,.slice none 0 0,.slice none 0 0] 29 (0,0)) (ub d0.out) hb);have n4_:= mk (below_step (by repeat (first|(with_reducible first|exact HB.out|apply below_alloc|apply pw_below_drewN|apply below_drew1|refine below_set ?_ q0.out|refine below_set ?_ z0.out|refine below_set ?_ s1.out)|exact HB.out)) hb);clear b0;clear m0;clear d0;clear HB;have q1:= n0_;have b0:= n1_;have m0:= n2_;have d0:= n3_;have HB:= n4_;clear n0_ n1_ n2_ n3_ n4_;(try clear hb);(try clear hb2);(try clear hk);(try clear hi);(try clear ho0);obtain ⟨z2,v2,da2⟩:= Kd.R_slice q1.out;subst da2;have ya1:= g3.out;have va1:= s0.out;have g9 : w11.cell? ⟨g0,0,none⟩ = some (.slice none 0 0):= (blk_cell d0.out 0).trans rfl;have d9 : w11.cell? ⟨g0,1,none⟩ = some (.slice none 0 0):= (blk_cell d0.out 1).trans rfl;have b9 : w11.cell? ⟨g0,2,none⟩ = some (.slice none 0 0):= (blk_cell d0.out 2).trans rfl;have m7:= blk_frozen d0.out 0;have k7:= blk_frozen d0.out 1;have j7:= blk_frozen d0.out 2;have a9 : w11.cell? ⟨k0,0,none⟩ = some (.slice o2 d1.length j2):= (blk_cell b0.out 0).trans rfl;have z8 : w11.cell? ⟨k0,1,none⟩ = some (.slice m2 b1.length g2):= (blk_cell b0.out 1).trans rfl;have y8 : w11.cell? ⟨k0,2,none⟩ = some (.slice k2 v0.length d2):= (blk_cell b0.out 2).trans rfl;have g7:= blk_frozen b0.out 0;have d7:= blk_frozen b0.out 1;have b7:= blk_frozen b0.out 2)|((with_reducible refine gate_callee (f:= 30) rfl ?_);refine goesL_ (some 10) rfl rfl Try.func30 (by kernel_rfl) rfl #[.slice m2 b1.length g2] rfl (by (try simp only [List.map_toArray,List.map_cons,List.map_nil]);first|done|rfl|(simp only [List.length_drop,List.length_take];rfl)) ?_;(with_reducible refine (laws_toIntS.calls k _ _ b1 v1 _ ?side1 ?side2 A3.out).mono ?_);(case side1 => exact Kd.C_below da0.out (by repeat (first|(with_reducible first|exact HB.out|apply below_alloc|apply pw_below_drewN|apply below_drew1|refine below_set ?_ q0.out|refine below_set ?_ z0.out|refine below_set ?_ s1.out)|exact HB.out)));(case side2 => exact oa0.out);rintro e w16 ⟨ya2,rfl,ho0,hb⟩;refine ⟨_,rfl,?_⟩;have n0_:= mk (Kd.R_elder' (by exact up ((Kd.R_mono (Kd.R_far (p:= ⟨g0,0,none⟩) (Kd.R_types q1.out d0.out (by decide)) (fun _ hk => hk.2) (.slice z2 o1.length v2)) (fun _ h_ => h_.1)))) (Kd.R_base ho0) hb);have n1_:= mk (Kd.R_lower (Kd.R_new' ho0 (Kd.R_lt (by exact up ((Kd.R_mono (Kd.R_far (p:= ⟨g0,0,none⟩) (Kd.R_types q1.out d0.out (by decide)) (fun _ hk => hk.2) (.slice z2 o1.length v2)) (fun _ h_ => h_.1)))))) (below_size (by repeat (first|(with_reducible first|exact HB.out|apply below_alloc|apply pw_below_drewN|apply below_drew1|refine below_set ?_ q0.out|refine below_set ?_ z0.out|refine below_set ?_ s1.out)|exact HB.out))));have n2_:= mk (blk_below (g:= k0) (o:= .cells #[.slice o2 d1.length j2,.slice m2 b1.length g2,.slice k2 v0.length d2] 25 (0,0)) (by (with_reducible repeat (first|refine blk_drewN ?_ _|refine blk_drew ?_|refine blk_alloc ?_ _));refine blk_far ?_ g1.out _;(with_reducible repeat (first|refine blk_drewN ?_ _|refine blk_drew ?_|refine blk_alloc ?_ _));exact b0.out) hb);have n3_:= mk (blk_below (g:= j0) (o:= .cells #[.slice none 0 0,.slice none 0 0,.slice none 0 0] 29 (0,0)) (by (with_reducible repeat (first|refine blk_drewN ?_ _|refine blk_drew ?_|refine blk_alloc ?_ _));refine blk_far ?_ s0.out _;(with_reducible repeat (first|refine blk_drewN ?_ _|refine blk_drew ?_|refine blk_alloc ?_ _));exact m0.out) hb);have n4_:= mk (blk_below (g:= g0) (o:= .cells #[.slice z2 o1.length v2,.slice none 0 0,.slice none 0 0] 29 (0,0)) (by (with_reducible repeat (first|refine blk_drewN ?_ _|refine blk_drew ?_|refine blk_alloc ?_ _));refine blk_put (cs:= #[.slice none 0 0,.slice none 0 0,.slice none 0 0]) ?_ 0 _ rfl;(with_reducible repeat (first|refine blk_drewN ?_ _|refine blk_drew ?_|refine blk_alloc ?_ _));exact d0.out) hb);have n5_:= mk (below_step (by repeat (first|(with_reducible first|exact HB.out|apply below_alloc|apply pw_below_drewN|apply below_drew1|refine below_set ?_ q0.out|refine below_set ?_ z0.out|refine below_set ?_ s1.out)|exact HB.out)) hb);clear q1;clear b0;clear m0;clear d0;clear HB;have q1:= n0_;have o3:= n1_;have b0:= n2_;have m0:= n3_;have d0:= n4_;have HB:= n5_;clear n0_ n1_ n2_ n3_ n4_ n5_;(try clear hb);(try clear hb2);(try clear hk);(try clear hi);(try clear ho0);obtain ⟨z3,v3,ba2⟩:= Kd.R_slice o3.out;subst ba2;have q8 : w16.cell? ⟨g0,0,none⟩ = some (.slice z2 o1.length v2):= (blk_cell d0.out 0).trans rfl;have o8 : w16.cell? ⟨g0,1,none⟩ = some (.slice none 0 0):= (blk_cell d0.out 1).trans rfl;have m8 : w16.cell? ⟨g0,2,none⟩ = some (.slice none 0 0):= (blk_cell d0.out 2).trans rfl;have a7:= blk_frozen d0.out 0;have z6:= blk_frozen d0.out 1;have y6:= blk_frozen d0.out 2;have k8 : w16.cell? ⟨k0,0,none⟩ = some (.slice o2 d1.length j2):= (blk_cell b0.out 0).trans rfl;have j8 : w16.cell? ⟨k0,1,none⟩ = some (.slice m2 b1.length g2):= (blk_cell b0.out 1).trans rfl;have g8 : w16.cell? ⟨k0,2,none⟩ = some (.slice k2 v0.length d2):= (blk_cell b0.out 2).trans rfl;have v6:= blk_frozen b0.out 0;have s6:= blk_frozen b0.out 1;have q6:= blk_frozen b0.out 2)|((with_reducible refine gate_callee (f:= 31) rfl ?_);refine goesL_ (some 14) rfl rfl Try.func31 (by kernel_rfl) rfl #[.slice k2 v0.length d2] rfl (by (try simp only [List.map_toArray,List.map_cons,List.map_nil]);first|done|rfl|(simp only [List.length_drop,List.length_take];rfl)) ?_;(with_reducible refine (laws_toPivotS.calls k _ _ v0 z1 _ ?side1 ?side2 A4.out).mono ?_);(case side1 => exact Kd.C_below ba0.out (by repeat (first|(with_reducible first|exact HB.out|apply below_alloc|apply pw_below_drewN|apply below_drew1|refine below_set ?_ q0.out|refine below_set ?_ z0.out|refine below_set ?_ s1.out)|exact HB.out)));(case side2 => exact ma0.out);rintro e w20 ⟨va2,rfl,ho0,hb⟩;refine ⟨_,rfl,?_⟩;have n0_:= mk (Kd.R_below (by exact up ((Kd.R_mono (Kd.R_far (p:= ⟨g0,1,none⟩) (Kd.R_types q1.out d0.out (by decide)) (fun _ hk => hk.2) (.slice z3 v1.length v3)) (fun _ h_ => h_.1)))) hb);have n1_:= mk (Kd.R_below (by exact up ((Kd.R_mono (Kd.R_far (p:= ⟨g0,1,none⟩) (Kd.R_types o3.out d0.out (by decide)) (fun _ hk => hk.2) (.slice z3 v1.length v3)) (fun _ h_ => h_.1)))) hb);have n2_:= mk (Kd.R_lower ho0 (below_size (by repeat (first|(with_reducible first|exact HB.out|apply below_alloc|apply pw_below_drewN|apply below_drew1|refine below_set ?_ q0.out|refine below_set ?_ z0.out|refine below_set ?_ s1.out)|exact HB.out))));have n3_:= mk (blk_below (g:= k0) (o:= .cells #[.slice o2 d1.length j2,.slice m2 b1.length g2,.slice k2 v0.length d2] 25 (0,0)) (by (with_reducible repeat (first|refine blk_drewN ?_ _|refine blk_drew ?_|refine blk_alloc ?_ _));refine blk_far ?_ g1.out _;(with_reducible repeat (first|refine blk_drewN ?_ _|refine blk_drew ?_|refine blk_alloc ?_ _));exact b0.out) hb);have n4_:= mk (blk_below (g:= j0) (o:= .cells #[.slice none 0 0,.slice none 0 0,.slice none 0 0] 29 (0,0)) (by (with_reducible repeat (first|refine blk_drewN ?_ _|refine blk_drew ?_|refine blk_alloc ?_ _));refine blk_far ?_ s0.out _;(with_reducible repeat (first|refine blk_drewN ?_ _|refine blk_drew ?_|refine blk_alloc ?_ _));exact m0.out) hb);have n5_:= mk (blk_below (g:= g0) (o:= .cells #[.slice z2 o1.length v2,.slice z3 v1.length v3,.slice none 0 0] 29 (0,0)) (by (with_reducible repeat (first|refine blk_drewN ?_ _|refine blk_drew ?_|refine blk_alloc ?_ _));refine blk_put (cs:= #[.slice z2 o1.length v2,.slice none 0 0,.slice none 0 0]) ?_ 1 _ rfl;(with_reducible repeat (first|refine blk_drewN ?_ _|refine blk_drew ?_|refine blk_alloc ?_ _));exact d0.out) hb);have n6_:= mk (below_step (by repeat (first|(with_reducible first|exact HB.out|apply below_alloc|apply pw_below_drewN|apply below_drew1|refine below_set ?_ q0.out|refine below_set ?_ z0.out|refine below_set ?_ s1.out)|exact HB.out)) hb);clear q1;clear o3;clear b0;clear m0;clear d0;clear HB;have q1:= n0_;have o3:= n1_;have y5:= n2_;have b0:= n3_;have m0:= n4_;have d0:= n5_;have HB:= n6_;clear n0_ n1_ n2_ n3_ n4_ n5_ n6_;(try clear hb);(try clear hb2);(try clear hk);(try clear hi);(try clear ho0);obtain ⟨s4,q4,aa2⟩:= Kd.R_slice y5.out;subst aa2;have d8 : w20.cell? ⟨g0,0,none⟩ = some (.slice z2 o1.length v2):= (blk_cell d0.out 0).trans rfl;have b8 : w20.cell? ⟨g0,1,none⟩ = some (.slice z3 v1.length v3):= (blk_cell d0.out 1).trans rfl;have a8 : w20.cell? ⟨g0,2,none⟩ = some (.slice none 0 0):= (blk_cell d0.out 2).trans rfl;have o6:= blk_frozen d0.out 0;have m6:= blk_frozen d0.out 1;have k6:= blk_frozen d0.out 2;have z7 : w20.cell? ⟨j0,0,none⟩ = some (.slice none 0 0):= (blk_cell m0.out 0).trans rfl;have y7 : w20.cell? ⟨j0,1,none⟩ = some (.slice none 0 0):= (blk_cell m0.out 1).trans rfl;have v7 : w20.cell? ⟨j0,2,none⟩ = some (.slice none 0 0):= (blk_cell m0.out 2).trans rfl;have j6:= blk_frozen m0.out 0;have g6:= blk_frozen m0.out 1;have d6:= blk_frozen m0.out 2))
  refine bodyPost_ret (results_cell_row rfl _ _ j0 29 #[.slice z2 o1.length v2,.slice z3 v1.length v3,.slice s4 z1.length q4] (0,0) _ rfl (by (with_reducible repeat (first|refine blk_drewN ?_ _|refine blk_drew ?_|refine blk_alloc ?_ _));refine blk_put (cs:= #[.slice z2 o1.length v2,.slice z3 v1.length v3,.slice none 0 0]) ?_ 2 _ rfl;(with_reducible repeat (first|refine blk_drewN ?_ _|refine blk_drew ?_|refine blk_alloc ?_ _));refine blk_put (cs:= #[.slice z2 o1.length v2,.slice none 0 0,.slice none 0 0]) ?_ 1 _ rfl;(with_reducible repeat (first|refine blk_drewN ?_ _|refine blk_drew ?_|refine blk_alloc ?_ _));refine blk_put (cs:= #[.slice none 0 0,.slice none 0 0,.slice none 0 0]) ?_ 0 _ rfl;(with_reducible repeat (first|refine blk_drewN ?_ _|refine blk_drew ?_|refine blk_alloc ?_ _));refine blk_far ?_ s0.out _;(with_reducible repeat (first|refine blk_drewN ?_ _|refine blk_drew ?_|refine blk_alloc ?_ _));exact m0.out) Try.underlying29 rfl (by kernel_rfl)) rfl ?_
  exact ⟨_,_,_,by first|rfl|(simp [errW_none,errW_some] <;> rfl)|(simp [*,errW_none,errW_some] <;> rfl),by exact up (Kd.R_mono (Kd.R_far (p:= ⟨j0,2,none⟩) (Kd.R_far (p:= ⟨j0,1,none⟩) (Kd.R_far (p:= ⟨j0,0,none⟩) (Kd.R_far (p:= ⟨g0,2,none⟩) (Kd.R_types (Kd.R_types q1.out d0.out (by decide)) m0.out (by decide)) (fun _ hk => by first|exact hk.1.2|(revert hk;simp only [and_imp];intros;(repeat' (refine And.intro ?_ ?_)) <;> assumption)) (.slice s4 z1.length q4)) (fun _ hk => hk.2) (.slice z2 o1.length v2)) (fun _ hk => hk.2) (.slice z3 v1.length v3)) (fun _ hk => hk.2) (.slice s4 z1.length q4)) (fun _ hk => by first|exact hk.1.1.2|(revert hk;simp only [and_imp];intros;(repeat' (refine And.intro ?_ ?_)) <;> assumption))),by exact up (Kd.R_mono (Kd.R_far (p:= ⟨j0,2,none⟩) (Kd.R_far (p:= ⟨j0,1,none⟩) (Kd.R_far (p:= ⟨j0,0,none⟩) (Kd.R_far (p:= ⟨g0,2,none⟩) (Kd.R_types (Kd.R_types o3.out d0.out (by decide)) m0.out (by decide)) (fun _ hk => by first|exact hk.1.2|(revert hk;simp only [and_imp];intros;(repeat' (refine And.intro ?_ ?_)) <;> assumption)) (.slice s4 z1.length q4)) (fun _ hk => hk.2) (.slice z2 o1.length v2)) (fun _ hk => hk.2) (.slice z3 v1.length v3)) (fun _ hk => hk.2) (.slice s4 z1.length q4)) (fun _ hk => by first|exact hk.1.1.2|(revert hk;simp only [and_imp];intros;(repeat' (refine And.intro ?_ ?_)) <;> assumption))),by exact up (Kd.R_mono (Kd.R_far (p:= ⟨j0,2,none⟩) (Kd.R_far (p:= ⟨j0,1,none⟩) (Kd.R_far (p:= ⟨j0,0,none⟩) (Kd.R_far (p:= ⟨g0,2,none⟩) (Kd.R_types (Kd.R_types y5.out d0.out (by decide)) m0.out (by decide)) (fun _ hk => by first|exact hk.1.2|(revert hk;simp only [and_imp];intros;(repeat' (refine And.intro ?_ ?_)) <;> assumption)) (.slice s4 z1.length q4)) (fun _ hk => hk.2) (.slice z2 o1.length v2)) (fun _ hk => hk.2) (.slice z3 v1.length v3)) (fun _ hk => hk.2) (.slice s4 z1.length q4)) (fun _ hk => trivial)),by repeat (first|(with_reducible first|exact HB.out|apply below_alloc|apply pw_below_drewN|apply below_drew1|refine below_set ?_ q0.out|refine below_set ?_ z0.out|refine below_set ?_ s1.out)|exact HB.out)⟩

/-! ### impl_within: function 48 -/
/-- The predicate of within, as the machine's closure gives it. -/
theorem impl_within.pred (B1 B2 : Nat) (lo hi x : Int) (W : World) (h1 : W.cell? ⟨B1, 0, none⟩ = some (.int .i64 lo)) (h2 : W.cell? ⟨B2, 0, none⟩ = some (.int .i64 hi)) :
    Calls Try.prog 66 #[.int .i64 x, .pointer (some ⟨B1, 0, none⟩), .pointer (some ⟨B2, 0, none⟩)] W fun e w' => e = .returned (.bool (decide (x < lo) || decide (hi < x))) ∧ W = w' := by
  by_cases c1 : x < lo
  · have c : decide (x < lo) = true:= decide_eq_true c1
    go_enter Try.func66,Try.ntmps66
    go_wp2
    go_ret
    exact ⟨by simp [c1],rfl⟩
  · have c : decide (x < lo) = false:= decide_eq_false c1
    by_cases c2 : hi < x
    · have d : decide (hi < x) = true:= decide_eq_true c2
      go_enter Try.func66,Try.ntmps66
      go_wp2
      go_ret
      exact ⟨by simp [c1,c2],rfl⟩
    · have d : decide (hi < x) = false:= decide_eq_false c2
      go_enter Try.func66,Try.ntmps66
      go_wp2
      go_ret
      exact ⟨by simp [c1,c2],rfl⟩
set_option maxHeartbeats 2000000 in
set_option maxRecDepth 100000 in
theorem impl_within.idx (A0 : Option Addr) (c0 : Nat) (l0 : List Int) (B1 B2 : Nat) (lo hi : Int) (w : World) (hr0 : Kd.C (Kd.int .i64) w A0 l0.length l0) (h1 : w.cell? ⟨B1, 0, none⟩ = some (.int .i64 lo)) (h2 : w.cell? ⟨B2, 0, none⟩ = some (.int .i64 hi)) :
    Calls Try.prog 73 #[.slice A0 l0.length c0, .func (.func 66) #[] #[.pointer (some ⟨B1, 0, none⟩), .pointer (some ⟨B2, 0, none⟩)]] w fun e w' => e = .returned (.int .i64 (Giv.fidx (fun x => decide (x < lo) || decide (hi < x)) l0)) ∧ Drawn0 w w' := by
  have eg:= Go.Proofs.enters_of Try.func66 (by kernel_rfl) rfl
  have hn : l0.length ≤ 9223372036854775807:= hr0.2.1
  have HR:= mk hr0
  clear hr0
  have C1:= mk h1
  have C2:= mk h2
  clear h1 h2
  go_enter Try.func73,Try.ntmps73
  go_wp2
  go_loopg [5,8] l0.length (fun gg _ s8 wr => ∃ kk q : Nat,kk ≤ l0.length ∧ l0.length - kk ≤ gg ∧ s8 = .int .i64 kk ∧ wr = w.drewN q ∧ Aside0 (∀ j x,j < kk → l0[j]? = some x → (decide (x < lo) || decide (hi < x)) = false))
  case atStart => exact ⟨0,0,Nat.zero_le _,by omega,rfl,rfl,⟨fun j x hj => absurd hj (Nat.not_lt_zero _)⟩⟩
  case round =>
    obtain ⟨kk,q,hkk,hg,rfl,rfl,AH⟩:= hrel
    by_cases hlt : kk < l0.length
    · have hltz : (kk : Int) < (l0.length : Int):= by omega
      obtain ⟨ad,e,hcell⟩:= Kd.at_int HR.out (kk : Int) (by omega) (by omega)
      subst e
      obtain ⟨y,hy⟩ : ∃ y,l0[kk]? = some y:= ⟨_,List.getElem?_eq_getElem hlt⟩
      have hy2 : rd l0 (kk : Int) = y:= by unfold rd;rw [List.getD_eq_getElem?_getD,Int.toNat_natCast,hy];rfl
      rw [hy2,Int.toNat_natCast] at hcell
      have HY:= mk hy
      clear hy hy2
      have hcall:= fun W a b => impl_within.pred B1 B2 lo hi y W a b
      cases hq : (decide (y < lo) || decide (hi < y)) with
     |true =>
        rw [hq] at hcall
        have HQ:= mk hq
        clear hq
        go_wp2_with fail
        refine (hcall _ (by simpa using C1.out) (by simpa using C2.out)).mono ?_
        rintro e w' ⟨rfl,rfl⟩
        go_wp2_with fail
        go_ret
        refine ⟨?_,⟨_,rfl⟩⟩
        rw [Giv.fidx_hit HY.out HQ.out AH.out]
        rfl
     |false =>
        rw [hq] at hcall
        have HQ:= mk hq
        clear hq
        go_wp2_with fail
        refine (hcall _ (by simpa using C1.out) (by simpa using C2.out)).mono ?_
        rintro e w' ⟨rfl,rfl⟩
        go_wp2_with fail
        go_roundg (l0.length - (kk + 1))
        case measure => omega
        case rel =>
          refine ⟨kk + 1,_,by omega,by omega,by go_num,rfl,⟨fun j x hj hx => ?_⟩⟩
          by_cases e : j = kk
          · subst e
            rw [HY.out] at hx
            obtain rfl:= Option.some.inj hx
            exact HQ.out
          · exact AH.out j x (by omega) hx
    · have hltz : ¬ (kk : Int) < (l0.length : Int):= by omega
      have hkn:= mk (show kk = l0.length by omega)
      go_wp2
      go_ret
      refine ⟨?_,⟨_,rfl⟩⟩
      have hm:= AH.out
      rw [hkn.out] at hm
      rw [Giv.fidx_miss hm]
      rfl
set_option maxHeartbeats 2000000 in
set_option maxRecDepth 100000 in
theorem impl_within.has (A0 : Option Addr) (c0 : Nat) (l0 : List Int) (B1 B2 : Nat) (lo hi : Int) (w : World) (hr0 : Kd.C (Kd.int .i64) w A0 l0.length l0) (h1 : w.cell? ⟨B1, 0, none⟩ = some (.int .i64 lo)) (h2 : w.cell? ⟨B2, 0, none⟩ = some (.int .i64 hi)) :
    Calls Try.prog 65 #[.slice A0 l0.length c0, .func (.func 66) #[] #[.pointer (some ⟨B1, 0, none⟩), .pointer (some ⟨B2, 0, none⟩)]] w fun e w' => e = .returned (.bool (l0.any fun x => decide (x < lo) || decide (hi < x))) ∧ Drawn0 w w' := by
  have hcall:= impl_within.idx A0 c0 l0 B1 B2 lo hi w hr0 h1 h2
  have HA:= mk (Giv.fidx_any (fun x => decide (x < lo) || decide (hi < x)) l0)
  generalize Giv.fidx (fun x => decide (x < lo) || decide (hi < x)) l0 = y at hcall HA
  clear hr0 h1 h2
  go_enter Try.func65,Try.ntmps65
  go_wp2_with (go_at_call 73;refine hcall.mono ?_;rintro e w' ⟨rfl,hd⟩)
  go_ret
  exact ⟨by rw [← HA.out];rfl,hd⟩
def impl_within.f (l0 : List Int) (a1 : Int) (a2 : Int) : Option (Bool) := some (!(l0.any fun x => decide (x < a1) || decide (a2 < x)))
set_option maxHeartbeats 8000000 in
set_option maxRecDepth 100000 in
theorem impl_within.calls (A0 : Option Addr) (c0 : Nat) (l0 : List Int) (a1 : Int) (a2 : Int) (r : Bool) (w : World) (hr0 : Kd.C (Kd.int .i64) w A0 l0.length l0) (hc0 : l0.length ≤ c0) (h : impl_within.f l0 a1 a2 = some r) :
    Calls Try.prog 48 #[.slice A0 l0.length c0, .int .i64 a1, .int .i64 a2] w fun e w' => e = .returned (.bool r) ∧ Below w.heap.size w w' := by
  unfold impl_within.f at h
  obtain rfl:= Option.some.inj h
  clear h
  have hcall:= fun (W : World) hr a b => impl_within.has A0 c0 l0 w.heap.size (w.heap.size + 1) a1 a2 W hr a b
  have HR:= mk hr0
  clear hr0
  go_enter Try.func48,Try.ntmps48
  go_wp2_with (go_at_call 65;refine (hcall _ (by repeat (first|exact HR.out|(refine Kd.C_alloc ?_ _)|(refine Kd.C_drew ?_))) (by simp) (by simp)).mono ?_;rintro e w' ⟨rfl,hd⟩)
  go_ret
  exact ⟨rfl,below_then (((Below.refl _ _).alloc (Nat.le_refl _) _).alloc (by simp) _) (by simp;omega) hd.below⟩


/-! ### impl_AreValues: function 47 -/
def impl_AreValues.f (l0 : List Int) : Option (Bool) := if (l0.length : Int) ≤ 64 then ((impl_within.f l0 (-999) 999).bind fun z4 => (some z4)) else (some false)
set_option maxHeartbeats 8000000 in
set_option maxRecDepth 100000 in
theorem impl_AreValues.calls (A0 : Option Addr) (c0 : Nat) (l0 : List Int) (r : Bool) (w : World) (hr0 : Kd.C (Kd.int .i64) w A0 l0.length l0) (hc0 : l0.length ≤ c0) (h : impl_AreValues.f l0 = some r) :
    Calls Try.prog 47 #[.slice A0 l0.length c0] w fun e w' => e = .returned (.bool r) ∧ Below w.heap.size w w' := by
  have HR0:= mk hr0
  have HC0:= mk hc0
  clear hr0 hc0
  have HB:= mk (Below.refl w.heap.size w)
  have H : (if (l0.length : Int) ≤ 64 then ((impl_within.f l0 (-999) 999).bind fun z4 => (some z4)) else (some false)) = some r:= h
  clear h
  by_cases c2 : (l0.length : Int) ≤ 64
  · rw [if_pos c2] at H
    have q5 : decide ((l0.length : Int) ≤ 64) = true:= decide_eq_true c2
    have y9 : decide (l0.length ≤ 64) = true:= decide_eq_true (by omega)
    clear c2
    replace H:= Option.bind_eq_some_iff.mp H
    obtain ⟨z4,A30,H⟩:= H
    replace H : (some z4) = some r:= H
    have A3:= mk A30
    clear A30
    obtain rfl:= Option.some.inj H
    go_enter Try.func47,Try.ntmps47
    go_wp2_with (first|(go_at_call 48;(with_reducible refine (impl_within.calls _ _ l0 (-999) 999 z4 _ ?side1 ?side2 A3.out).mono ?_);(case side1 => exact uc HR0.out);(case side2 => exact HC0.out);rintro e w4 ⟨rfl,hb⟩;have n0_:= mk (below_step (by repeat (first|(with_reducible first|exact HB.out|apply below_alloc|apply pw_below_drewN|apply below_drew1)|exact HB.out)) hb);clear HB;have HB:= n0_;clear n0_;(try clear hb);(try clear hb2);(try clear hk);(try clear hi)))
    go_ret
    exact ⟨by first|rfl|(simp [errW_none,errW_some] <;> rfl)|(simp [*,errW_none,errW_some] <;> rfl),by repeat (first|(with_reducible first|exact HB.out|apply below_alloc|apply pw_below_drewN|apply below_drew1)|exact HB.out)⟩
  · rw [if_neg c2] at H
    have q5 : decide ((l0.length : Int) ≤ 64) = false:= decide_eq_false c2
    have y9 : decide (l0.length ≤ 64) = false:= decide_eq_false (by omega)
    clear c2
    obtain rfl:= Option.some.inj H
    go_enter Try.func47,Try.ntmps47
    go_wp2
    go_ret
    exact ⟨by first|rfl|(simp [errW_none,errW_some] <;> rfl)|(simp [*,errW_none,errW_some] <;> rfl),by repeat (first|(with_reducible first|exact HB.out|apply below_alloc|apply pw_below_drewN|apply below_drew1)|exact HB.out)⟩

/-! ### slices_Index_int_int: function 57 -/
def slices_Index_int_int.l0 : Nat → List Int → Int → Int → Int → Option (Int)
  | 0, _, _, _, _ => none
  | k + 1, x0, x1, x7, x8 => if x8 < x7 then (if 0 ≤ x8 then (if x8 < (x0.length : Int) then (if x1 = (rd x0 x8) then (some x8) else (slices_Index_int_int.l0 k x0 x1 x7 (wrap64 (x8 + 1)))) else (none)) else (none)) else (some (-1))
def slices_Index_int_int.f (k : Nat) (l0 : List Int) (a1 : Int) : Option (Int) := slices_Index_int_int.l0 k l0 a1 (l0.length : Int) 0
theorem slices_Index_int_int.mono_l : ∀ k, (∀ y0 y1 y2 y3, LeO (slices_Index_int_int.l0 k y0 y1 y2 y3) (slices_Index_int_int.l0 (k + 1) y0 y1 y2 y3))
  | 0 => fun _ _ _ _ r h => by simp [slices_Index_int_int.l0] at h
  | k + 1 => by
    have ih0 := slices_Index_int_int.mono_l k
    · intro y0 y1 y2 y3
      unfold slices_Index_int_int.l0
      repeat' first
      | (with_reducible exact ih0 _ _ _ _)
      | (with_reducible exact LeO.refl _)
      | (with_reducible exact LeO.none _)
      | (with_reducible refine LeO.ite ?_ ?_)
      | (with_reducible refine LeO.bind ?_ (fun _ => ?_))
      | exact ih0 _ _ _ _
      | exact LeO.none _
      | refine LeO.ite ?_ ?_
      | refine LeO.bind ?_ (fun _ => ?_)
theorem slices_Index_int_int.mono : ∀ a0 a1 k, LeO (slices_Index_int_int.f k a0 a1) (slices_Index_int_int.f (k + 1) a0 a1) := by
  intro a0 a1 k
  have ih0:= slices_Index_int_int.mono_l k
  unfold slices_Index_int_int.f
  repeat' first
     |(with_reducible exact ih0 _ _ _ _)
     |(with_reducible exact LeO.refl _)
     |(with_reducible exact LeO.none _)
     |(with_reducible refine LeO.ite ?_ ?_)
     |(with_reducible refine LeO.bind ?_ (fun _ => ?_))
     |exact ih0 _ _ _ _
     |exact LeO.none _
     |refine LeO.ite ?_ ?_
     |refine LeO.bind ?_ (fun _ => ?_)
set_option maxHeartbeats 8000000 in
set_option maxRecDepth 100000 in
theorem slices_Index_int_int.calls (k : Nat) (A0 : Option Addr) (c0 : Nat) (l0 : List Int) (a1 : Int) (r : Int) (w : World) (hr0 : Kd.C (Kd.int .i64) w A0 l0.length l0) (hc0 : l0.length ≤ c0) (h : slices_Index_int_int.f k l0 a1 = some r) :
    Calls Try.prog 57 #[.slice A0 l0.length c0, .int .i64 a1] w fun e w' => e = .returned (.int .i64 r) ∧ Drawn0 w w' := by
  have HR0:= mk hr0
  have HC0:= mk hc0
  clear hr0 hc0
  have H : (slices_Index_int_int.l0 k l0 a1 (l0.length : Int) 0) = some r:= h
  clear h
  have H':= mk H
  clear H
  go_enter Try.func57,Try.ntmps57
  go_wp2
  go_loopg [8] k (fun kq v8 w' => ∃ (j1 : Int),v8 = .int .i64 j1 ∧ Aside0 (slices_Index_int_int.l0 kq l0 a1 (l0.length : Int) j1 = some r) ∧ Aside0 (kq ≤ k) ∧ Drawn0 w w')
  case atStart => exact ⟨(0),(by first|rfl|(simp;done)|(simp [*];done)),H',⟨Nat.le_refl _⟩,by repeat (first|exact Drawn0.refl _|apply Drawn0.step)⟩
  case round =>
    clear H'
    try clear p2
    obtain ⟨j1,rfl,HA,HK1,⟨m1,rfl⟩⟩:= hrel
    cases gk with
   |zero => exact absurd HA.out (by simp [slices_Index_int_int.l0])
   |succ k1 =>
      have H:= HA.out
      clear HA
      simp only [slices_Index_int_int.l0] at H
      by_cases c3 : j1 < (l0.length : Int)
      · rw [if_pos c3] at H
        have v9 : decide (j1 < (l0.length : Int)) = true:= decide_eq_true c3
        clear c3
        by_cases c4 : 0 ≤ j1
        · rw [if_pos c4] at H
          have va3 : decide (0 ≤ j1) = true:= decide_eq_true c4
          clear c4
          by_cases c5 : j1 < (l0.length : Int)
          · rw [if_pos c5] at H
            have sa3 : decide (j1 < (l0.length : Int)) = true:= decide_eq_true c5
            clear c5
            by_cases c6 : a1 = (rd l0 j1)
            · rw [if_pos c6] at H
              have s9 : (a1 == (rd l0 j1)) = true:= beq_iff_eq.mpr c6
              have ja2 : (a1 != (rd l0 j1)) = false:= bne_eq_false_iff_eq.mpr c6
              clear c6
              obtain rfl:= Option.some.inj H
              have g4 : 0 ≤ (j1 : Int):= of_decide_eq_true (by first|(with_reducible assumption)|assumption)
              have d4 : j1 < (l0.length : Int):= of_decide_eq_true (by first|(with_reducible assumption)|assumption)
              obtain ⟨z9,q9,j4⟩:= Kd.at_int HR0.out j1 g4 d4
              cases q9
              replace g4:= eq_true g4
              replace d4:= eq_true d4
              go_wp2
              go_ret
              exact ⟨by first|rfl|(simp;done)|(simp [*];done),by repeat (first|exact Drawn0.refl _|apply Drawn0.step)⟩
            · rw [if_neg c6] at H
              have s9 : (a1 == (rd l0 j1)) = false:= beq_eq_false_iff_ne.mpr c6
              have ja2 : (a1 != (rd l0 j1)) = true:= bne_iff_ne.mpr c6
              have H':= mk H
              clear H
              have g4 : 0 ≤ (j1 : Int):= of_decide_eq_true (by first|(with_reducible assumption)|assumption)
              have d4 : j1 < (l0.length : Int):= of_decide_eq_true (by first|(with_reducible assumption)|assumption)
              obtain ⟨z9,q9,j4⟩:= Kd.at_int HR0.out j1 g4 d4
              cases q9
              replace g4:= eq_true g4
              replace d4:= eq_true d4
              go_wp2
              go_roundg k1
              case measure => have:= HK1.out;omega
              case rel => exact ⟨(wrap64 (j1 + 1)),(by first|rfl|(simp;done)|(simp [*];done)),H',⟨by have:= HK1.out;omega⟩,by repeat (first|exact Drawn0.refl _|apply Drawn0.step)⟩
          · rw [if_neg c5] at H
            exact absurd H (by simp)
        · rw [if_neg c4] at H
          exact absurd H (by simp)
      · rw [if_neg c3] at H
        have v9 : decide (j1 < (l0.length : Int)) = false:= decide_eq_false c3
        clear c3
        obtain rfl:= Option.some.inj H
        go_wp2
        go_ret
        exact ⟨by first|rfl|(simp;done)|(simp [*];done),by repeat (first|exact Drawn0.refl _|apply Drawn0.step)⟩

/-! ### slices_Contains_int_int: function 49 -/
def slices_Contains_int_int.f (k : Nat) (l0 : List Int) (a1 : Int) : Option (Bool) := (slices_Index_int_int.f k l0 a1).bind fun y4 => (some (decide (y4 ≥ 0)))
theorem slices_Contains_int_int.mono : ∀ a0 a1 k, LeO (slices_Contains_int_int.f k a0 a1) (slices_Contains_int_int.f (k + 1) a0 a1) := by
  intro a0 a1 k
  unfold slices_Contains_int_int.f
  repeat' first
     |(with_reducible exact slices_Index_int_int.mono _ _ _)
     |(with_reducible exact LeO.refl _)
     |(with_reducible exact LeO.none _)
     |(with_reducible refine LeO.ite ?_ ?_)
     |(with_reducible refine LeO.bind ?_ (fun _ => ?_))
     |exact slices_Index_int_int.mono _ _ _
     |exact LeO.none _
     |refine LeO.ite ?_ ?_
     |refine LeO.bind ?_ (fun _ => ?_)
set_option maxHeartbeats 8000000 in
set_option maxRecDepth 100000 in
theorem slices_Contains_int_int.calls (k : Nat) (A0 : Option Addr) (c0 : Nat) (l0 : List Int) (a1 : Int) (r : Bool) (w : World) (hr0 : Kd.C (Kd.int .i64) w A0 l0.length l0) (hc0 : l0.length ≤ c0) (h : slices_Contains_int_int.f k l0 a1 = some r) :
    Calls Try.prog 49 #[.slice A0 l0.length c0, .int .i64 a1] w fun e w' => e = .returned (.bool r) ∧ Drawn0 w w' := by
  have HR0:= mk hr0
  have HC0:= mk hc0
  clear hr0 hc0
  have H : ((slices_Index_int_int.f k l0 a1).bind fun y4 => (some (decide (y4 ≥ 0)))) = some r:= h
  clear h
  replace H:= Option.bind_eq_some_iff.mp H
  obtain ⟨y4,A30,H⟩:= H
  replace H : (some (decide (y4 ≥ 0))) = some r:= H
  have A3:= mk A30
  clear A30
  obtain rfl:= Option.some.inj H
  go_enter Try.func49,Try.ntmps49
  go_wp2_with (first|((with_reducible refine gate_callee (f:= 57) rfl ?_);refine goesL_ (some 7) rfl rfl Try.func57 (by kernel_rfl) rfl #[.slice A0 l0.length c0,.int .i64 a1] rfl (by (try simp only [List.map_toArray,List.map_cons,List.map_nil]);first|done|rfl|(simp only [List.length_drop,List.length_take];rfl)) ?_;(with_reducible refine (slices_Index_int_int.calls k _ _ l0 a1 y4 _ ?side1 ?side2 A3.out).mono ?_);(case side1 => exact uc HR0.out);(case side2 => exact HC0.out);rintro e w' ⟨rfl,⟨nd,rfl⟩⟩;refine ⟨_,rfl,?_⟩))
  go_ret
  exact ⟨by first|rfl|(simp;done)|(simp [*];done),by repeat (first|exact Drawn0.refl _|apply Drawn0.step)⟩

/-! ### impl_bound: function 50 -/
def impl_bound.f (a0 : Int) : Option (Bool) := if a0 ≥ (-1000) then (some (decide (a0 ≤ 1000))) else (some false)
set_option maxHeartbeats 8000000 in
set_option maxRecDepth 100000 in
theorem impl_bound.calls (a0 : Int) (r : Bool) (w : World) (h : impl_bound.f a0 = some r) :
    Calls Try.prog 50 #[.int .i64 a0] w fun e w' => e = .returned (.bool r) ∧ Drawn0 w w' := by
  have H : (if a0 ≥ (-1000) then (some (decide (a0 ≤ 1000))) else (some false)) = some r:= h
  clear h
  by_cases c2 : a0 ≥ (-1000)
  · rw [if_pos c2] at H
    have q5 : decide ((-1000) ≤ a0) = true:= decide_eq_true c2
    clear c2
    obtain rfl:= Option.some.inj H
    go_enter Try.func50,Try.ntmps50
    go_wp2
    go_ret
    exact ⟨by first|rfl|(simp;done)|(simp [*];done),by repeat (first|exact Drawn0.refl _|apply Drawn0.step)⟩
  · rw [if_neg c2] at H
    have q5 : decide ((-1000) ≤ a0) = false:= decide_eq_false c2
    clear c2
    obtain rfl:= Option.some.inj H
    go_enter Try.func50,Try.ntmps50
    go_wp2
    go_ret
    exact ⟨by first|rfl|(simp;done)|(simp [*];done),by repeat (first|exact Drawn0.refl _|apply Drawn0.step)⟩

end Go.Proofs.Ytlikcmonejefoab.PFnExactRippleDelete
