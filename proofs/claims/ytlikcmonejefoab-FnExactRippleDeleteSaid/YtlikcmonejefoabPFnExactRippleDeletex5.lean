-- printed by a program of this session, a turned copy of the print of the kit
import Derived.Test.YtlikcmonejefoabSq
import Derived.Test.YtlikcmonejefoabPFnExactRippleDeletex0
import Derived.Test.YtlikcmonejefoabPFnExactRippleDeletex3
import Derived.Test.YtlikcmonejefoabPFnExactRippleDeletex4
namespace Go.Proofs.Ytlikcmonejefoab.PFnExactRippleDelete
open Go.RowKit Go.Proofs.YtlikcmonejefoabW.PrintWords Go.Proofs.YtlikcmonejefoabW.PrintLast Go.Proofs.YtlikcmonejefoabW.PrintMore Go.Proofs.Ytlikcmonejefoab.Sq
attribute [local go_sem] max2_int min2_int max_two min_two max_three min_three max_four min_four Giv.cell_twice   -- for this text's walks alone
set_option linter.unusedVariables false
set_option linter.unusedSimpArgs false

/-! ### spec_l10Move: function 29 -/
def spec_l10Move.f (a0 : Int) (a1 : Int) : Option (Int) := some (if a0 = a1 then 0 else 1)
set_option maxHeartbeats 4000000 in
set_option maxRecDepth 1000000 in
theorem spec_l10Move.callsS {okP : Nat → Prop} (w0 W : World) (gb : Nat) (v0 v1 v2 : Value) (V R : List Int) (P : List (S50)) (a1 a2 r : Int) (hB : Below w0.heap.size w0 W) (h : Cs.CS okP k50 50 29 w0.heap.size W gb v0 v1 v2 V R P)
    (t0 : 0 ≤ a1) (t1 : a1 < (V.length : Int)) (t2 : a1 < (R.length : Int)) (f0 : 0 ≤ a2) (f1 : a2 < (V.length : Int)) (f2 : a2 < (R.length : Int)) (hr : spec_l10Move.f a2 a1 = some r) :
    Calls Try.prog 29 #[.pointer (some ⟨gb, 0, none⟩), .int .i64 a2, .int .i64 a1] W fun e w' => e = .returned (.int .i64 r) ∧
      (Cs.CS okP k50 50 29 w0.heap.size w' gb v0 v1 v2 (V.set a1.toNat (rd V a2)) (R.set a1.toNat (rd R a2)) P ∧ Below w0.heap.size w0 w' ∧ Cs.Far W w') := by
  have hu:= Try.underlying29
  obtain rfl:= Option.some.inj hr
  by_cases he : a1 = a2
  · subst he
    have H:= mk h
    have HB:= mk hB
    have e1:= mk (Cs.set_self V a1 t0 t1)
    have e2:= mk (Cs.set_self R a1 t0 t2)
    clear h hB hr
    go_enter Try.func29,Try.ntmps29
    go_wp2
    go_ret
    exact ⟨by simp,by rw [e1.out,e2.out];exact H.out,HB.out,Nat.le_refl _,fun _ _ _ _ h => h⟩
  · obtain ⟨g0,c0,e0,b0,l0,q0⟩:= Kd.R_form h.r0 (by omega)
    obtain ⟨g1,c1,e1,b1,l1,q1⟩:= Kd.R_form h.r1 (by omega)
    subst e0 e1
    have hg : g0 ≠ g1:= fun e => h.r0.1 g0 rfl (by rw [e];rfl)
    have hg' : g1 ≠ g0:= fun e => hg e.symm
    have n0 : gb ≠ g0:= fun e => Kd.R_ne h.r0 h.blk (by decide) (by rw [e];rfl)
    have n1 : gb ≠ g1:= fun e => Kd.R_ne h.r1 h.blk (by decide) (by rw [e];rfl)
    have n0' : g0 ≠ gb:= fun e => n0 e.symm
    have n1' : g1 ≠ gb:= fun e => n1 e.symm
    have hb0 : W.cell? ⟨gb,0,none⟩ = some (.slice (some ⟨g0,0,none⟩) V.length c0):= (blk_cell h.blk 0).trans rfl
    have hb1 : W.cell? ⟨gb,1,none⟩ = some (.slice (some ⟨g1,0,none⟩) R.length c1):= (blk_cell h.blk 1).trans rfl
    obtain ⟨ct0,ft0⟩:= Kd.R_celln 0 h.r0 a1 t0 t1
    obtain ⟨cf0,ff0⟩:= Kd.R_celln 0 h.r0 a2 f0 f1
    obtain ⟨ct1,ft1⟩:= Kd.R_celln 0 h.r1 a1 t0 t2
    obtain ⟨cf1,ff1⟩:= Kd.R_celln 0 h.r1 a2 f0 f2
    replace cf0 : W.cell? ⟨g0,a2.toNat,none⟩ = some (.int .i64 (rd V a2)):= cf0
    replace cf1 : W.cell? ⟨g1,a2.toNat,none⟩ = some (.int .i64 (rd R a2)):= cf1
    have HS:= mk ((h.drew.setV (by decide) (by decide) a1 (rd V a2)).setR (by decide) (by decide) a1 (rd R a2))
    have HB:= mk (below_set (j:= a1.toNat) (v:= .int .i64 (rd R a2)) (below_set (j:= a1.toNat) (v:= .int .i64 (rd V a2)) (below_drew1 hB) b0) b1)
    have HF:= mk (show Cs.Far W ((W.drew.setCell ⟨g0,a1.toNat,none⟩ (.int .i64 (rd V a2))).setCell ⟨g1,a1.toNat,none⟩ (.int .i64 (rd R a2))) from
      ⟨by simp,fun g cs T hT hh => Cs.far3 (Kd.R_mono (h.drew.setV (by decide) (by decide) a1 (rd V a2)).r1 (fun _ hk => hk)) (Cs.far3 h.drew.r0 hh hT _ _) hT _ _⟩)
    have hv : (a1 == a2) = false:= by simpa using he
    have he2 : ¬ a2 = a1:= fun e => he e.symm
    have hv2 : (a2 == a1) = false:= by simpa using he2
    clear h hB q0 q1 b0 l0 b1 l1 ff0 ff1
    go_enter Try.func29,Try.ntmps29
    go_wp2
    go_region
    go_wp2
    go_region
    go_wp2
    go_ret
    exact ⟨rfl,HS.out.drew,below_drew1 HB.out,HF.out⟩


/-! ### spec_RippleDelete: function 7 -/
mutual
def spec_RippleDelete.j0 : Nat → Int → Bool → List Int → List Int → List (S50) → Option (List Int × List Int × (List (S50)) × Int × Bool)
 | 0, _, _, _, _, _ => none
 | k + 1, x7, x22, q5, b7, a7 => if x22 = true then ((spec_l4Copy.f q5 b7 a7).bind fun g6 => (some (g6.1, g6.2.1, g6.2.2, 0, false))) else ((spec_l4Copy.f q5 b7 a7).bind fun d6 => (if 0 ≤ x7 then (if x7 < (q5.length : Int) then (spec_RippleDelete.l0 k x7 (rd q5 x7) 0 0 d6.1 d6.2.1 d6.2.2) else (none)) else (none)))
def spec_RippleDelete.l0 : Nat → Int → Int → Int → Int → List Int → List Int → List (S50) → Option (List Int × List Int × (List (S50)) × Int × Bool)
 | 0, _, _, _, _, _, _, _ => none
 | k + 1, x7, x9, x10, x11, d2, z2, m2 => if x11 < (m2.length : Int) then (if 0 ≤ x11 then (if ((rd_T50 m2 x11).f0) ≤ x9 then (spec_RippleDelete.l0 k x7 x9 x10 (wrap64 (x11 + 1)) d2 z2 m2) else (if 0 ≤ (wrap64 (((rd_T50 m2 x11).f1) - 1)) then (if (wrap64 (((rd_T50 m2 x11).f1) - 1)) < (d2.length : Int) then (if 0 ≤ x7 then (if x7 < (d2.length : Int) then (if (wrap64 (((rd_T50 m2 x11).f1) - 1)) < (z2.length : Int) then (if x7 < (z2.length : Int) then ((spec_l10Move.f (wrap64 (((rd_T50 m2 x11).f1) - 1)) x7).bind fun v6 => (spec_RippleDelete.l0 k (wrap64 (((rd_T50 m2 x11).f1) - 1)) x9 (wrap64 (x10 + v6)) (wrap64 (x11 + 1)) (d2.set (x7 : Int).toNat (rd d2 (wrap64 (((rd_T50 m2 x11).f1) - 1)))) (z2.set (x7 : Int).toNat (rd z2 (wrap64 (((rd_T50 m2 x11).f1) - 1)))) (m2.set (x11 : Int).toNat (⟨(rd_T50 m2 x11).f0, wrap64 (((rd_T50 m2 x11).f1) - 1)⟩ : S50)))) else (none)) else (none)) else (none)) else (none)) else (none)) else (none))) else (none)) else (if 0 ≤ (wrap64 ((d2.length : Int) - 1)) then (if (wrap64 ((d2.length : Int) - 1)) < (d2.length : Int) then (if 0 ≤ x7 then (if x7 < (d2.length : Int) then (if (wrap64 ((d2.length : Int) - 1)) < (z2.length : Int) then (if x7 < (z2.length : Int) then ((spec_l10Move.f (wrap64 ((d2.length : Int) - 1)) x7).bind fun m6 => (if (wrap64 ((d2.length : Int) - 1)) ≤ (d2.length : Int) then (if 0 ≤ (wrap64 ((z2.length : Int) - 1)) then (if (wrap64 ((z2.length : Int) - 1)) ≤ (z2.length : Int) then (some (((d2.set (x7 : Int).toNat (rd d2 (wrap64 ((d2.length : Int) - 1)))).take ((wrap64 ((d2.length : Int) - 1)) : Int).toNat), ((z2.set (x7 : Int).toNat (rd z2 (wrap64 ((d2.length : Int) - 1)))).take ((wrap64 ((z2.length : Int) - 1)) : Int).toNat), m2, wrap64 (x10 + m6), true)) else (none)) else (none)) else (none))) else (none)) else (none)) else (none)) else (none)) else (none)) else (none))
end
def spec_RippleDelete.f (k : Nat) (g2 : List Int) (s2 : List Int) (q2 : List (S50)) (a1 : Int) : Option (List Int × List Int × (List (S50)) × Int × Bool) := (spec_FindRow.f k g2 s2 q2 a1).bind fun o3 => ((spec_IsCracker.f k g2 s2 q2).bind fun oa1 => (if oa1 = true then (spec_RippleDelete.j0 k o3 (decide (o3 < 0)) g2 s2 q2) else (spec_RippleDelete.j0 k o3 true g2 s2 q2)))
theorem spec_RippleDelete.mono_l : ∀ k, (∀ y0 y1 y2 y3 y4, LeO (spec_RippleDelete.j0 k y0 y1 y2 y3 y4) (spec_RippleDelete.j0 (k + 1) y0 y1 y2 y3 y4)) ∧ (∀ y0 y1 y2 y3 y4 y5 y6, LeO (spec_RippleDelete.l0 k y0 y1 y2 y3 y4 y5 y6) (spec_RippleDelete.l0 (k + 1) y0 y1 y2 y3 y4 y5 y6))
 | 0 => ⟨fun _ _ _ _ _ r h => by simp [spec_RippleDelete.j0] at h, fun _ _ _ _ _ _ _ r h => by simp [spec_RippleDelete.l0] at h⟩
 | k + 1 => by
  obtain ⟨ih0, ih1⟩ := spec_RippleDelete.mono_l k
  refine ⟨?_, ?_⟩
  ·intro y0 y1 y2 y3 y4
   unfold spec_RippleDelete.j0
   repeat' first
   | (with_reducible exact ih0 _ _ _ _ _)
   | (with_reducible exact ih1 _ _ _ _ _ _ _)
   | (with_reducible exact spec_FindRow.mono _ _ _ _ _)
   | (with_reducible exact spec_IsCracker.mono _ _ _ _)
   | (with_reducible exact LeO.refl _)
   | (with_reducible exact LeO.none _)
   | (with_reducible refine LeO.ite ?_ ?_)
   | (with_reducible refine LeO.bind ?_ (fun _ => ?_))
   | exact ih0 _ _ _ _ _
   | exact ih1 _ _ _ _ _ _ _
   | exact spec_FindRow.mono _ _ _ _ _
   | exact spec_IsCracker.mono _ _ _ _
   | exact LeO.none _
   | refine LeO.ite ?_ ?_
   | refine LeO.bind ?_ (fun _ => ?_)
  ·intro y0 y1 y2 y3 y4 y5 y6
   unfold spec_RippleDelete.l0
   repeat' first
   | (with_reducible exact ih0 _ _ _ _ _)
   | (with_reducible exact ih1 _ _ _ _ _ _ _)
   | (with_reducible exact spec_FindRow.mono _ _ _ _ _)
   | (with_reducible exact spec_IsCracker.mono _ _ _ _)
   | (with_reducible exact LeO.refl _)
   | (with_reducible exact LeO.none _)
   | (with_reducible refine LeO.ite ?_ ?_)
   | (with_reducible refine LeO.bind ?_ (fun _ => ?_))
   | exact ih0 _ _ _ _ _
   | exact ih1 _ _ _ _ _ _ _
   | exact spec_FindRow.mono _ _ _ _ _
   | exact spec_IsCracker.mono _ _ _ _
   | exact LeO.none _
   | refine LeO.ite ?_ ?_
   | refine LeO.bind ?_ (fun _ => ?_)
theorem spec_RippleDelete.mono : ∀ a0 a1 a2 a3 k, LeO (spec_RippleDelete.f k a0 a1 a2 a3) (spec_RippleDelete.f (k + 1) a0 a1 a2 a3) := by
 intro a0 a1 a2 a3 k
 obtain ⟨ih0,ih1⟩:= spec_RippleDelete.mono_l k
 unfold spec_RippleDelete.f
 repeat' first
  |(with_reducible exact ih0 _ _ _ _ _)
  |(with_reducible exact ih1 _ _ _ _ _ _ _)
  |(with_reducible exact spec_FindRow.mono _ _ _ _ _)
  |(with_reducible exact spec_IsCracker.mono _ _ _ _)
  |(with_reducible exact LeO.refl _)
  |(with_reducible exact LeO.none _)
  |(with_reducible refine LeO.ite ?_ ?_)
  |(with_reducible refine LeO.bind ?_ (fun _ => ?_))
  |exact ih0 _ _ _ _ _
  |exact ih1 _ _ _ _ _ _ _
  |exact spec_FindRow.mono _ _ _ _ _
  |exact spec_IsCracker.mono _ _ _ _
  |exact LeO.none _
  |refine LeO.ite ?_ ?_
  |refine LeO.bind ?_ (fun _ => ?_)
set_option maxHeartbeats 8000000 in
set_option maxRecDepth 100000 in
theorem spec_RippleDelete.calls (k : Nat) (a5 : Option Addr) (j4 : Nat) (g2 : List Int) (s4 : Option Addr) (g4 : Nat) (s2 : List Int) (q4 : Option Addr) (d4 : Nat) (q2 : List (S50)) (a1 : Int) (r1 : List Int) (r2 : List Int) (r3 : List (S50)) (r4 : Int) (r5 : Bool) (w : World) (ma7 : Kd.C (Kd.int .i64) w a5 g2.length g2) (hc0_0 : g2.length ≤ j4) (ka7 : Kd.C (Kd.int .i64) w s4 s2.length s2) (hc0_1 : s2.length ≤ g4) (ja7 : Kd.C k50 w q4 q2.length q2) (hc0_2 : q2.length ≤ d4) (h : spec_RippleDelete.f k g2 s2 q2 a1 = some (r1, r2, r3, r4, r5)) :
  Calls Try.prog 7 #[.agg #[.slice a5 g2.length j4, .slice s4 s2.length g4, .slice q4 q2.length d4], .int .i64 a1] w fun e w' => ∃ v0_ v1_ v2_ : Value, e = .returned (.tuple #[.agg #[v0_, v1_, v2_], .int .i64 r4, .bool r5]) ∧ Kd.R (Kd.int .i64) 3 w' w.heap.size (fun k_ => some k_ ≠ (v1_ : Value).ownBlock) v0_ r1 ∧ Kd.R (Kd.int .i64) 3 w' w.heap.size (fun k_ => some k_ ≠ (v0_ : Value).ownBlock) v1_ r2 ∧ Kd.R k50 50 w' w.heap.size (fun _ => True) v2_ r3 ∧ Below w.heap.size w w' := by
 have hu29:= Try.underlying29
 have s6:= mk ma7
 have ja0:= mk hc0_0
 clear ma7 hc0_0
 have y9:= mk ka7
 have ga0:= mk hc0_1
 clear ka7 hc0_1
 have v9:= mk ja7
 have da0:= mk hc0_2
 clear ja7 hc0_2
 have HB:= mk (Below.refl w.heap.size w)
 have H : ((spec_FindRow.f k g2 s2 q2 a1).bind fun o3 => ((spec_IsCracker.f k g2 s2 q2).bind fun oa1 => (if oa1 = true then (spec_RippleDelete.j0 k o3 (decide (o3 < 0)) g2 s2 q2) else (spec_RippleDelete.j0 k o3 true g2 s2 q2)))) = some (r1,r2,r3,r4,r5):= h
 clear h
 replace H:= Option.bind_eq_some_iff.mp H
 obtain ⟨o3,A30,H⟩:= H
 replace H : ((spec_IsCracker.f k g2 s2 q2).bind fun oa1 => (if oa1 = true then (spec_RippleDelete.j0 k o3 (decide (o3 < 0)) g2 s2 q2) else (spec_RippleDelete.j0 k o3 true g2 s2 q2))) = some (r1,r2,r3,r4,r5):= H
 have A3:= mk A30
 clear A30
 have HC4:= mk H
 clear H
 go_enter Try.func7,Try.ntmps7
 go_upto_region 2 with (first|((with_reducible refine gate_dst (N:= 2) rfl ?_);refine box_event ?hg (N:= 2) ?hd (cs:= #[.slice a5 g2.length j4,.slice s4 s2.length g4,.slice q4 q2.length d4]) (t:= 29) ?hr ?_;(case hd => rfl);(case hg => rfl);(case hr => first|(go_simp;done)|(go_simp;rfl));intro b2 hg w5 hbox hb;have n0_:= mk (below_step (by repeat (first|(with_reducible first|exact HB.out|apply below_alloc|apply pw_below_drewN|apply below_drew1)|exact HB.out)) hb);have n1_:= mk (hbox);have n2_:= mk ((by rw [hg];exact (below_size (by repeat (first|(with_reducible first|exact HB.out|apply below_alloc|apply pw_below_drewN|apply below_drew1)|exact HB.out))) : w.heap.size ≤ b2));have n3_:= mk ((by rw [hg];exact (below_size (by repeat (first|(with_reducible first|exact HB.out|apply below_alloc|apply pw_below_drewN|apply below_drew1)|exact HB.out))) : w.heap.size ≤ b2));clear HB;have HB:= n0_;have s0:= n1_;have qc5:= n2_;have d3:= n3_;clear n0_ n1_ n2_ n3_;clear hb hbox hg)|((with_reducible refine gate_dst (N:= 4) rfl ?_);refine box_event ?hg (N:= 4) ?hd (cs:= #[.slice none 0 0,.slice none 0 0,.slice none 0 0]) (t:= 29) ?hr ?_;(case hd => rfl);(case hg => rfl);(case hr => first|(go_simp;done)|(go_simp;rfl));intro z1 hg w6 hbox hb;have n0_:= mk (blk_below (g:= b2) (o:= .cells #[.slice a5 g2.length j4,.slice s4 s2.length g4,.slice q4 q2.length d4] 29 (0,0)) (ub s0.out) hb);have n1_:= mk (below_step (by repeat (first|(with_reducible first|exact HB.out|apply below_alloc|apply pw_below_drewN|apply below_drew1|refine below_set ?_ d3.out)|exact HB.out)) hb);have n2_:= mk (hbox);have n3_:= mk ((by rw [hg];exact (below_size (by repeat (first|(with_reducible first|exact HB.out|apply below_alloc|apply pw_below_drewN|apply below_drew1|refine below_set ?_ d3.out)|exact HB.out))) : w.heap.size ≤ z1));have n4_:= mk ((by rw [hg];exact (below_size (by repeat (first|(with_reducible first|exact HB.out|apply below_alloc|apply pw_below_drewN|apply below_drew1|refine below_set ?_ d3.out)|exact HB.out))) : w.heap.size ≤ z1));have n5_:= mk ((by rw [hg];exact Nat.ne_of_lt (blk_lt (g:= b2) (o:= .cells #[.slice a5 g2.length j4,.slice s4 s2.length g4,.slice q4 q2.length d4] 29 (0,0)) (ub s0.out)) : b2 ≠ z1));have n6_:= mk ((by rw [hg];exact Nat.ne_of_gt (blk_lt (g:= b2) (o:= .cells #[.slice a5 g2.length j4,.slice s4 s2.length g4,.slice q4 q2.length d4] 29 (0,0)) (ub s0.out)) : z1 ≠ b2));clear s0;clear HB;have s0:= n0_;have HB:= n1_;have m1:= n2_;have oc5:= n3_;have j3:= n4_;have s3:= n5_;have q3:= n6_;clear n0_ n1_ n2_ n3_ n4_ n5_ n6_;clear hb hbox hg;have sc6:= s3.out;have kc6:= q3.out;have da2 : w6.cell? ⟨b2,0,none⟩ = some (.slice a5 g2.length j4):= (blk_cell s0.out 0).trans rfl;have ba2 : w6.cell? ⟨b2,1,none⟩ = some (.slice s4 s2.length g4):= (blk_cell s0.out 1).trans rfl;have aa2 : w6.cell? ⟨b2,2,none⟩ = some (.slice q4 q2.length d4):= (blk_cell s0.out 2).trans rfl;have za1:= blk_frozen s0.out 0;have ya1:= blk_frozen s0.out 1;have va1:= blk_frozen s0.out 2)|((with_reducible refine gate_callee (f:= 27) rfl ?_);refine goesL_ (some 15) rfl rfl Try.func27 (by kernel_rfl) rfl #[.agg #[.slice a5 g2.length j4,.slice s4 s2.length g4,.slice q4 q2.length d4],.int .i64 a1] rfl (by (try simp only [List.map_toArray,List.map_cons,List.map_nil]);first|done|rfl|(simp only [List.length_drop,List.length_take];rfl)) ?_;(with_reducible refine (spec_FindRow.calls k _ _ g2 _ _ s2 _ _ q2 a1 o3 _ ?side1 ?side2 ?side3 ?side4 ?side5 ?side6 A3.out).mono ?_);(case side1 => exact uc (Kd.C_below s6.out HB.out));(case side2 => exact ja0.out);(case side3 => exact uc (Kd.C_below y9.out HB.out));(case side4 => exact ga0.out);(case side5 => exact uc (Kd.C_below v9.out HB.out));(case side6 => exact da0.out);rintro e w9 ⟨rfl,hb⟩;refine ⟨_,rfl,?_⟩;have n0_:= mk (blk_below (g:= b2) (o:= .cells #[.slice a5 g2.length j4,.slice s4 s2.length g4,.slice q4 q2.length d4] 29 (0,0)) (ub s0.out) hb);have n1_:= mk (blk_below (g:= z1) (o:= .cells #[.slice none 0 0,.slice none 0 0,.slice none 0 0] 29 (0,0)) (ub m1.out) hb);have n2_:= mk (below_step (by repeat (first|(with_reducible first|exact HB.out|apply below_alloc|apply pw_below_drewN|apply below_drew1|refine below_set ?_ d3.out|refine below_set ?_ j3.out)|exact HB.out)) hb);clear s0;clear m1;clear HB;have s0:= n0_;have m1:= n1_;have HB:= n2_;clear n0_ n1_ n2_;(try clear hb);(try clear hb2);(try clear hk);(try clear hi)))
 (try simp only [Act.put,List.setIfInBounds_toArray,List.set_cons_zero,List.set_cons_succ])
 go_cut [22] (fun v22 wc => ∃ (kq : Nat) (sa0 : Bool),v22 = .bool sa0 ∧ Aside0 (spec_RippleDelete.j0 kq o3 sa0 g2 s2 q2 = some (r1,r2,r3,r4,r5)) ∧ Aside0 (kq ≤ k) ∧ Aside0 (wc.heap[b2]? = some (.cells #[(.slice a5 g2.length j4),(.slice s4 s2.length g4),(.slice q4 q2.length d4)] 29 (0,0))) ∧ Aside0 (wc.heap[z1]? = some (.cells #[(.slice none 0 0),(.slice none 0 0),(.slice none 0 0)] 29 (0,0))) ∧ Aside0 (Below w.heap.size w wc))
 case first =>
  have H:= HC4.out
  clear HC4
  replace H:= Option.bind_eq_some_iff.mp H
  obtain ⟨oa1,sb8,H⟩:= H
  replace H : (if oa1 = true then (spec_RippleDelete.j0 k o3 (decide (o3 < 0)) g2 s2 q2) else (spec_RippleDelete.j0 k o3 true g2 s2 q2)) = some (r1,r2,r3,r4,r5):= H
  have A10:= mk sb8
  clear sb8
  by_cases c11 : oa1 = true
  ·subst c11
   have H1 : (spec_RippleDelete.j0 k o3 (decide (o3 < 0)) g2 s2 q2) = some (r1,r2,r3,r4,r5):= by rw [if_pos rfl] at H;exact H
   clear H
   have H:= H1
   clear H1
   have H':= mk H
   clear H
   have zc0:= s3.out
   have ac0:= q3.out
   have d9 : w9.cell? ⟨b2,0,none⟩ = some (.slice a5 g2.length j4):= (blk_cell s0.out 0).trans rfl
   have b9 : w9.cell? ⟨b2,1,none⟩ = some (.slice s4 s2.length g4):= (blk_cell s0.out 1).trans rfl
   have a9 : w9.cell? ⟨b2,2,none⟩ = some (.slice q4 q2.length d4):= (blk_cell s0.out 2).trans rfl
   have s8:= blk_frozen s0.out 0
   have q8:= blk_frozen s0.out 1
   have o8:= blk_frozen s0.out 2
   go_wp2_with (first|((with_reducible refine gate_callee (f:= 23) rfl ?_);refine goesL_ (some 17) rfl rfl Try.func23 (by kernel_rfl) rfl #[.agg #[.slice a5 g2.length j4,.slice s4 s2.length g4,.slice q4 q2.length d4]] rfl (by (try simp only [List.map_toArray,List.map_cons,List.map_nil]);first|done|rfl|(simp only [List.length_drop,List.length_take];rfl)) ?_;(with_reducible refine (spec_IsCracker.calls k _ _ g2 _ _ s2 _ _ q2 true _ ?side1 ?side2 ?side3 ?side4 ?side5 ?side6 A10.out).mono ?_);(case side1 => exact uc (Kd.C_below s6.out HB.out));(case side2 => exact ja0.out);(case side3 => exact uc (Kd.C_below y9.out HB.out));(case side4 => exact ga0.out);(case side5 => exact uc (Kd.C_below v9.out HB.out));(case side6 => exact da0.out);rintro e w14 ⟨rfl,hb⟩;refine ⟨_,rfl,?_⟩;have n0_:= mk (blk_below (g:= b2) (o:= .cells #[.slice a5 g2.length j4,.slice s4 s2.length g4,.slice q4 q2.length d4] 29 (0,0)) (ub s0.out) hb);have n1_:= mk (blk_below (g:= z1) (o:= .cells #[.slice none 0 0,.slice none 0 0,.slice none 0 0] 29 (0,0)) (ub m1.out) hb);have n2_:= mk (below_step (by repeat (first|(with_reducible first|exact HB.out|apply below_alloc|apply pw_below_drewN|apply below_drew1|refine below_set ?_ d3.out|refine below_set ?_ j3.out)|exact HB.out)) hb);clear s0;clear m1;clear HB;have s0:= n0_;have m1:= n1_;have HB:= n2_;clear n0_ n1_ n2_;(try clear hb);(try clear hb2);(try clear hk);(try clear hi)))
   go_meet
   case rel => exact ⟨_,(decide (o3 < 0)),(by first|rfl|(simp;done)|(simp [*];done)),H',⟨by first|omega|exact Nat.le_refl _⟩,⟨ub s0.out⟩,⟨ub m1.out⟩,⟨by repeat (first|(with_reducible first|exact HB.out|apply below_alloc|apply pw_below_drewN|apply below_drew1|refine below_set ?_ d3.out|refine below_set ?_ j3.out)|exact HB.out)⟩⟩
  ·replace c11:= Bool.eq_false_iff.mpr c11
   subst c11
   have H1 : (spec_RippleDelete.j0 k o3 true g2 s2 q2) = some (r1,r2,r3,r4,r5):= by rw [if_neg (show ¬ (false = true) by decide)] at H;exact H
   clear H
   have H:= H1
   clear H1
   have H':= mk H
   clear H
   have yc0:= s3.out
   have zb9:= q3.out
   have z8 : w9.cell? ⟨b2,0,none⟩ = some (.slice a5 g2.length j4):= (blk_cell s0.out 0).trans rfl
   have y8 : w9.cell? ⟨b2,1,none⟩ = some (.slice s4 s2.length g4):= (blk_cell s0.out 1).trans rfl
   have v8 : w9.cell? ⟨b2,2,none⟩ = some (.slice q4 q2.length d4):= (blk_cell s0.out 2).trans rfl
   have m8:= blk_frozen s0.out 0
   have k8:= blk_frozen s0.out 1
   have j8:= blk_frozen s0.out 2
   go_wp2_with (first|((with_reducible refine gate_callee (f:= 23) rfl ?_);refine goesL_ (some 17) rfl rfl Try.func23 (by kernel_rfl) rfl #[.agg #[.slice a5 g2.length j4,.slice s4 s2.length g4,.slice q4 q2.length d4]] rfl (by (try simp only [List.map_toArray,List.map_cons,List.map_nil]);first|done|rfl|(simp only [List.length_drop,List.length_take];rfl)) ?_;(with_reducible refine (spec_IsCracker.calls k _ _ g2 _ _ s2 _ _ q2 false _ ?side1 ?side2 ?side3 ?side4 ?side5 ?side6 A10.out).mono ?_);(case side1 => exact uc (Kd.C_below s6.out HB.out));(case side2 => exact ja0.out);(case side3 => exact uc (Kd.C_below y9.out HB.out));(case side4 => exact ga0.out);(case side5 => exact uc (Kd.C_below v9.out HB.out));(case side6 => exact da0.out);rintro e w17 ⟨rfl,hb⟩;refine ⟨_,rfl,?_⟩;have n0_:= mk (blk_below (g:= b2) (o:= .cells #[.slice a5 g2.length j4,.slice s4 s2.length g4,.slice q4 q2.length d4] 29 (0,0)) (ub s0.out) hb);have n1_:= mk (blk_below (g:= z1) (o:= .cells #[.slice none 0 0,.slice none 0 0,.slice none 0 0] 29 (0,0)) (ub m1.out) hb);have n2_:= mk (below_step (by repeat (first|(with_reducible first|exact HB.out|apply below_alloc|apply pw_below_drewN|apply below_drew1|refine below_set ?_ d3.out|refine below_set ?_ j3.out)|exact HB.out)) hb);clear s0;clear m1;clear HB;have s0:= n0_;have m1:= n1_;have HB:= n2_;clear n0_ n1_ n2_;(try clear hb);(try clear hb2);(try clear hk);(try clear hi)))
   go_meet
   case rel => exact ⟨_,(true),(by first|rfl|(simp;done)|(simp [*];done)),H',⟨by first|omega|exact Nat.le_refl _⟩,⟨ub s0.out⟩,⟨ub m1.out⟩,⟨by repeat (first|(with_reducible first|exact HB.out|apply below_alloc|apply pw_below_drewN|apply below_drew1|refine below_set ?_ d3.out|refine below_set ?_ j3.out)|exact HB.out)⟩⟩
 case rest =>
  clear HC4
  try clear c1
  try clear c2
  try clear p2
  try clear c7
  try clear c11
  try clear c12
  try clear c15
  try clear d9
  try clear b9
  try clear a9
  try clear z8
  try clear y8
  try clear v8
  try clear da2
  try clear ba2
  try clear aa2
  try clear s8
  try clear q8
  try clear o8
  try clear m8
  try clear k8
  try clear j8
  try clear za1
  try clear ya1
  try clear va1
  obtain ⟨kq,sa0,rfl,HA,HJ3,s0,m1,HB⟩:= hcut
  cases kq with
 |zero => exact absurd HA.out (by simp [spec_RippleDelete.j0])
 |succ kj3 =>
   have H:= HA.out
   clear HA
   simp only [spec_RippleDelete.j0] at H
   by_cases c18 : sa0 = true
   ·subst c18
    have H1 : ((spec_l4Copy.f g2 s2 q2).bind fun g6 => (some (g6.1,g6.2.1,g6.2.2,0,false))) = some (r1,r2,r3,r4,r5):= by rw [if_pos rfl] at H;exact H
    clear H
    have H:= H1
    clear H1
    replace H:= Option.bind_eq_some_iff.mp H
    obtain ⟨⟨ma1,ka2,ga6⟩,qb8,H⟩:= H
    replace H : (some (ma1,ka2,ga6,0,false)) = some (r1,r2,r3,r4,r5):= H
    have A19:= mk qb8
    clear qb8
    simp only [Option.some.injEq,Prod.mk.injEq] at H
    obtain ⟨rfl,rfl,rfl,rfl,rfl⟩:= H
    have vc0:= s3.out
    have yb9:= q3.out
    have ka5 : wc.cell? ⟨b2,0,none⟩ = some (.slice a5 g2.length j4):= (blk_cell s0.out 0).trans rfl
    have ja5 : wc.cell? ⟨b2,1,none⟩ = some (.slice s4 s2.length g4):= (blk_cell s0.out 1).trans rfl
    have ga5 : wc.cell? ⟨b2,2,none⟩ = some (.slice q4 q2.length d4):= (blk_cell s0.out 2).trans rfl
    have da4:= blk_frozen s0.out 0
    have ba4:= blk_frozen s0.out 1
    have aa4:= blk_frozen s0.out 2
    go_wp2_with (first|((with_reducible refine gate_callee (f:= 28) rfl ?_);refine goesL_ (some 24) rfl rfl Try.func28 (by kernel_rfl) rfl #[.agg #[.slice a5 g2.length j4,.slice s4 s2.length g4,.slice q4 q2.length d4]] rfl (by (try simp only [List.map_toArray,List.map_cons,List.map_nil]);first|done|rfl|(simp only [List.length_drop,List.length_take];rfl)) ?_;(with_reducible refine (spec_l4Copy.calls _ _ g2 _ _ s2 _ _ q2 ma1 ka2 ga6 _ ?side1 ?side2 ?side3 ?side4 ?side5 ?side6 A19.out).mono ?_);(case side1 => exact uc (Kd.C_below s6.out HB.out));(case side2 => exact ja0.out);(case side3 => exact uc (Kd.C_below y9.out HB.out));(case side4 => exact ga0.out);(case side5 => exact uc (Kd.C_below v9.out HB.out));(case side6 => exact da0.out);rintro e w22 ⟨dc6,bc6,ac6,rfl,ho0,ho1,ho2,hb⟩;refine ⟨_,rfl,?_⟩;have n0_:= mk (Kd.R_lower ho0 (below_size (by repeat (first|(with_reducible first|exact HB.out|apply below_alloc|apply pw_below_drewN|apply below_drew1|refine below_set ?_ d3.out|refine below_set ?_ j3.out)|exact HB.out))));have n1_:= mk (Kd.R_lower ho1 (below_size (by repeat (first|(with_reducible first|exact HB.out|apply below_alloc|apply pw_below_drewN|apply below_drew1|refine below_set ?_ d3.out|refine below_set ?_ j3.out)|exact HB.out))));have n2_:= mk (Kd.R_lower ho2 (below_size (by repeat (first|(with_reducible first|exact HB.out|apply below_alloc|apply pw_below_drewN|apply below_drew1|refine below_set ?_ d3.out|refine below_set ?_ j3.out)|exact HB.out))));have n3_:= mk (blk_below (g:= b2) (o:= .cells #[.slice a5 g2.length j4,.slice s4 s2.length g4,.slice q4 q2.length d4] 29 (0,0)) (ub s0.out) hb);have n4_:= mk (blk_below (g:= z1) (o:= .cells #[.slice none 0 0,.slice none 0 0,.slice none 0 0] 29 (0,0)) (ub m1.out) hb);have n5_:= mk (below_step (by repeat (first|(with_reducible first|exact HB.out|apply below_alloc|apply pw_below_drewN|apply below_drew1|refine below_set ?_ d3.out|refine below_set ?_ j3.out)|exact HB.out)) hb);clear s0;clear m1;clear HB;have qa8:= n0_;have oa8:= n1_;have ma8:= n2_;have s0:= n3_;have m1:= n4_;have HB:= n5_;clear n0_ n1_ n2_ n3_ n4_ n5_;(try clear hb);(try clear hb2);(try clear hk);(try clear hi);(try clear ho0);(try clear ho1);(try clear ho2);obtain ⟨ya6,sa6,kc2⟩:= Kd.R_slice qa8.out;subst kc2;have da5 : w22.cell? ⟨z1,0,none⟩ = some (.slice none 0 0):= (blk_cell m1.out 0).trans rfl;have ba5 : w22.cell? ⟨z1,1,none⟩ = some (.slice none 0 0):= (blk_cell m1.out 1).trans rfl;have aa5 : w22.cell? ⟨z1,2,none⟩ = some (.slice none 0 0):= (blk_cell m1.out 2).trans rfl;have za3:= blk_frozen m1.out 0;have ya3:= blk_frozen m1.out 1;have va3:= blk_frozen m1.out 2;obtain ⟨va8,ya7,jc2⟩:= Kd.R_slice oa8.out;subst jc2;obtain ⟨mb0,kb0,gc2⟩:= Kd.R_slice ma8.out;subst gc2))
    refine bodyPost_ret (results_ctt rfl _ _ z1 29 #[.slice ya6 ma1.length sa6,.slice va8 ka2.length ya7,.slice mb0 ga6.length kb0] (0,0) _ rfl (by (with_reducible repeat (first|refine blk_drewN ?_ _|refine blk_drew ?_|refine blk_alloc ?_ _));refine blk_put (cs:= #[.slice ya6 ma1.length sa6,.slice va8 ka2.length ya7,.slice none 0 0]) ?_ 2 _ rfl;(with_reducible repeat (first|refine blk_drewN ?_ _|refine blk_drew ?_|refine blk_alloc ?_ _));refine blk_put (cs:= #[.slice ya6 ma1.length sa6,.slice none 0 0,.slice none 0 0]) ?_ 1 _ rfl;(with_reducible repeat (first|refine blk_drewN ?_ _|refine blk_drew ?_|refine blk_alloc ?_ _));refine blk_put (cs:= #[.slice none 0 0,.slice none 0 0,.slice none 0 0]) ?_ 0 _ rfl;(with_reducible repeat (first|refine blk_drewN ?_ _|refine blk_drew ?_|refine blk_alloc ?_ _));exact m1.out) Try.underlying29 rfl (by kernel_rfl)) rfl ?_
    exact ⟨_,_,_,by first|rfl|(simp [errW_none,errW_some] <;> rfl)|(simp [*,errW_none,errW_some] <;> rfl),by exact up (Kd.R_mono (Kd.R_far (p:= ⟨z1,2,none⟩) (Kd.R_far (p:= ⟨z1,1,none⟩) (Kd.R_far (p:= ⟨z1,0,none⟩) (Kd.R_types qa8.out m1.out (by decide)) (fun _ hk => hk.2) (.slice ya6 ma1.length sa6)) (fun _ hk => hk.2) (.slice va8 ka2.length ya7)) (fun _ hk => hk.2) (.slice mb0 ga6.length kb0)) (fun _ hk => hk.1)),by exact up (Kd.R_mono (Kd.R_far (p:= ⟨z1,2,none⟩) (Kd.R_far (p:= ⟨z1,1,none⟩) (Kd.R_far (p:= ⟨z1,0,none⟩) (Kd.R_types oa8.out m1.out (by decide)) (fun _ hk => hk.2) (.slice ya6 ma1.length sa6)) (fun _ hk => hk.2) (.slice va8 ka2.length ya7)) (fun _ hk => hk.2) (.slice mb0 ga6.length kb0)) (fun _ hk => hk.1)),by exact up (Kd.R_mono (Kd.R_far (p:= ⟨z1,2,none⟩) (Kd.R_far (p:= ⟨z1,1,none⟩) (Kd.R_far (p:= ⟨z1,0,none⟩) (Kd.R_types ma8.out m1.out (by decide)) (fun _ hk => hk.2) (.slice ya6 ma1.length sa6)) (fun _ hk => hk.2) (.slice va8 ka2.length ya7)) (fun _ hk => hk.2) (.slice mb0 ga6.length kb0)) (fun _ hk => trivial)),by repeat (first|(with_reducible first|exact HB.out|apply below_alloc|apply pw_below_drewN|apply below_drew1|refine below_set ?_ d3.out|refine below_set ?_ j3.out)|exact HB.out)⟩
   ·replace c18:= Bool.eq_false_iff.mpr c18
    subst c18
    have H1 : ((spec_l4Copy.f g2 s2 q2).bind fun d6 => (if 0 ≤ o3 then (if o3 < (g2.length : Int) then (spec_RippleDelete.l0 kj3 o3 (rd g2 o3) 0 0 d6.1 d6.2.1 d6.2.2) else (none)) else (none))) = some (r1,r2,r3,r4,r5):= by rw [if_neg (show ¬ (false = true) by decide)] at H;exact H
    clear H
    have H:= H1
    clear H1
    replace H:= Option.bind_eq_some_iff.mp H
    obtain ⟨⟨ma0,va0,ka1⟩,ob8,H⟩:= H
    replace H : (if 0 ≤ o3 then (if o3 < (g2.length : Int) then (spec_RippleDelete.l0 kj3 o3 (rd g2 o3) 0 0 ma0 va0 ka1) else (none)) else (none)) = some (r1,r2,r3,r4,r5):= H
    have A27:= mk ob8
    clear ob8
    by_cases c28 : 0 ≤ o3
    ·rw [if_pos c28] at H
     have jb4 : decide (0 ≤ o3) = true:= decide_eq_true c28
     clear c28
     by_cases c29 : o3 < (g2.length : Int)
     ·rw [if_pos c29] at H
      have gb4 : decide (o3 < (g2.length : Int)) = true:= decide_eq_true c29
      clear c29
      have H':= mk H
      clear H
      have sc0:= s3.out
      have vb9:= q3.out
      have za4 : wc.cell? ⟨b2,0,none⟩ = some (.slice a5 g2.length j4):= (blk_cell s0.out 0).trans rfl
      have ya4 : wc.cell? ⟨b2,1,none⟩ = some (.slice s4 s2.length g4):= (blk_cell s0.out 1).trans rfl
      have va4 : wc.cell? ⟨b2,2,none⟩ = some (.slice q4 q2.length d4):= (blk_cell s0.out 2).trans rfl
      have sa3:= blk_frozen s0.out 0
      have qa3:= blk_frozen s0.out 1
      have oa3:= blk_frozen s0.out 2
      go_wp2_with (first|((with_reducible refine gate_callee (f:= 28) rfl ?_);refine goesL_ (some 26) rfl rfl Try.func28 (by kernel_rfl) rfl #[.agg #[.slice a5 g2.length j4,.slice s4 s2.length g4,.slice q4 q2.length d4]] rfl (by (try simp only [List.map_toArray,List.map_cons,List.map_nil]);first|done|rfl|(simp only [List.length_drop,List.length_take];rfl)) ?_;(with_reducible refine (spec_l4Copy.calls _ _ g2 _ _ s2 _ _ q2 ma0 va0 ka1 _ ?side1 ?side2 ?side3 ?side4 ?side5 ?side6 A27.out).mono ?_);(case side1 => exact uc (Kd.C_below s6.out HB.out));(case side2 => exact ja0.out);(case side3 => exact uc (Kd.C_below y9.out HB.out));(case side4 => exact ga0.out);(case side5 => exact uc (Kd.C_below v9.out HB.out));(case side6 => exact da0.out);rintro e w32 ⟨zc5,yc5,vc5,rfl,ho0,ho1,ho2,hb⟩;refine ⟨_,rfl,?_⟩;have n0_:= mk (Kd.R_lower ho0 (below_size (by repeat (first|(with_reducible first|exact HB.out|apply below_alloc|apply pw_below_drewN|apply below_drew1|refine below_set ?_ d3.out|refine below_set ?_ j3.out)|exact HB.out))));have n1_:= mk (Kd.R_lower ho1 (below_size (by repeat (first|(with_reducible first|exact HB.out|apply below_alloc|apply pw_below_drewN|apply below_drew1|refine below_set ?_ d3.out|refine below_set ?_ j3.out)|exact HB.out))));have n2_:= mk (Kd.R_lower ho2 (below_size (by repeat (first|(with_reducible first|exact HB.out|apply below_alloc|apply pw_below_drewN|apply below_drew1|refine below_set ?_ d3.out|refine below_set ?_ j3.out)|exact HB.out))));have n3_:= mk (blk_below (g:= b2) (o:= .cells #[.slice a5 g2.length j4,.slice s4 s2.length g4,.slice q4 q2.length d4] 29 (0,0)) (ub s0.out) hb);have n4_:= mk (blk_below (g:= z1) (o:= .cells #[.slice none 0 0,.slice none 0 0,.slice none 0 0] 29 (0,0)) (ub m1.out) hb);have n5_:= mk (below_step (by repeat (first|(with_reducible first|exact HB.out|apply below_alloc|apply pw_below_drewN|apply below_drew1|refine below_set ?_ d3.out|refine below_set ?_ j3.out)|exact HB.out)) hb);clear s0;clear m1;clear HB;have ba0:= n0_;have aa0:= n1_;have z9:= n2_;have s0:= n3_;have m1:= n4_;have HB:= n5_;clear n0_ n1_ n2_ n3_ n4_ n5_;(try clear hb);(try clear hb2);(try clear hk);(try clear hi);(try clear ho0);(try clear ho1);(try clear ho2))|((with_reducible refine gate_dst (N:= 8) rfl ?_);refine box_event ?hg (N:= 8) ?hd (cs:= #[.slice none 0 0,.slice none 0 0,.slice none 0 0]) (t:= 29) ?hr ?_;(case hd => rfl);(case hg => rfl);(case hr => first|(go_simp;done)|(go_simp;rfl));intro o1 hg w33 hbox hb;have n0_:= mk (Kd.R_below (up ba0.out) hb);have n1_:= mk (Kd.R_below (up aa0.out) hb);have n2_:= mk (Kd.R_below (up z9.out) hb);have n3_:= mk (blk_below (g:= b2) (o:= .cells #[.slice a5 g2.length j4,.slice s4 s2.length g4,.slice q4 q2.length d4] 29 (0,0)) (ub s0.out) hb);have n4_:= mk (blk_below (g:= z1) (o:= .cells #[.slice none 0 0,.slice none 0 0,.slice none 0 0] 29 (0,0)) (ub m1.out) hb);have n5_:= mk (below_step (by repeat (first|(with_reducible first|exact HB.out|apply below_alloc|apply pw_below_drewN|apply below_drew1|refine below_set ?_ d3.out|refine below_set ?_ j3.out)|exact HB.out)) hb);have n6_:= mk (hbox);have n7_:= mk ((by rw [hg];exact (below_size (by repeat (first|(with_reducible first|exact HB.out|apply below_alloc|apply pw_below_drewN|apply below_drew1|refine below_set ?_ d3.out|refine below_set ?_ j3.out)|exact HB.out))) : w.heap.size ≤ o1));have n8_:= mk ((by rw [hg];exact (below_size (by repeat (first|(with_reducible first|exact HB.out|apply below_alloc|apply pw_below_drewN|apply below_drew1|refine below_set ?_ d3.out|refine below_set ?_ j3.out)|exact HB.out))) : w.heap.size ≤ o1));have n9_:= mk ((by rw [hg];exact Nat.ne_of_lt (blk_lt (g:= b2) (o:= .cells #[.slice a5 g2.length j4,.slice s4 s2.length g4,.slice q4 q2.length d4] 29 (0,0)) (ub s0.out)) : b2 ≠ o1));have n10_:= mk ((by rw [hg];exact Nat.ne_of_gt (blk_lt (g:= b2) (o:= .cells #[.slice a5 g2.length j4,.slice s4 s2.length g4,.slice q4 q2.length d4] 29 (0,0)) (ub s0.out)) : o1 ≠ b2));have n11_:= mk ((by rw [hg];exact Nat.ne_of_lt (blk_lt (g:= z1) (o:= .cells #[.slice none 0 0,.slice none 0 0,.slice none 0 0] 29 (0,0)) (ub m1.out)) : z1 ≠ o1));have n12_:= mk ((by rw [hg];exact Nat.ne_of_gt (blk_lt (g:= z1) (o:= .cells #[.slice none 0 0,.slice none 0 0,.slice none 0 0] 29 (0,0)) (ub m1.out)) : o1 ≠ z1));clear ba0;clear aa0;clear z9;clear s0;clear m1;clear HB;have ba0:= n0_;have aa0:= n1_;have z9:= n2_;have s0:= n3_;have m1:= n4_;have HB:= n5_;have j1:= n6_;have za5:= n7_;have s5:= n8_;have g3:= n9_;have m4:= n10_;have o2:= n11_;have k4:= n12_;clear n0_ n1_ n2_ n3_ n4_ n5_ n6_ n7_ n8_ n9_ n10_ n11_ n12_;clear hb hbox hg;obtain ⟨aa6,va5,dc2⟩:= Kd.R_slice ba0.out;subst dc2;have qc0:= m4.out;have sb9:= g3.out;have oc0:= k4.out;have qb9:= o2.out;have sa4 : w33.cell? ⟨o1,0,none⟩ = some (.slice none 0 0):= (blk_cell j1.out 0).trans rfl;have qa4 : w33.cell? ⟨o1,1,none⟩ = some (.slice none 0 0):= (blk_cell j1.out 1).trans rfl;have oa4 : w33.cell? ⟨o1,2,none⟩ = some (.slice none 0 0):= (blk_cell j1.out 2).trans rfl;have ma3:= blk_frozen j1.out 0;have ka3:= blk_frozen j1.out 1;have ja3:= blk_frozen j1.out 2;obtain ⟨va6,qa6,bc2⟩:= Kd.R_slice aa0.out;subst bc2;obtain ⟨sa8,va7,ac2⟩:= Kd.R_slice z9.out;subst ac2;have ma4 : w33.cell? ⟨b2,0,none⟩ = some (.slice a5 g2.length j4):= (blk_cell s0.out 0).trans rfl;have ka4 : w33.cell? ⟨b2,1,none⟩ = some (.slice s4 s2.length g4):= (blk_cell s0.out 1).trans rfl;have ja4 : w33.cell? ⟨b2,2,none⟩ = some (.slice q4 q2.length d4):= (blk_cell s0.out 2).trans rfl;have ga3:= blk_frozen s0.out 0;have da3:= blk_frozen s0.out 1;have ba3:= blk_frozen s0.out 2;have za8 : 0 ≤ (o3 : Int):= of_decide_eq_true (by first|(with_reducible assumption)|assumption);have ya8 : o3 < (g2.length : Int):= of_decide_eq_true (by first|(with_reducible assumption)|assumption);obtain ⟨q6,zc2,b3⟩:= Kd.at_int s6.out o3 za8 ya8;cases zc2;have hn168_0 : q6.block ≠ o1:= Nat.ne_of_lt (Nat.lt_of_lt_of_le (by have:= World.block_lt_of_cell? _ _ b3;first|rwa [add_block] at this|exact this) za5.out);have hn168_1 : q6.block ≠ o1:= Nat.ne_of_lt (Nat.lt_of_lt_of_le (by have:= World.block_lt_of_cell? _ _ b3;first|rwa [add_block] at this|exact this) za5.out);have hn168_2 : q6.block ≠ o1:= Nat.ne_of_lt (Nat.lt_of_lt_of_le (by have:= World.block_lt_of_cell? _ _ b3;first|rwa [add_block] at this|exact this) za5.out);replace b3:= (HB.out.cell (World.block_lt_of_cell? w _ b3)).trans b3;replace b3:= (cell_far (p:= ⟨o1,0,none⟩) (by first|(rw [add_block];exact hn168_0)|(show (Addr.add _ _).block ≠ _;rw [add_block];exact hn168_0)|exact hn168_0) (.slice aa6 ma0.length va5)).trans b3;replace b3:= (cell_far (p:= ⟨o1,1,none⟩) (by first|(rw [add_block];exact hn168_1)|(show (Addr.add _ _).block ≠ _;rw [add_block];exact hn168_1)|exact hn168_1) (.slice va6 va0.length qa6)).trans b3;replace b3:= (cell_far (p:= ⟨o1,2,none⟩) (by first|(rw [add_block];exact hn168_2)|(show (Addr.add _ _).block ≠ _;rw [add_block];exact hn168_2)|exact hn168_2) (.slice sa8 ka1.length va7)).trans b3;clear hn168_0;clear hn168_1;clear hn168_2;replace za8:= eq_true za8;replace ya8:= eq_true ya8))
      go_loopg [7,10,11] kj3 (fun kq v7 v10 v11 w' => ∃ (j2 : Int) (v3 : Int) (s1 : Int) (m0 : List Int) (d0 : List Int) (k0 : List (S50)) (a4 : Value) (z3 : Value) (z4 : Value),v7 = .int .i64 j2 ∧ v10 = .int .i64 v3 ∧ v11 = .int .i64 s1 ∧ Aside0 (spec_RippleDelete.l0 kq j2 (rd g2 o3) v3 s1 m0 d0 k0 = some (r1,r2,r3,r4,r5)) ∧ Aside0 (kq ≤ kj3) ∧ Aside0 (Kd.R (Kd.int .i64) 3 w' w.heap.size (fun k_ => some k_ ≠ (z3 : Value).ownBlock) a4 m0) ∧ Aside0 (Kd.R (Kd.int .i64) 3 w' w.heap.size (fun k_ => some k_ ≠ (a4 : Value).ownBlock) z3 d0) ∧ Aside0 (Kd.R k50 50 w' w.heap.size (fun _ => True) z4 k0) ∧ Aside0 (w'.heap[b2]? = some (.cells #[(.slice (some q6) g2.length j4),(.slice s4 s2.length g4),(.slice q4 q2.length d4)] 29 (0,0))) ∧ Aside0 (w'.heap[z1]? = some (.cells #[(.slice none 0 0),(.slice none 0 0),(.slice none 0 0)] 29 (0,0))) ∧ Aside0 (w'.heap[o1]? = some (.cells #[a4,z3,z4] 29 (0,0))) ∧ Aside0 (Below w.heap.size w w'))
      case atStart => exact ⟨(o3),(0),(0),(ma0),(va0),(ka1),(.slice aa6 ma0.length va5),(.slice va6 va0.length qa6),(.slice sa8 ka1.length va7),(by first|rfl|(simp;done)|(simp [*];done)),(by first|rfl|(simp;done)|(simp [*];done)),(by first|rfl|(simp;done)|(simp [*];done)),H',⟨Nat.le_refl _⟩,⟨by exact up (Kd.R_mono (Kd.R_far (p:= ⟨o1,2,none⟩) (Kd.R_far (p:= ⟨o1,1,none⟩) (Kd.R_far (p:= ⟨o1,0,none⟩) (Kd.R_types ba0.out j1.out (by decide)) (fun _ hk => hk.2) (.slice aa6 ma0.length va5)) (fun _ hk => hk.2) (.slice va6 va0.length qa6)) (fun _ hk => hk.2) (.slice sa8 ka1.length va7)) (fun _ hk => hk.1))⟩,⟨by exact up (Kd.R_mono (Kd.R_far (p:= ⟨o1,2,none⟩) (Kd.R_far (p:= ⟨o1,1,none⟩) (Kd.R_far (p:= ⟨o1,0,none⟩) (Kd.R_types aa0.out j1.out (by decide)) (fun _ hk => hk.2) (.slice aa6 ma0.length va5)) (fun _ hk => hk.2) (.slice va6 va0.length qa6)) (fun _ hk => hk.2) (.slice sa8 ka1.length va7)) (fun _ hk => hk.1))⟩,⟨by exact up (Kd.R_mono (Kd.R_far (p:= ⟨o1,2,none⟩) (Kd.R_far (p:= ⟨o1,1,none⟩) (Kd.R_far (p:= ⟨o1,0,none⟩) (Kd.R_types z9.out j1.out (by decide)) (fun _ hk => hk.2) (.slice aa6 ma0.length va5)) (fun _ hk => hk.2) (.slice va6 va0.length qa6)) (fun _ hk => hk.2) (.slice sa8 ka1.length va7)) (fun _ hk => trivial))⟩,⟨by (with_reducible repeat (first|refine blk_drewN ?_ _|refine blk_drew ?_|refine blk_alloc ?_ _));refine blk_far ?_ g3.out _;(with_reducible repeat (first|refine blk_drewN ?_ _|refine blk_drew ?_|refine blk_alloc ?_ _));refine blk_far ?_ g3.out _;(with_reducible repeat (first|refine blk_drewN ?_ _|refine blk_drew ?_|refine blk_alloc ?_ _));refine blk_far ?_ g3.out _;(with_reducible repeat (first|refine blk_drewN ?_ _|refine blk_drew ?_|refine blk_alloc ?_ _));exact s0.out⟩,⟨by (with_reducible repeat (first|refine blk_drewN ?_ _|refine blk_drew ?_|refine blk_alloc ?_ _));refine blk_far ?_ o2.out _;(with_reducible repeat (first|refine blk_drewN ?_ _|refine blk_drew ?_|refine blk_alloc ?_ _));refine blk_far ?_ o2.out _;(with_reducible repeat (first|refine blk_drewN ?_ _|refine blk_drew ?_|refine blk_alloc ?_ _));refine blk_far ?_ o2.out _;(with_reducible repeat (first|refine blk_drewN ?_ _|refine blk_drew ?_|refine blk_alloc ?_ _));exact m1.out⟩,⟨by (with_reducible repeat (first|refine blk_drewN ?_ _|refine blk_drew ?_|refine blk_alloc ?_ _));refine blk_put (cs:= #[.slice aa6 ma0.length va5,.slice va6 va0.length qa6,.slice none 0 0]) ?_ 2 _ rfl;(with_reducible repeat (first|refine blk_drewN ?_ _|refine blk_drew ?_|refine blk_alloc ?_ _));refine blk_put (cs:= #[.slice aa6 ma0.length va5,.slice none 0 0,.slice none 0 0]) ?_ 1 _ rfl;(with_reducible repeat (first|refine blk_drewN ?_ _|refine blk_drew ?_|refine blk_alloc ?_ _));refine blk_put (cs:= #[.slice none 0 0,.slice none 0 0,.slice none 0 0]) ?_ 0 _ rfl;(with_reducible repeat (first|refine blk_drewN ?_ _|refine blk_drew ?_|refine blk_alloc ?_ _));exact j1.out⟩,⟨by repeat (first|(with_reducible first|exact HB.out|apply below_alloc|apply pw_below_drewN|apply below_drew1|refine below_set ?_ d3.out|refine below_set ?_ j3.out|refine below_set ?_ s5.out)|exact HB.out)⟩⟩
      case round =>
       clear H'
       try clear c1
       try clear p1
       try clear q1
       try clear hx1
       try clear c2
       try clear p2
       try clear c3
       try clear c7
       try clear c11
       try clear c12
       try clear c15
       try clear p16
       try clear q16
       try clear gc6
       try clear c18
       try clear c20
       try clear c23
       try clear c27
       try clear c28
       try clear jb4
       try clear c29
       try clear gb4
       try clear c30
       try clear c35
       try clear c36
       try clear d9
       try clear b9
       try clear a9
       try clear z8
       try clear y8
       try clear v8
       try clear ka5
       try clear ja5
       try clear ga5
       try clear da5
       try clear ba5
       try clear aa5
       try clear za4
       try clear ya4
       try clear va4
       try clear sa4
       try clear qa4
       try clear oa4
       try clear ma4
       try clear ka4
       try clear ja4
       try clear da2
       try clear ba2
       try clear aa2
       try clear s8
       try clear q8
       try clear o8
       try clear m8
       try clear k8
       try clear j8
       try clear da4
       try clear ba4
       try clear aa4
       try clear za3
       try clear ya3
       try clear va3
       try clear sa3
       try clear qa3
       try clear oa3
       try clear ma3
       try clear ka3
       try clear ja3
       try clear ga3
       try clear da3
       try clear ba3
       try clear za1
       try clear ya1
       try clear va1
       try clear b3
       try clear za8
       try clear p2
       try clear ya8
       obtain ⟨j2,v3,s1,m0,d0,k0,a4,z3,z4,rfl,rfl,rfl,HA,HK2,d1,z0,o0,s0,m1,j1,HB⟩:= hrel
       cases gk with
      |zero => exact absurd HA.out (by simp [spec_RippleDelete.l0])
      |succ k2 =>
        have H:= HA.out
        clear HA
        simp only [spec_RippleDelete.l0] at H
        by_cases c41 : s1 < (k0.length : Int)
        ·rw [if_pos c41] at H
         have db4 : decide (s1 < (k0.length : Int)) = true:= decide_eq_true c41
         clear c41
         by_cases c42 : 0 ≤ s1
         ·rw [if_pos c42] at H
          have oc4 : decide (0 ≤ s1) = true:= decide_eq_true c42
          clear c42
          by_cases c43 : ((rd_T50 k0 s1).f0) ≤ (rd g2 o3)
          ·rw [if_pos c43] at H
           have bb4 : decide (((rd_T50 k0 s1).f0) ≤ (rd g2 o3)) = true:= decide_eq_true c43
           clear c43
           have H':= mk H
           clear H
           have mc0:= m4.out
           have ob9:= g3.out
           have kc0:= k4.out
           have mb9:= o2.out
           have sb3 : wr.cell? ⟨o1,0,none⟩ = some (a4):= (blk_cell j1.out 0).trans rfl
           have qb3 : wr.cell? ⟨o1,1,none⟩ = some (z3):= (blk_cell j1.out 1).trans rfl
           have ob3 : wr.cell? ⟨o1,2,none⟩ = some (z4):= (blk_cell j1.out 2).trans rfl
           have qb2:= blk_frozen j1.out 0
           have ob2:= blk_frozen j1.out 1
           have mb2:= blk_frozen j1.out 2
           obtain ⟨gc9,ac3,zc1⟩:= Kd.R_slice o0.out
           subst zc1
           have oa2 : 0 ≤ (s1 : Int):= of_decide_eq_true (by first|(with_reducible assumption)|assumption)
           have ma2 : s1 < (k0.length : Int):= of_decide_eq_true (by first|(with_reducible assumption)|assumption)
           obtain ⟨g9,ab4,a8,z7⟩:= at_T50 (Kd.R_reads' o0.out).2.2 s1 oa2 ma2
           cases ab4
           replace oa2:= eq_true oa2
           replace ma2:= eq_true ma2
           go_wp2
           go_roundg k2
           case measure => have:= HJ3.out;have:= HK2.out;omega
           case rel => exact ⟨(j2),(v3),(wrap64 (s1 + 1)),(m0),(d0),(k0),(a4),(z3),(.slice (some g9) k0.length ac3),(by first|rfl|(simp;done)|(simp [*];done)),(by first|rfl|(simp;done)|(simp [*];done)),(by first|rfl|(simp;done)|(simp [*];done)),H',⟨by have:= HJ3.out;have:= HK2.out;omega⟩,⟨up d1.out⟩,⟨up z0.out⟩,⟨up o0.out⟩,⟨ub s0.out⟩,⟨ub m1.out⟩,⟨ub j1.out⟩,⟨by repeat (first|(with_reducible first|exact HB.out|apply below_alloc|apply pw_below_drewN|apply below_drew1|refine below_set ?_ d3.out|refine below_set ?_ j3.out|refine below_set ?_ s5.out)|exact HB.out)⟩⟩
          ·rw [if_neg c43] at H
           have bb4 : decide (((rd_T50 k0 s1).f0) ≤ (rd g2 o3)) = false:= decide_eq_false c43
           clear c43
           obtain ⟨m3,g8⟩ : ∃ j_ : Int,(wrap64 (((rd_T50 k0 s1).f1) - 1)) = j_:= ⟨_,rfl⟩
           replace H : (if 0 ≤ (m3) then (if (m3) < (m0.length : Int) then (if 0 ≤ j2 then (if j2 < (m0.length : Int) then (if (m3) < (d0.length : Int) then (if j2 < (d0.length : Int) then ((spec_l10Move.f (m3) j2).bind fun v6 => (spec_RippleDelete.l0 k2 m3 (rd g2 o3) (wrap64 (v3 + v6)) (wrap64 (s1 + 1)) (m0.set (j2 : Int).toNat (rd m0 (m3))) (d0.set (j2 : Int).toNat (rd d0 (m3))) (k0.set (s1 : Int).toNat (⟨(rd_T50 k0 s1).f0,m3⟩ : S50)))) else (none)) else (none)) else (none)) else (none)) else (none)) else (none)) = some (r1,r2,r3,r4,r5):= by first|(rw [g8] at H;exact H)|(simp only [g8] at H ⊢;exact H)
           have yb5 : (IntKind.i64.wrap (((rd_T50 k0 s1).f1) - 1)) = m3:= (i64_w _).trans g8
           by_cases c49 : 0 ≤ (m3)
           ·rw [if_pos c49] at H
            have mc4 : decide (0 ≤ (m3)) = true:= decide_eq_true c49
            clear c49
            by_cases c50 : (m3) < (m0.length : Int)
            ·rw [if_pos c50] at H
             have kc4 : decide ((m3) < (m0.length : Int)) = true:= decide_eq_true c50
             clear c50
             by_cases c51 : 0 ≤ j2
             ·rw [if_pos c51] at H
              have jc4 : decide (0 ≤ j2) = true:= decide_eq_true c51
              clear c51
              by_cases c52 : j2 < (m0.length : Int)
              ·rw [if_pos c52] at H
               have gc4 : decide (j2 < (m0.length : Int)) = true:= decide_eq_true c52
               clear c52
               obtain ⟨ja2,y7⟩ : ∃ y_ : List Int,y_ = (m0.set (j2 : Int).toNat (rd m0 (m3))):= ⟨_,rfl⟩
               replace H : (if (m3) < (d0.length : Int) then (if j2 < (d0.length : Int) then ((spec_l10Move.f (m3) j2).bind fun v6 => (spec_RippleDelete.l0 k2 m3 (rd g2 o3) (wrap64 (v3 + v6)) (wrap64 (s1 + 1)) ja2 (d0.set (j2 : Int).toNat (rd d0 (m3))) (k0.set (s1 : Int).toNat (⟨(rd_T50 k0 s1).f0,m3⟩ : S50)))) else (none)) else (none)) = some (r1,r2,r3,r4,r5):= by first|(rw [y7];with_reducible exact H)|(have H2_:= (Option.bind_some _ _).symm.trans H;rw [y7];with_reducible exact H2_)|(have H2_:= (Option.bind_some _ _).symm.trans H;with_reducible exact H2_)|with_reducible exact H|(rw [y7];exact H)|exact H
               have ka8:= mk y7
               clear y7
               by_cases c54 : (m3) < (d0.length : Int)
               ·rw [if_pos c54] at H
                have dc4 : decide ((m3) < (d0.length : Int)) = true:= decide_eq_true c54
                clear c54
                by_cases c55 : j2 < (d0.length : Int)
                ·rw [if_pos c55] at H
                 have bc4 : decide (j2 < (d0.length : Int)) = true:= decide_eq_true c55
                 clear c55
                 obtain ⟨da6,s7⟩ : ∃ y_ : List Int,y_ = (d0.set (j2 : Int).toNat (rd d0 (m3))):= ⟨_,rfl⟩
                 replace H : ((spec_l10Move.f (m3) j2).bind fun v6 => (spec_RippleDelete.l0 k2 m3 (rd g2 o3) (wrap64 (v3 + v6)) (wrap64 (s1 + 1)) ja2 da6 (k0.set (s1 : Int).toNat (⟨(rd_T50 k0 s1).f0,m3⟩ : S50)))) = some (r1,r2,r3,r4,r5):= by first|(rw [s7];with_reducible exact H)|(have H2_:= (Option.bind_some _ _).symm.trans H;rw [s7];with_reducible exact H2_)|(have H2_:= (Option.bind_some _ _).symm.trans H;with_reducible exact H2_)|with_reducible exact H|(rw [s7];exact H)|exact H
                 have ja8:= mk s7
                 clear s7
                 replace H:= Option.bind_eq_some_iff.mp H
                 obtain ⟨v6,mb8,H⟩:= H
                 replace H : (spec_RippleDelete.l0 k2 m3 (rd g2 o3) (wrap64 (v3 + v6)) (wrap64 (s1 + 1)) ja2 da6 (k0.set (s1 : Int).toNat (⟨(rd_T50 k0 s1).f0,m3⟩ : S50))) = some (r1,r2,r3,r4,r5):= H
                 have A57:= mk mb8
                 clear mb8
                 obtain ⟨qb0,q7⟩ : ∃ y_ : List (S50),y_ = (k0.set (s1 : Int).toNat (⟨(rd_T50 k0 s1).f0,m3⟩ : S50)):= ⟨_,rfl⟩
                 replace H : (spec_RippleDelete.l0 k2 m3 (rd g2 o3) (wrap64 (v3 + v6)) (wrap64 (s1 + 1)) ja2 da6 qb0) = some (r1,r2,r3,r4,r5):= by first|(rw [q7];with_reducible exact H)|(have H2_:= (Option.bind_some _ _).symm.trans H;rw [q7];with_reducible exact H2_)|(have H2_:= (Option.bind_some _ _).symm.trans H;with_reducible exact H2_)|with_reducible exact H|(rw [q7];exact H)|exact H
                 have ob4:= mk q7
                 clear q7
                 have H':= mk H
                 clear H
                 have jc0:= m4.out
                 have kb9:= g3.out
                 have gc0:= k4.out
                 have jb9:= o2.out
                 have mb3 : wr.cell? ⟨o1,0,none⟩ = some (a4):= (blk_cell j1.out 0).trans rfl
                 have kb3 : wr.cell? ⟨o1,1,none⟩ = some (z3):= (blk_cell j1.out 1).trans rfl
                 have jb3 : wr.cell? ⟨o1,2,none⟩ = some (z4):= (blk_cell j1.out 2).trans rfl
                 have kb2:= blk_frozen j1.out 0
                 have jb2:= blk_frozen j1.out 1
                 have gb2:= blk_frozen j1.out 2
                 obtain ⟨dc9,ga2,yc1⟩:= Kd.R_slice o0.out
                 subst yc1
                 have oa2 : 0 ≤ (s1 : Int):= of_decide_eq_true (by first|(with_reducible assumption)|assumption)
                 have ma2 : s1 < (k0.length : Int):= of_decide_eq_true (by first|(with_reducible assumption)|assumption)
                 obtain ⟨g9,ab4,a8,z7⟩:= at_T50 (Kd.R_reads' o0.out).2.2 s1 oa2 ma2
                 cases ab4
                 replace oa2:= eq_true oa2
                 replace ma2:= eq_true ma2
                 have sb1 : 0 ≤ (s1 : Int):= of_decide_eq_true (by first|(with_reducible assumption)|assumption)
                 have bb1 : s1 < (k0.length : Int):= of_decide_eq_true (by first|(with_reducible assumption)|assumption)
                 obtain ⟨kb4,yc2,aa3,za2⟩:= at_T50 (Kd.R_reads' o0.out).2.2 s1 sb1 bb1
                 obtain rfl : g9 = kb4:= (by injection yc2)
                 replace sb1:= eq_true sb1
                 replace bb1:= eq_true bb1
                 obtain ⟨bc9,oa6,vc1⟩:= Kd.R_slice d1.out
                 subst vc1
                 have qb1 : 0 ≤ ((m3) : Int):= of_decide_eq_true (by first|(with_reducible assumption)|assumption)
                 have ab1 : (m3) < (m0.length : Int):= of_decide_eq_true (by first|(with_reducible assumption)|assumption)
                 obtain ⟨gc5,vc2,ya2⟩:= Kd.at_int (Kd.R_reads' d1.out).2.2 (m3) qb1 ab1
                 cases vc2
                 replace qb1:= eq_true qb1
                 replace ab1:= eq_true ab1
                 have p53 : 0 ≤ (j2 : Int):= of_decide_eq_true (by first|(with_reducible assumption)|assumption)
                 have q53 : (j2 : Int) < ((m0.length : Int) : Int):= of_decide_eq_true (by first|(with_reducible assumption)|assumption)
                 obtain ⟨ka6,gc7,yb7,mb7,kc1,qc7,jb8⟩:= Kd.R_form d1.out (by omega)
                 (first|cases yb7|(injection yb7 with ea_ en_ ec_;(first|subst ea_|(injection ea_ with ea_;subst ea_));subst ec_;clear en_))
                 have vc8:= mk mb7
                 have mc8:= mk jb8
                 clear mb7 kc1 jb8
                 (first|simp only [add_plain] at ya2|skip)
                 obtain ⟨mb5,qb6⟩:= Kd.R_celln 0 d1.out (j2 : Int) p53 q53
                 replace p53:= eq_true p53
                 replace q53:= eq_true q53
                 have bc8:= Kd.R_putg d1.out (j2 : Int) (rd m0 (m3))
                 go_wp2_with (first|((with_reducible refine gate_callee (f:= 29) rfl ?_);obtain ⟨ac9,ma6,sc1⟩:= Kd.R_slice z0.out;subst sc1;have ob1 : 0 ≤ ((m3) : Int):= of_decide_eq_true (by first|(with_reducible assumption)|assumption);have zb0 : (m3) < (d0.length : Int):= of_decide_eq_true (by first|(with_reducible assumption)|assumption);obtain ⟨dc5,sc2,va2⟩:= Kd.at_int (Kd.R_reads' z0.out).2.2 (m3) ob1 zb0;cases sc2;replace ob1:= eq_true ob1;replace zb0:= eq_true zb0;have p56 : 0 ≤ (j2 : Int):= of_decide_eq_true (by first|(with_reducible assumption)|assumption);have q56 : (j2 : Int) < ((d0.length : Int) : Int):= of_decide_eq_true (by first|(with_reducible assumption)|assumption);obtain ⟨ja6,dc7,vb7,kb7,jc1,oc7,gb8⟩:= Kd.R_form z0.out (by omega);(first|cases vb7|(injection vb7 with ea_ en_ ec_;(first|subst ea_|(injection ea_ with ea_;subst ea_));subst ec_;clear en_));have sc8:= mk kb7;have kc8:= mk gb8;clear kb7 jc1 gb8;(first|simp only [add_plain] at va2|skip);obtain ⟨kb5,ob6⟩:= Kd.R_celln 0 z0.out (j2 : Int) p56 q56;replace p56:= eq_true p56;replace q56:= eq_true q56;refine goesL_ (some 57) rfl rfl Try.func29 (by kernel_rfl) rfl #[.pointer (some ⟨o1,0,none⟩),.int .i64 m3,.int .i64 j2] rfl (by (try simp only [List.map_toArray,List.map_cons,List.map_nil]);first|done|(simp only [g8];rfl)|rfl|(simp only [List.length_drop,List.length_take];rfl)) ?_;(with_reducible refine (spec_l10Move.callsS w _ o1 (.slice (some ⟨ka6,0,none⟩) m0.length oa6) (.slice (some ⟨ja6,0,none⟩) d0.length ma6) (.slice (some g9) k0.length ga2) m0 d0 _ j2 m3 v6 (by repeat (first|(with_reducible first|exact HB.out|apply below_alloc|apply pw_below_drewN|apply below_drew1|refine below_set ?_ d3.out|refine below_set ?_ j3.out|refine below_set ?_ s5.out)|exact HB.out)) ⟨ub j1.out,s5.out,up d1.out,up z0.out,up o0.out⟩ (show 0 ≤ (j2 : Int) from (of_decide_eq_true (by first|(with_reducible assumption)|assumption))) (show (j2 : Int) < (m0.length : Int) from (of_decide_eq_true (by first|(with_reducible assumption)|assumption))) (show (j2 : Int) < (d0.length : Int) from (of_decide_eq_true (by first|(with_reducible assumption)|assumption))) (show 0 ≤ (m3 : Int) from (of_decide_eq_true (by first|(with_reducible assumption)|assumption))) (show (m3 : Int) < (m0.length : Int) from (of_decide_eq_true (by first|(with_reducible assumption)|assumption))) (show (m3 : Int) < (d0.length : Int) from (of_decide_eq_true (by first|(with_reducible assumption)|assumption))) A57.out).mono ?_);rintro e w70 ⟨rfl,hcs,hb,hfar⟩;refine ⟨_,rfl,?_⟩;have n0_:= mk (show Kd.R (Kd.int .i64) 3 w70 w.heap.size (fun k_ => True ∧ some k_ ≠ (.slice (some ⟨ja6,0,none⟩) d0.length ma6 : Value).ownBlock) (.slice (some ⟨ka6,0,none⟩) m0.length oa6) ja2 from by rw [ka8.out];exact Kd.R_mono hcs.r0 (fun _ hk => ⟨trivial,hk⟩));have n1_:= mk (show Kd.R (Kd.int .i64) 3 w70 w.heap.size (fun k_ => some k_ ≠ (.slice (some ⟨ka6,0,none⟩) m0.length oa6 : Value).ownBlock) (.slice (some ⟨ja6,0,none⟩) d0.length ma6) da6 from by rw [ja8.out];exact hcs.r1);have n2_:= mk (hcs.r2);have n3_:= mk (hfar.at (ub s0.out) (by decide));have n4_:= mk (hfar.at (ub m1.out) (by decide));have n5_:= mk (hcs.blk);have n6_:= mk (hb);have lyy172_ : ja2.length = m0.length:= (by rw [ka8.out,List.length_set]);have lyy174_ : da6.length = d0.length:= (by rw [ja8.out,List.length_set]);clear d1;clear z0;clear o0;clear s0;clear m1;clear j1;clear HB;have d1:= n0_;have z0:= n1_;have o0:= n2_;have s0:= n3_;have m1:= n4_;have j1:= n5_;have HB:= n6_;clear n0_ n1_ n2_ n3_ n4_ n5_ n6_;(try clear hb);(try clear hb2);(try clear hcs);(try clear hfar);have gb3 : w70.cell? ⟨o1,0,none⟩ = some (.slice (some ⟨ka6,0,none⟩) m0.length oa6):= (blk_cell j1.out 0).trans rfl;have db3 : w70.cell? ⟨o1,1,none⟩ = some (.slice (some ⟨ja6,0,none⟩) d0.length ma6):= (blk_cell j1.out 1).trans rfl;have bb3 : w70.cell? ⟨o1,2,none⟩ = some (.slice (some g9) k0.length ga2):= (blk_cell j1.out 2).trans rfl;have db2:= blk_frozen j1.out 0;have bb2:= blk_frozen j1.out 1;have ab2:= blk_frozen j1.out 2;have p58 : 0 ≤ (s1 : Int):= of_decide_eq_true (by first|(with_reducible assumption)|assumption);have q58 : (s1 : Int) < ((k0.length : Int) : Int):= of_decide_eq_true (by first|(with_reducible assumption)|assumption);obtain ⟨z6,bc7,sb7,jb7,gc1,mc7,db8⟩:= Kd.R_form o0.out (by omega);(first|cases sb7|(injection sb7 with ea_ en_ ec_;(first|subst ea_|(injection ea_ with ea_;subst ea_));subst ec_;clear en_));have sc5:= mk jb7;have jc8:= mk db8;clear jb7 gc1 db8;(first|simp only [add_plain] at a8|skip);(first|simp only [add_plain] at z7|skip);(first|simp only [add_plain] at aa3|skip);(first|simp only [add_plain] at za2|skip);obtain ⟨vc7,zb3,bb7,sa5,ga4⟩:= Kd.R_elem o0.out z50 (s1 : Int) p58 q58;obtain rfl:= k50_openM bb7;have jb5 : w70.cell? ⟨z6,(s1 : Int).toNat * 2,none⟩ = some (.int .i64 ((rd_T50 k0 s1).f0)):= sa5 0 _ rfl;have gb5 : w70.cell? ⟨z6,(s1 : Int).toNat * 2 + 1,none⟩ = some (.int .i64 ((rd_T50 k0 s1).f1)):= sa5 1 _ rfl;have mb6 : w70.frozen? ⟨z6,(s1 : Int).toNat * 2,none⟩ = false:= ga4 0;have kb6 : w70.frozen? ⟨z6,(s1 : Int).toNat * 2 + 1,none⟩ = false:= ga4 1;clear zb3 sa5 ga4 bb7;replace p58:= eq_true p58;replace q58:= eq_true q58;have zb7:= mk (show Kd.R k50 50 w70 w.heap.size (fun _ => True) (.slice (some ⟨z6,0,none⟩) k0.length ga2) k0 from (up o0.out));obtain ⟨sc7,sa7,ab7,qa5,oa7⟩:= Kd.R_elem zb7.out z50 (s1 : Int) (of_decide_eq_true (by first|(with_reducible assumption)|assumption)) (by have h_ : (s1 : Int) < ((k0.length : Int) : Int):= of_decide_eq_true (by first|(with_reducible assumption)|assumption);first|exact h_|(have e_:= (Kd.R_reads' o0.out).1;omega)|simpa using h_);obtain rfl:= k50_openM ab7;have qb4:= Kd.R_seg zb7.out (s1 : Int) (of_decide_eq_true (by first|(with_reducible assumption)|assumption)) (by have h_ : (s1 : Int) < ((k0.length : Int) : Int):= of_decide_eq_true (by first|(with_reducible assumption)|assumption);first|exact h_|(have e_:= (Kd.R_reads' o0.out).1;omega)|simpa using h_) (seg:= [.int .i64 m3]) (j:= 1) sa7 qa5 (show 2 ≤ 2 from by decide) (x':= (⟨(rd_T50 k0 s1).f0,m3⟩ : S50)) (k50_mkM _ _ _ (⟨(rd_T50 k0 s1).f0,m3⟩ : S50) ) (fun _ hk => hk);have ba7:= qa5 1 _ rfl;(try simp only [show (k50).sz = 2 from rfl,Nat.mul_one,Nat.add_zero] at ba7);have qa7:= oa7 1;(try simp only [show (k50).sz = 2 from rfl,Nat.mul_one,Nat.add_zero] at qa7);clear sa7 qa5 oa7 ab7)|((with_reducible refine gate_store (t:= 3) (p:= 65) rfl ?_);refine store_event (t:= 3) (p:= 65) (v:= ?vo_w73) (w1:= (w70.setCell ⟨z6,(s1 : Int).toNat * 2 + 1,none⟩ (.int .i64 m3))) ?hg ?ho ?hn ?hr ?_;(case ho => rfl);(case hg => rfl);(case hn => rfl);(case hr => first|(go_simp;done)|(go_simp;rfl));intro w73 hw;have hg : w70.grownBy w73 (some z6):= (by rw [hw];exact qb4.2);have hp_ : Kd.R k50 50 w73 w.heap.size (fun _ => True) (.slice (some ⟨z6,0,none⟩) k0.length ga2) qb0:= (by rw [hw,ob4.out];exact qb4.1);clear qb4;have n0_:= mk (Kd.R_over' (v:= (.slice (some ⟨z6,0,none⟩) k0.length ga2)) (up d1.out) (Kd.R_typed o0.out) (by decide) hg);have n1_:= mk (Kd.R_over' (v:= (.slice (some ⟨z6,0,none⟩) k0.length ga2)) (up z0.out) (Kd.R_typed o0.out) (by decide) hg);have n2_:= mk (hp_);have n3_:= mk (blk_grown (g:= b2) (o:= .cells #[.slice (some q6) g2.length j4,.slice s4 s2.length g4,.slice q4 q2.length d4] 29 (0,0)) (ub s0.out) hg (Kd.R_ne o0.out s0.out (by decide)));have n4_:= mk (blk_grown (g:= z1) (o:= .cells #[.slice none 0 0,.slice none 0 0,.slice none 0 0] 29 (0,0)) (ub m1.out) hg (Kd.R_ne o0.out m1.out (by decide)));have n5_:= mk (blk_grown (g:= o1) (o:= .cells #[.slice (some ⟨ka6,0,none⟩) m0.length oa6,.slice (some ⟨ja6,0,none⟩) d0.length ma6,.slice (some ⟨z6,0,none⟩) k0.length ga2] 29 (0,0)) (ub j1.out) hg (Kd.R_ne o0.out j1.out (by decide)));have n6_:= mk ((by rw [hw];exact below_set (HB.out) sc5.out : Below w.heap.size w w73));clear d1;clear z0;clear o0;clear s0;clear m1;clear j1;clear HB;have d1:= n0_;have z0:= n1_;have o0:= n2_;have s0:= n3_;have m1:= n4_;have j1:= n5_;have HB:= n6_;clear n0_ n1_ n2_ n3_ n4_ n5_ n6_;clear hg hw hp_))
                 go_roundg k2
                 case measure => have:= HJ3.out;have:= HK2.out;omega
                 case rel => exact ⟨(m3),(wrap64 (v3 + v6)),(wrap64 (s1 + 1)),(ja2),(da6),(qb0),(.slice (some ⟨ka6,0,none⟩) m0.length oa6),(.slice (some ⟨ja6,0,none⟩) d0.length ma6),(.slice (some ⟨z6,0,none⟩) k0.length ga2),(by first|rfl|(simp;done)|(simp only [← g8] <;> (first|rfl|simp))|(simp [*];done)),(by first|rfl|(simp;done)|(simp [*];done)),(by first|rfl|(simp;done)|(simp [*];done)),H',⟨by have:= HJ3.out;have:= HK2.out;omega⟩,⟨by exact up (Kd.R_mono d1.out (fun _ hk => hk.2))⟩,⟨up z0.out⟩,⟨up o0.out⟩,⟨ub s0.out⟩,⟨ub m1.out⟩,⟨ub j1.out⟩,⟨by repeat (first|(with_reducible first|exact HB.out|apply below_alloc|apply pw_below_drewN|apply below_drew1|refine below_set ?_ d3.out|refine below_set ?_ j3.out|refine below_set ?_ s5.out)|exact HB.out)⟩⟩
                ·rw [if_neg c55] at H
                 exact absurd H (by simp)
               ·rw [if_neg c54] at H
                exact absurd H (by simp)
              ·rw [if_neg c52] at H
               exact absurd H (by simp)
             ·rw [if_neg c51] at H
              exact absurd H (by simp)
            ·rw [if_neg c50] at H
             exact absurd H (by simp)
           ·rw [if_neg c49] at H
            exact absurd H (by simp)
         ·rw [if_neg c42] at H
          exact absurd H (by simp)
        ·rw [if_neg c41] at H
         have db4 : decide (s1 < (k0.length : Int)) = false:= decide_eq_false c41
         clear c41
         obtain ⟨k3,d8⟩ : ∃ j_ : Int,(wrap64 ((m0.length : Int) - 1)) = j_:= ⟨_,rfl⟩
         replace H : (if 0 ≤ (k3) then (if (k3) < (m0.length : Int) then (if 0 ≤ j2 then (if j2 < (m0.length : Int) then (if (k3) < (d0.length : Int) then (if j2 < (d0.length : Int) then ((spec_l10Move.f (k3) j2).bind fun m6 => (if (k3) ≤ (m0.length : Int) then (if 0 ≤ (wrap64 ((d0.length : Int) - 1)) then (if (wrap64 ((d0.length : Int) - 1)) ≤ (d0.length : Int) then (some (((m0.set (j2 : Int).toNat (rd m0 (k3))).take ((k3) : Int).toNat),((d0.set (j2 : Int).toNat (rd d0 (k3))).take ((wrap64 ((d0.length : Int) - 1)) : Int).toNat),k0,wrap64 (v3 + m6),true)) else (none)) else (none)) else (none))) else (none)) else (none)) else (none)) else (none)) else (none)) else (none)) = some (r1,r2,r3,r4,r5):= by first|(rw [d8] at H;exact H)|(simp only [d8] at H ⊢;exact H)
         have vb5 : (IntKind.i64.wrap ((m0.length : Int) - 1)) = k3:= (i64_w _).trans d8
         by_cases c75 : 0 ≤ (k3)
         ·rw [if_pos c75] at H
          have zc3 : decide (0 ≤ (k3)) = true:= decide_eq_true c75
          clear c75
          by_cases c76 : (k3) < (m0.length : Int)
          ·rw [if_pos c76] at H
           have yc3 : decide ((k3) < (m0.length : Int)) = true:= decide_eq_true c76
           clear c76
           by_cases c77 : 0 ≤ j2
           ·rw [if_pos c77] at H
            have vc3 : decide (0 ≤ j2) = true:= decide_eq_true c77
            clear c77
            by_cases c78 : j2 < (m0.length : Int)
            ·rw [if_pos c78] at H
             have sc3 : decide (j2 < (m0.length : Int)) = true:= decide_eq_true c78
             clear c78
             obtain ⟨ba6,o7⟩ : ∃ y_ : List Int,y_ = (m0.set (j2 : Int).toNat (rd m0 (k3))):= ⟨_,rfl⟩
             replace H : (if (k3) < (d0.length : Int) then (if j2 < (d0.length : Int) then ((spec_l10Move.f (k3) j2).bind fun m6 => (if (k3) ≤ (m0.length : Int) then (if 0 ≤ (wrap64 ((d0.length : Int) - 1)) then (if (wrap64 ((d0.length : Int) - 1)) ≤ (d0.length : Int) then (some ((ba6.take ((k3) : Int).toNat),((d0.set (j2 : Int).toNat (rd d0 (k3))).take ((wrap64 ((d0.length : Int) - 1)) : Int).toNat),k0,wrap64 (v3 + m6),true)) else (none)) else (none)) else (none))) else (none)) else (none)) = some (r1,r2,r3,r4,r5):= by first|(rw [o7];with_reducible exact H)|(have H2_:= (Option.bind_some _ _).symm.trans H;rw [o7];with_reducible exact H2_)|(have H2_:= (Option.bind_some _ _).symm.trans H;with_reducible exact H2_)|with_reducible exact H|(rw [o7];exact H)|exact H
             have ga8:= mk o7
             clear o7
             by_cases c80 : (k3) < (d0.length : Int)
             ·rw [if_pos c80] at H
              have qc3 : decide ((k3) < (d0.length : Int)) = true:= decide_eq_true c80
              clear c80
              by_cases c81 : j2 < (d0.length : Int)
              ·rw [if_pos c81] at H
               have oc3 : decide (j2 < (d0.length : Int)) = true:= decide_eq_true c81
               clear c81
               obtain ⟨ga1,m7⟩ : ∃ y_ : List Int,y_ = (d0.set (j2 : Int).toNat (rd d0 (k3))):= ⟨_,rfl⟩
               replace H : ((spec_l10Move.f (k3) j2).bind fun m6 => (if (k3) ≤ (m0.length : Int) then (if 0 ≤ (wrap64 ((d0.length : Int) - 1)) then (if (wrap64 ((d0.length : Int) - 1)) ≤ (d0.length : Int) then (some ((ba6.take ((k3) : Int).toNat),(ga1.take ((wrap64 ((d0.length : Int) - 1)) : Int).toNat),k0,wrap64 (v3 + m6),true)) else (none)) else (none)) else (none))) = some (r1,r2,r3,r4,r5):= by first|(rw [m7];with_reducible exact H)|(have H2_:= (Option.bind_some _ _).symm.trans H;rw [m7];with_reducible exact H2_)|(have H2_:= (Option.bind_some _ _).symm.trans H;with_reducible exact H2_)|with_reducible exact H|(rw [m7];exact H)|exact H
               have da8:= mk m7
               clear m7
               replace H:= Option.bind_eq_some_iff.mp H
               obtain ⟨m6,kb8,H⟩:= H
               replace H : (if (k3) ≤ (m0.length : Int) then (if 0 ≤ (wrap64 ((d0.length : Int) - 1)) then (if (wrap64 ((d0.length : Int) - 1)) ≤ (d0.length : Int) then (some ((ba6.take ((k3) : Int).toNat),(ga1.take ((wrap64 ((d0.length : Int) - 1)) : Int).toNat),k0,wrap64 (v3 + m6),true)) else (none)) else (none)) else (none)) = some (r1,r2,r3,r4,r5):= H
               have A83:= mk kb8
               clear kb8
               by_cases c84 : (k3) ≤ (m0.length : Int)
               ·rw [if_pos c84] at H
                have mc3:= eq_true c84
                have kc3 : decide ((k3) ≤ (m0.length : Int)) = true:= decide_eq_true c84
                clear c84
                obtain ⟨o5,k7⟩ : ∃ y_ : List Int,y_ = (ba6.take ((k3) : Int).toNat):= ⟨_,rfl⟩
                replace H : (if 0 ≤ (wrap64 ((d0.length : Int) - 1)) then (if (wrap64 ((d0.length : Int) - 1)) ≤ (d0.length : Int) then (some (o5,(ga1.take ((wrap64 ((d0.length : Int) - 1)) : Int).toNat),k0,wrap64 (v3 + m6),true)) else (none)) else (none)) = some (r1,r2,r3,r4,r5):= by first|(rw [k7];with_reducible exact H)|(have H2_:= (Option.bind_some _ _).symm.trans H;rw [k7];with_reducible exact H2_)|(have H2_:= (Option.bind_some _ _).symm.trans H;with_reducible exact H2_)|with_reducible exact H|(rw [k7];exact H)|exact H
                have ba8:= mk k7
                clear k7
                obtain ⟨o6,b8⟩ : ∃ j_ : Int,(wrap64 ((d0.length : Int) - 1)) = j_:= ⟨_,rfl⟩
                replace H : (if 0 ≤ (o6) then (if (o6) ≤ (d0.length : Int) then (some (o5,(ga1.take ((o6) : Int).toNat),k0,wrap64 (v3 + m6),true)) else (none)) else (none)) = some (r1,r2,r3,r4,r5):= by first|(rw [b8] at H;exact H)|(simp only [b8] at H ⊢;exact H)
                (try rw [b8] at A83)
                have sb5 : (IntKind.i64.wrap ((d0.length : Int) - 1)) = o6:= (i64_w _).trans b8
                by_cases c86 : 0 ≤ (o6)
                ·rw [if_pos c86] at H
                 have jc3:= eq_true c86
                 have gc3 : decide (0 ≤ (o6)) = true:= decide_eq_true c86
                 clear c86
                 by_cases c87 : (o6) ≤ (d0.length : Int)
                 ·rw [if_pos c87] at H
                  have dc3:= eq_true c87
                  have bc3 : decide ((o6) ≤ (d0.length : Int)) = true:= decide_eq_true c87
                  clear c87
                  obtain ⟨ka0,j7⟩ : ∃ y_ : List Int,y_ = (ga1.take ((o6) : Int).toNat):= ⟨_,rfl⟩
                  replace H : (some (o5,ka0,k0,wrap64 (v3 + m6),true)) = some (r1,r2,r3,r4,r5):= by first|(rw [j7];with_reducible exact H)|(have H2_:= (Option.bind_some _ _).symm.trans H;rw [j7];with_reducible exact H2_)|(have H2_:= (Option.bind_some _ _).symm.trans H;with_reducible exact H2_)|with_reducible exact H|(rw [j7];exact H)|exact H
                  have aa8:= mk j7
                  clear j7
                  simp only [Option.some.injEq,Prod.mk.injEq] at H
                  obtain ⟨rfl,rfl,rfl,rfl,rfl⟩:= H
                  have dc0:= m4.out
                  have db9:= g3.out
                  have bc0:= k4.out
                  have bb9:= o2.out
                  have ab3 : wr.cell? ⟨o1,0,none⟩ = some (a4):= (blk_cell j1.out 0).trans rfl
                  have zb2 : wr.cell? ⟨o1,1,none⟩ = some (z3):= (blk_cell j1.out 1).trans rfl
                  have yb2 : wr.cell? ⟨o1,2,none⟩ = some (z4):= (blk_cell j1.out 2).trans rfl
                  have zb1:= blk_frozen j1.out 0
                  have yb1:= blk_frozen j1.out 1
                  have vb1:= blk_frozen j1.out 2
                  obtain ⟨qa0,oa0,qc1⟩:= Kd.R_slice o0.out
                  subst qc1
                  obtain ⟨zc8,m5,oc1⟩:= Kd.R_slice d1.out
                  subst oc1
                  have mb1 : 0 ≤ ((k3) : Int):= of_decide_eq_true (by first|(with_reducible assumption)|assumption)
                  have yb0 : (k3) < (m0.length : Int):= of_decide_eq_true (by first|(with_reducible assumption)|assumption)
                  obtain ⟨bc5,qc2,sa2⟩:= Kd.at_int (Kd.R_reads' d1.out).2.2 (k3) mb1 yb0
                  cases qc2
                  replace mb1:= eq_true mb1
                  replace yb0:= eq_true yb0
                  have p79 : 0 ≤ (j2 : Int):= of_decide_eq_true (by first|(with_reducible assumption)|assumption)
                  have q79 : (j2 : Int) < ((m0.length : Int) : Int):= of_decide_eq_true (by first|(with_reducible assumption)|assumption)
                  obtain ⟨k5,ac7,qb7,gb7,dc1,kc7,bb8⟩:= Kd.R_form d1.out (by omega)
                  (first|cases qb7|(injection qb7 with ea_ en_ ec_;(first|subst ea_|(injection ea_ with ea_;subst ea_));subst ec_;clear en_))
                  have qc8:= mk gb7
                  have gc8:= mk bb8
                  clear gb7 dc1 bb8
                  (first|simp only [add_plain] at sa2|skip)
                  obtain ⟨db5,jb6⟩:= Kd.R_celln 0 d1.out (j2 : Int) p79 q79
                  replace p79:= eq_true p79
                  replace q79:= eq_true q79
                  have ac8:= Kd.R_putg d1.out (j2 : Int) (rd m0 (k3))
                  go_wp2_with (first|((with_reducible refine gate_callee (f:= 29) rfl ?_);obtain ⟨yc8,z5,mc1⟩:= Kd.R_slice z0.out;subst mc1;have kb1 : 0 ≤ ((k3) : Int):= of_decide_eq_true (by first|(with_reducible assumption)|assumption);have vb0 : (k3) < (d0.length : Int):= of_decide_eq_true (by first|(with_reducible assumption)|assumption);obtain ⟨ac5,oc2,qa2⟩:= Kd.at_int (Kd.R_reads' z0.out).2.2 (k3) kb1 vb0;cases oc2;replace kb1:= eq_true kb1;replace vb0:= eq_true vb0;have p82 : 0 ≤ (j2 : Int):= of_decide_eq_true (by first|(with_reducible assumption)|assumption);have q82 : (j2 : Int) < ((d0.length : Int) : Int):= of_decide_eq_true (by first|(with_reducible assumption)|assumption);obtain ⟨v5,zc6,ob7,db7,bc1,jc7,ab8⟩:= Kd.R_form z0.out (by omega);(first|cases ob7|(injection ob7 with ea_ en_ ec_;(first|subst ea_|(injection ea_ with ea_;subst ea_));subst ec_;clear en_));have oc8:= mk db7;have dc8:= mk ab8;clear db7 bc1 ab8;(first|simp only [add_plain] at qa2|skip);obtain ⟨bb5,gb6⟩:= Kd.R_celln 0 z0.out (j2 : Int) p82 q82;replace p82:= eq_true p82;replace q82:= eq_true q82;refine goesL_ (some 72) rfl rfl Try.func29 (by kernel_rfl) rfl #[.pointer (some ⟨o1,0,none⟩),.int .i64 k3,.int .i64 j2] rfl (by (try simp only [List.map_toArray,List.map_cons,List.map_nil]);first|done|(simp only [d8];rfl)|rfl|(simp only [List.length_drop,List.length_take];rfl)) ?_;(with_reducible refine (spec_l10Move.callsS w _ o1 (.slice (some ⟨k5,0,none⟩) m0.length m5) (.slice (some ⟨v5,0,none⟩) d0.length z5) (.slice qa0 k0.length oa0) m0 d0 _ j2 k3 m6 (by repeat (first|(with_reducible first|exact HB.out|apply below_alloc|apply pw_below_drewN|apply below_drew1|refine below_set ?_ d3.out|refine below_set ?_ j3.out|refine below_set ?_ s5.out)|exact HB.out)) ⟨ub j1.out,s5.out,up d1.out,up z0.out,up o0.out⟩ (show 0 ≤ (j2 : Int) from (of_decide_eq_true (by first|(with_reducible assumption)|assumption))) (show (j2 : Int) < (m0.length : Int) from (of_decide_eq_true (by first|(with_reducible assumption)|assumption))) (show (j2 : Int) < (d0.length : Int) from (of_decide_eq_true (by first|(with_reducible assumption)|assumption))) (show 0 ≤ (k3 : Int) from (of_decide_eq_true (by first|(with_reducible assumption)|assumption))) (show (k3 : Int) < (m0.length : Int) from (of_decide_eq_true (by first|(with_reducible assumption)|assumption))) (show (k3 : Int) < (d0.length : Int) from (of_decide_eq_true (by first|(with_reducible assumption)|assumption))) A83.out).mono ?_);rintro e w99 ⟨rfl,hcs,hb,hfar⟩;refine ⟨_,rfl,?_⟩;have n0_:= mk (show Kd.R (Kd.int .i64) 3 w99 w.heap.size (fun k_ => True ∧ some k_ ≠ (.slice (some ⟨v5,0,none⟩) d0.length z5 : Value).ownBlock) (.slice (some ⟨k5,0,none⟩) m0.length m5) ba6 from by rw [ga8.out];exact Kd.R_mono hcs.r0 (fun _ hk => ⟨trivial,hk⟩));have n1_:= mk (show Kd.R (Kd.int .i64) 3 w99 w.heap.size (fun k_ => some k_ ≠ (.slice (some ⟨k5,0,none⟩) m0.length m5 : Value).ownBlock) (.slice (some ⟨v5,0,none⟩) d0.length z5) ga1 from by rw [da8.out];exact hcs.r1);have n2_:= mk (hcs.r2);have n3_:= mk (hfar.at (ub s0.out) (by decide));have n4_:= mk (hfar.at (ub m1.out) (by decide));have n5_:= mk (hcs.blk);have n6_:= mk (hb);have lyy178_ : ba6.length = m0.length:= (by rw [ga8.out,List.length_set]);have lyy180_ : ga1.length = d0.length:= (by rw [da8.out,List.length_set]);clear d1;clear z0;clear o0;clear s0;clear m1;clear j1;clear HB;have d1:= n0_;have z0:= n1_;have o0:= n2_;have s0:= n3_;have m1:= n4_;have j1:= n5_;have HB:= n6_;clear n0_ n1_ n2_ n3_ n4_ n5_ n6_;(try clear hb);(try clear hb2);(try clear hcs);(try clear hfar);have jb0 : w99.cell? ⟨o1,0,none⟩ = some (.slice (some ⟨k5,0,none⟩) m0.length m5):= (blk_cell j1.out 0).trans rfl;have gb0 : w99.cell? ⟨o1,1,none⟩ = some (.slice (some ⟨v5,0,none⟩) d0.length z5):= (blk_cell j1.out 1).trans rfl;have db0 : w99.cell? ⟨o1,2,none⟩ = some (.slice qa0 k0.length oa0):= (blk_cell j1.out 2).trans rfl;have qa9:= blk_frozen j1.out 0;have oa9:= blk_frozen j1.out 1;have ma9:= blk_frozen j1.out 2;have gb1 : ((k3) : Int) ≤ ((m0.length : Int) : Int):= of_decide_eq_true (by first|(with_reducible assumption)|assumption);obtain ⟨zb8,sa1,_,ga7,_⟩:= info_parts info3;have oa5:= cut_to (P:= Try.prog) 22 3 .i64 Try.underlying22 sa1 (some ⟨k5,0,none⟩) m0.length m5 (k3) (of_decide_eq_true (by first|(with_reducible assumption)|assumption)) gb1 (Kd.R_reads' d1.out).2.1;have za0:= Kd.R_take (m:= ((k3) : Int).toNat) d1.out (by omega);have aa7 : o5.length = ((k3) : Int).toNat:= (by rw [ba8.out,List.length_take];omega);rw [← ba8.out] at za0;rw [← aa7] at za0 oa5;clear aa7 sa1 ga7 d1;have aa1:= mk za0;clear za0;replace gb1:= eq_true gb1)|((with_reducible refine gate_store (t:= 22) (p:= 81) rfl ?_);refine store_event (t:= 22) (p:= 81) (v:= ?vo_w102) (w1:= (w99.setCell ⟨o1,0,none⟩ (.slice (some ⟨k5,0,none⟩) o5.length m5))) ?hg ?ho ?hn ?hr ?_;(case ho => rfl);(case hg => rfl);(case hn => rfl);(case hr => first|(go_simp;done)|(go_simp;rfl));intro k6 hw;have n0_ : Aside0 (Kd.R (Kd.int .i64) 3 k6 w.heap.size (fun k_ => some k_ ≠ (.slice (some ⟨v5,0,none⟩) d0.length z5 : Value).ownBlock) (.slice (some ⟨k5,0,none⟩) o5.length m5) o5):= ⟨(by rw [hw];exact (by exact up (Kd.R_mono (Kd.R_far (p:= ⟨o1,0,none⟩) (Kd.R_types aa1.out j1.out (by decide)) (fun _ hk => hk.2) (.slice (some ⟨k5,0,none⟩) o5.length m5)) (fun _ hk => by first|exact hk.1.2|(revert hk;simp only [and_imp];intros;(repeat' (refine And.intro ?_ ?_)) <;> assumption)))))⟩;have n1_ : Aside0 (Kd.R (Kd.int .i64) 3 k6 w.heap.size (fun k_ => some k_ ≠ (.slice (some ⟨k5,0,none⟩) o5.length m5 : Value).ownBlock) (.slice (some ⟨v5,0,none⟩) d0.length z5) ga1):= ⟨(by rw [hw];exact (by exact up (Kd.R_mono (Kd.R_far (p:= ⟨o1,0,none⟩) (Kd.R_types z0.out j1.out (by decide)) (fun _ hk => hk.2) (.slice (some ⟨k5,0,none⟩) o5.length m5)) (fun _ hk => hk.1))))⟩;have n2_ : Aside0 (Kd.R k50 50 k6 w.heap.size (fun _ => True) (.slice qa0 k0.length oa0) k0):= ⟨(by rw [hw];exact (by exact up (Kd.R_mono (Kd.R_far (p:= ⟨o1,0,none⟩) (Kd.R_types o0.out j1.out (by decide)) (fun _ hk => hk.2) (.slice (some ⟨k5,0,none⟩) o5.length m5)) (fun _ hk => trivial))))⟩;have n3_ : Aside0 (k6.heap[b2]? = some (.cells #[.slice (some q6) g2.length j4,.slice s4 s2.length g4,.slice q4 q2.length d4] 29 (0,0))):= ⟨(by rw [hw];exact (by (with_reducible repeat (first|refine blk_drewN ?_ _|refine blk_drew ?_|refine blk_alloc ?_ _));refine blk_far ?_ g3.out _;(with_reducible repeat (first|refine blk_drewN ?_ _|refine blk_drew ?_|refine blk_alloc ?_ _));exact s0.out))⟩;have n4_ : Aside0 (k6.heap[z1]? = some (.cells #[.slice none 0 0,.slice none 0 0,.slice none 0 0] 29 (0,0))):= ⟨(by rw [hw];exact (by (with_reducible repeat (first|refine blk_drewN ?_ _|refine blk_drew ?_|refine blk_alloc ?_ _));refine blk_far ?_ o2.out _;(with_reducible repeat (first|refine blk_drewN ?_ _|refine blk_drew ?_|refine blk_alloc ?_ _));exact m1.out))⟩;have n5_ : Aside0 (k6.heap[o1]? = some (.cells #[.slice (some ⟨k5,0,none⟩) o5.length m5,.slice (some ⟨v5,0,none⟩) d0.length z5,.slice qa0 k0.length oa0] 29 (0,0))):= ⟨(by rw [hw];exact (by (with_reducible repeat (first|refine blk_drewN ?_ _|refine blk_drew ?_|refine blk_alloc ?_ _));refine blk_put (cs:= #[.slice (some ⟨k5,0,none⟩) m0.length m5,.slice (some ⟨v5,0,none⟩) d0.length z5,.slice qa0 k0.length oa0]) ?_ 0 _ rfl;(with_reducible repeat (first|refine blk_drewN ?_ _|refine blk_drew ?_|refine blk_alloc ?_ _));exact j1.out))⟩;have n6_ : Aside0 (Below w.heap.size w k6):= ⟨(by rw [hw];exact (by repeat (first|(with_reducible first|exact HB.out|apply below_alloc|apply pw_below_drewN|apply below_drew1|refine below_set ?_ d3.out|refine below_set ?_ j3.out|refine below_set ?_ s5.out)|exact HB.out)))⟩;clear hw;clear aa1;clear z0;clear o0;clear s0;clear m1;clear j1;clear HB;have aa1:= n0_;have z0:= n1_;have o0:= n2_;have s0:= n3_;have m1:= n4_;have j1:= n5_;have HB:= n6_;clear n0_ n1_ n2_ n3_ n4_ n5_ n6_;have bb0 : k6.cell? ⟨o1,0,none⟩ = some (.slice (some ⟨k5,0,none⟩) o5.length m5):= (blk_cell j1.out 0).trans rfl;have ab0 : k6.cell? ⟨o1,1,none⟩ = some (.slice (some ⟨v5,0,none⟩) d0.length z5):= (blk_cell j1.out 1).trans rfl;have za9 : k6.cell? ⟨o1,2,none⟩ = some (.slice qa0 k0.length oa0):= (blk_cell j1.out 2).trans rfl;have ka9:= blk_frozen j1.out 0;have ja9:= blk_frozen j1.out 1;have ga9:= blk_frozen j1.out 2;have db1 : ((o6) : Int) ≤ ((d0.length : Int) : Int):= of_decide_eq_true (by first|(with_reducible assumption)|assumption);obtain ⟨yb8,qa1,_,da7,_⟩:= info_parts info3;have ma5:= cut_to (P:= Try.prog) 22 3 .i64 Try.underlying22 qa1 (some ⟨v5,0,none⟩) d0.length z5 (o6) (of_decide_eq_true (by first|(with_reducible assumption)|assumption)) db1 (Kd.R_reads' z0.out).2.1;have ya0:= Kd.R_take (m:= ((o6) : Int).toNat) z0.out (by omega);have za6 : ka0.length = ((o6) : Int).toNat:= (by rw [aa8.out,List.length_take];omega);rw [← aa8.out] at ya0;rw [← za6] at ya0 ma5;clear za6 qa1 da7 z0;have yb4:= mk ya0;clear ya0;replace db1:= eq_true db1;have qb5:= q3.out;have ob5:= s3.out;have ya9 : k6.cell? ⟨z1,0,none⟩ = some (.slice none 0 0):= (blk_cell m1.out 0).trans rfl;have va9 : k6.cell? ⟨z1,1,none⟩ = some (.slice none 0 0):= (blk_cell m1.out 1).trans rfl;have sa9 : k6.cell? ⟨z1,2,none⟩ = some (.slice none 0 0):= (blk_cell m1.out 2).trans rfl;have da9:= blk_frozen m1.out 0;have ba9:= blk_frozen m1.out 1;have aa9:= blk_frozen m1.out 2))
                  refine bodyPost_ret (results_ctt rfl _ _ z1 29 #[.slice (some ⟨k5,0,none⟩) o5.length m5,.slice (some ⟨v5,0,none⟩) ka0.length z5,.slice qa0 k0.length oa0] (0,0) _ rfl (by (with_reducible repeat (first|refine blk_drewN ?_ _|refine blk_drew ?_|refine blk_alloc ?_ _));refine blk_put (cs:= #[.slice (some ⟨k5,0,none⟩) o5.length m5,.slice (some ⟨v5,0,none⟩) ka0.length z5,.slice none 0 0]) ?_ 2 _ rfl;(with_reducible repeat (first|refine blk_drewN ?_ _|refine blk_drew ?_|refine blk_alloc ?_ _));refine blk_put (cs:= #[.slice (some ⟨k5,0,none⟩) o5.length m5,.slice none 0 0,.slice none 0 0]) ?_ 1 _ rfl;(with_reducible repeat (first|refine blk_drewN ?_ _|refine blk_drew ?_|refine blk_alloc ?_ _));refine blk_put (cs:= #[.slice none 0 0,.slice none 0 0,.slice none 0 0]) ?_ 0 _ rfl;(with_reducible repeat (first|refine blk_drewN ?_ _|refine blk_drew ?_|refine blk_alloc ?_ _));refine blk_far ?_ o2.out _;(with_reducible repeat (first|refine blk_drewN ?_ _|refine blk_drew ?_|refine blk_alloc ?_ _));exact m1.out) Try.underlying29 rfl (by kernel_rfl)) rfl ?_
                  exact ⟨_,_,_,by first|rfl|(simp [errW_none,errW_some] <;> rfl)|(simp only [← d8,← b8];first|rfl|(simp [errW_none,errW_some] <;> rfl))|(simp [*,errW_none,errW_some] <;> rfl),by exact up (Kd.R_mono (Kd.R_far (p:= ⟨z1,2,none⟩) (Kd.R_far (p:= ⟨z1,1,none⟩) (Kd.R_far (p:= ⟨z1,0,none⟩) (Kd.R_far (p:= ⟨o1,1,none⟩) (Kd.R_types (Kd.R_types aa1.out j1.out (by decide)) m1.out (by decide)) (fun _ hk => by first|exact hk.1.2|(revert hk;simp only [and_imp];intros;(repeat' (refine And.intro ?_ ?_)) <;> assumption)) (.slice (some ⟨v5,0,none⟩) ka0.length z5)) (fun _ hk => hk.2) (.slice (some ⟨k5,0,none⟩) o5.length m5)) (fun _ hk => hk.2) (.slice (some ⟨v5,0,none⟩) ka0.length z5)) (fun _ hk => hk.2) (.slice qa0 k0.length oa0)) (fun _ hk => by first|exact hk.1.1|(revert hk;simp only [and_imp];intros;(repeat' (refine And.intro ?_ ?_)) <;> assumption))),by exact up (Kd.R_mono (Kd.R_far (p:= ⟨z1,2,none⟩) (Kd.R_far (p:= ⟨z1,1,none⟩) (Kd.R_far (p:= ⟨z1,0,none⟩) (Kd.R_far (p:= ⟨o1,1,none⟩) (Kd.R_types (Kd.R_types yb4.out j1.out (by decide)) m1.out (by decide)) (fun _ hk => by first|exact hk.1.2|(revert hk;simp only [and_imp];intros;(repeat' (refine And.intro ?_ ?_)) <;> assumption)) (.slice (some ⟨v5,0,none⟩) ka0.length z5)) (fun _ hk => hk.2) (.slice (some ⟨k5,0,none⟩) o5.length m5)) (fun _ hk => hk.2) (.slice (some ⟨v5,0,none⟩) ka0.length z5)) (fun _ hk => hk.2) (.slice qa0 k0.length oa0)) (fun _ hk => by first|exact hk.1.1|(revert hk;simp only [and_imp];intros;(repeat' (refine And.intro ?_ ?_)) <;> assumption))),by exact up (Kd.R_mono (Kd.R_far (p:= ⟨z1,2,none⟩) (Kd.R_far (p:= ⟨z1,1,none⟩) (Kd.R_far (p:= ⟨z1,0,none⟩) (Kd.R_far (p:= ⟨o1,1,none⟩) (Kd.R_types (Kd.R_types o0.out j1.out (by decide)) m1.out (by decide)) (fun _ hk => by first|exact hk.1.2|(revert hk;simp only [and_imp];intros;(repeat' (refine And.intro ?_ ?_)) <;> assumption)) (.slice (some ⟨v5,0,none⟩) ka0.length z5)) (fun _ hk => hk.2) (.slice (some ⟨k5,0,none⟩) o5.length m5)) (fun _ hk => hk.2) (.slice (some ⟨v5,0,none⟩) ka0.length z5)) (fun _ hk => hk.2) (.slice qa0 k0.length oa0)) (fun _ hk => trivial)),by repeat (first|(with_reducible first|exact HB.out|apply below_alloc|apply pw_below_drewN|apply below_drew1|refine below_set ?_ d3.out|refine below_set ?_ j3.out|refine below_set ?_ s5.out)|exact HB.out)⟩
                 ·rw [if_neg c87] at H
                  exact absurd H (by simp)
                ·rw [if_neg c86] at H
                 exact absurd H (by simp)
               ·rw [if_neg c84] at H
                exact absurd H (by simp)
              ·rw [if_neg c81] at H
               exact absurd H (by simp)
             ·rw [if_neg c80] at H
              exact absurd H (by simp)
            ·rw [if_neg c78] at H
             exact absurd H (by simp)
           ·rw [if_neg c77] at H
            exact absurd H (by simp)
          ·rw [if_neg c76] at H
           exact absurd H (by simp)
         ·rw [if_neg c75] at H
          exact absurd H (by simp)
     ·rw [if_neg c29] at H
      exact absurd H (by simp)
    ·rw [if_neg c28] at H
     exact absurd H (by simp)

/-! ### laws_toIntS: function 30 -/
def laws_toIntS.l0 : Nat → List Int → List Int → Int → Option (List Int)
  | 0, _, _, _ => none
  | k + 1, x0, x3, x4 => if x4 < (x0.length : Int) then (if 0 ≤ x4 then (if x4 < (x3.length : Int) then (laws_toIntS.l0 k x0 (x3.set (x4 : Int).toNat (rd x0 x4)) (wrap64 (x4 + 1))) else (none)) else (none)) else (some x3)
def laws_toIntS.f (k : Nat) (l0 : List Int) : Option (List Int) := if 0 ≤ (l0.length : Int) then (if ((l0.length : Int) : Int).toNat ≤ 35184372088832 then (laws_toIntS.l0 k l0 (List.replicate ((l0.length : Int) : Int).toNat 0) 0) else (none)) else (none)
theorem laws_toIntS.mono_l : ∀ k, (∀ y0 y1 y2, LeO (laws_toIntS.l0 k y0 y1 y2) (laws_toIntS.l0 (k + 1) y0 y1 y2))
  | 0 => fun _ _ _ r h => by simp [laws_toIntS.l0] at h
  | k + 1 => by
    have ih0 := laws_toIntS.mono_l k
    · intro y0 y1 y2
      unfold laws_toIntS.l0
      repeat' first
      | (with_reducible exact ih0 _ _ _)
      | (with_reducible exact LeO.refl _)
      | (with_reducible exact LeO.none _)
      | (with_reducible refine LeO.ite ?_ ?_)
      | (with_reducible refine LeO.bind ?_ (fun _ => ?_))
      | exact ih0 _ _ _
      | exact LeO.none _
      | refine LeO.ite ?_ ?_
      | refine LeO.bind ?_ (fun _ => ?_)
theorem laws_toIntS.mono : ∀ a0 k, LeO (laws_toIntS.f k a0) (laws_toIntS.f (k + 1) a0) := by
  intro a0 k
  have ih0:= laws_toIntS.mono_l k
  unfold laws_toIntS.f
  repeat' first
     |(with_reducible exact ih0 _ _ _)
     |(with_reducible exact LeO.refl _)
     |(with_reducible exact LeO.none _)
     |(with_reducible refine LeO.ite ?_ ?_)
     |(with_reducible refine LeO.bind ?_ (fun _ => ?_))
     |exact ih0 _ _ _
     |exact LeO.none _
     |refine LeO.ite ?_ ?_
     |refine LeO.bind ?_ (fun _ => ?_)
set_option maxHeartbeats 8000000 in
set_option maxRecDepth 100000 in
theorem laws_toIntS.calls (k : Nat) (A0 : Option Addr) (c0 : Nat) (l0 : List Int) (r : List Int) (w : World) (hr0 : Kd.C (Kd.int .i64) w A0 l0.length l0) (hc0 : l0.length ≤ c0) (h : laws_toIntS.f k l0 = some r) :
    Calls Try.prog 30 #[.slice A0 l0.length c0] w fun e w' => ∃ v0_ : Value, e = .returned (v0_) ∧ Kd.R (Kd.int .i64) 3 w' w.heap.size (fun _ => True) v0_ r ∧ Below w.heap.size w w' := by
  have HR0:= mk hr0
  have HC0:= mk hc0
  clear hr0 hc0
  have HB:= mk (Below.refl w.heap.size w)
  have H : (if 0 ≤ (l0.length : Int) then (if ((l0.length : Int) : Int).toNat ≤ 35184372088832 then (laws_toIntS.l0 k l0 (List.replicate ((l0.length : Int) : Int).toNat 0) 0) else (none)) else (none)) = some r:= h
  clear h
  by_cases c2 : 0 ≤ (l0.length : Int)
  · rw [if_pos c2] at H
    have yc4:= eq_true c2
    have vc4 : decide (0 ≤ (l0.length : Int)) = true:= decide_eq_true c2
    clear c2
    by_cases c3 : ((l0.length : Int) : Int).toNat ≤ 35184372088832
    · rw [if_pos c3] at H
      have sc4:= eq_true c3
      have qc4 : decide (((l0.length : Int) : Int).toNat ≤ 35184372088832) = true:= decide_eq_true c3
      clear c3
      obtain ⟨ab5,g7⟩ : ∃ y_ : List Int,y_ = (List.replicate ((l0.length : Int) : Int).toNat 0):= ⟨_,rfl⟩
      replace H : (laws_toIntS.l0 k l0 ab5 0) = some r:= by first|(rw [g7];with_reducible exact H)|(have H2_:= (Option.bind_some _ _).symm.trans H;rw [g7];with_reducible exact H2_)|(have H2_:= (Option.bind_some _ _).symm.trans H;with_reducible exact H2_)|with_reducible exact H|(rw [g7];exact H)|exact H
      have za7:= mk g7
      clear g7
      have H':= mk H
      clear H
      go_enter Try.func30,Try.ntmps30
      go_wp2_with (first|((with_reducible refine gate_dst (N:= 7) rfl ?_);refine Kd.R_make (Kd.int .i64) _ 3 rfl (N:= 7) rfl 22 _ _ rfl (l0.length : Int) rfl rfl Try.underlying22 (.int .i64 0) 8 info3 rfl (by decide) (by omega) 0 (ok:= fun _ => True) (okp:= fun _ => True) rfl (fun _ hk => hk) trivial (of_decide_eq_true (by first|(with_reducible assumption)|assumption)) (Nat.le_trans (Nat.mul_le_mul_right _ (of_decide_eq_true (by first|(with_reducible assumption)|assumption) : (l0.length : Int).toNat ≤ 35184372088832)) (by omega)) (Below.refl _ _) (Nat.le_refl _) ?_;intro vb8 w4 ho5 hb hg_ hnew_;clear hg_ hnew_;(first|rw [← za7.out] at ho5|(simp only [Int.reduceToNat] at ho5;rw [← za7.out] at ho5));have n0_:= mk (Kd.R_lower ho5 (below_size (by repeat (first|(with_reducible first|exact HB.out|apply below_alloc|apply pw_below_drewN|apply below_drew1)|exact HB.out))));have n1_:= mk (below_step (by repeat (first|(with_reducible first|exact HB.out|apply below_alloc|apply pw_below_drewN|apply below_drew1)|exact HB.out)) hb);clear HB;have vb4:= n0_;have HB:= n1_;clear n0_ n1_;clear hb ho5))
      go_loopg [4] k (fun kq v4 w' => ∃ (ja1 : List Int) (d5 : Int),v4 = .int .i64 d5 ∧ Aside0 (laws_toIntS.l0 kq l0 ja1 d5 = some r) ∧ Aside0 (kq ≤ k) ∧ Aside0 (Kd.R (Kd.int .i64) 3 w' w.heap.size (fun _ => True) vb8 ja1) ∧ Aside0 (Below w.heap.size w w'))
      case atStart => exact ⟨(ab5),(0),(by first|rfl|(simp;done)|(simp [*];done)),H',⟨Nat.le_refl _⟩,⟨up vb4.out⟩,⟨by repeat (first|(with_reducible first|exact HB.out|apply below_alloc|apply pw_below_drewN|apply below_drew1)|exact HB.out)⟩⟩
      case round =>
        clear H'
        try clear c2
        try clear yc4
        try clear vc4
        try clear p2
        try clear c3
        try clear sc4
        try clear qc4
        obtain ⟨ja1,d5,rfl,HA,HK1,ya5,HB⟩:= hrel
        cases gk with
       |zero => exact absurd HA.out (by simp [laws_toIntS.l0])
       |succ k1 =>
          have H:= HA.out
          clear HA
          simp only [laws_toIntS.l0] at H
          by_cases c6 : d5 < (l0.length : Int)
          · rw [if_pos c6] at H
            have ac4 : decide (d5 < (l0.length : Int)) = true:= decide_eq_true c6
            clear c6
            by_cases c7 : 0 ≤ d5
            · rw [if_pos c7] at H
              have zc7 : decide (0 ≤ d5) = true:= decide_eq_true c7
              clear c7
              by_cases c8 : d5 < (ja1.length : Int)
              · rw [if_pos c8] at H
                have yc7 : decide (d5 < (ja1.length : Int)) = true:= decide_eq_true c8
                clear c8
                obtain ⟨ob0,d7⟩ : ∃ y_ : List Int,y_ = (ja1.set (d5 : Int).toNat (rd l0 d5)):= ⟨_,rfl⟩
                replace H : (laws_toIntS.l0 k1 l0 ob0 (wrap64 (d5 + 1))) = some r:= by first|(rw [d7];with_reducible exact H)|(have H2_:= (Option.bind_some _ _).symm.trans H;rw [d7];with_reducible exact H2_)|(have H2_:= (Option.bind_some _ _).symm.trans H;with_reducible exact H2_)|with_reducible exact H|(rw [d7];exact H)|exact H
                have mb4:= mk d7
                clear d7
                have H':= mk H
                clear H
                have jb1 : 0 ≤ (d5 : Int):= of_decide_eq_true (by first|(with_reducible assumption)|assumption)
                have sb0 : d5 < (l0.length : Int):= of_decide_eq_true (by first|(with_reducible assumption)|assumption)
                obtain ⟨zc4,mc2,b6⟩:= Kd.at_int HR0.out d5 jb1 sb0
                cases mc2
                replace b6:= (HB.out.cell (World.block_lt_of_cell? w _ b6)).trans b6
                replace jb1:= eq_true jb1
                replace sb0:= eq_true sb0
                have p9 : 0 ≤ (d5 : Int):= of_decide_eq_true (by first|(with_reducible assumption)|assumption)
                have q9 : (d5 : Int) < ((ja1.length : Int) : Int):= of_decide_eq_true (by first|(with_reducible assumption)|assumption)
                obtain ⟨go9,co9,eo9,gb9,gl9,cl9,HG9⟩:= Kd.R_form ya5.out (by omega)
                (first|cases eo9|(injection eo9 with ea_ en_ ec_;(first|subst ea_|(injection ea_ with ea_;subst ea_));subst ec_;clear en_))
                have GB9:= mk gb9
                have GG9:= mk HG9
                clear gb9 gl9 HG9
                obtain ⟨ab9,ac1⟩:= Kd.R_celln 0 ya5.out (d5 : Int) p9 q9
                replace p9:= eq_true p9
                replace q9:= eq_true q9
                have sb4:= Kd.R_putg ya5.out (d5 : Int) (rd l0 d5)
                go_wp2_with (first|((with_reducible refine gate_store (t:= 3) (p:= 20) rfl ?_);refine store_event (t:= 3) (p:= 20) (v:= ?vo_w11) (w1:= (wr.setCell ⟨go9,(d5 : Int).toNat,none⟩ (.int .i64 (rd l0 d5)))) ?hg ?ho ?hn ?hr ?_;(case ho => rfl);(case hg => rfl);(case hn => rfl);(case hr => first|(go_simp;done)|(go_simp;rfl));intro w11 hw;have hg : wr.grownBy w11 (some go9):= (by rw [hw];exact sb4.2);have hp_ : Kd.R (Kd.int .i64) 3 w11 w.heap.size (fun _ => True) (.slice (some ⟨go9,0,none⟩) ja1.length co9) ob0:= (by rw [hw,mb4.out];exact sb4.1);clear sb4;have n0_:= mk (hp_);have n1_:= mk ((by rw [hw];exact below_set (HB.out) GB9.out : Below w.heap.size w w11));clear ya5;clear HB;have ya5:= n0_;have HB:= n1_;clear n0_ n1_;clear hg hw hp_))
                go_roundg k1
                case measure => have:= HK1.out;omega
                case rel => exact ⟨(ob0),(wrap64 (d5 + 1)),(by first|rfl|(simp;done)|(simp [*];done)),H',⟨by have:= HK1.out;omega⟩,⟨up ya5.out⟩,⟨by repeat (first|(with_reducible first|exact HB.out|apply below_alloc|apply pw_below_drewN|apply below_drew1)|exact HB.out)⟩⟩
              · rw [if_neg c8] at H
                exact absurd H (by simp)
            · rw [if_neg c7] at H
              exact absurd H (by simp)
          · rw [if_neg c6] at H
            have ac4 : decide (d5 < (l0.length : Int)) = false:= decide_eq_false c6
            clear c6
            obtain rfl:= Option.some.inj H
            go_wp2
            go_ret
            exact ⟨_,by first|rfl|(simp [errW_none,errW_some] <;> rfl)|(simp [*,errW_none,errW_some] <;> rfl),up ya5.out,by repeat (first|(with_reducible first|exact HB.out|apply below_alloc|apply pw_below_drewN|apply below_drew1)|exact HB.out)⟩
    · rw [if_neg c3] at H
      exact absurd H (by simp)
  · rw [if_neg c2] at H
    exact absurd H (by simp)

/-! ### laws_toPivot: function 58 -/
def laws_toPivot.f (a0_0 : Int) (a0_1 : Int) : Option (Int × Int) := some (a0_0, a0_1)
set_option maxHeartbeats 8000000 in
set_option maxRecDepth 100000 in
theorem laws_toPivot.calls (a0_0 : Int) (a0_1 : Int) (r1 : Int) (r2 : Int) (w : World) (h : laws_toPivot.f a0_0 a0_1 = some (r1, r2)) :
    Calls Try.prog 58 #[.agg #[.int .i64 a0_0, .int .i64 a0_1]] w fun e w' => e = .returned (.agg #[.int .i64 r1, .int .i64 r2]) ∧ Below w.heap.size w w' := by
  have hu76:= Try.underlying76
  have hu50:= Try.underlying50
  have HB:= mk (Below.refl w.heap.size w)
  have H : (some (a0_0,a0_1)) = some (r1,r2):= h
  clear h
  simp only [Option.some.injEq,Prod.mk.injEq] at H
  obtain ⟨rfl,rfl⟩:= H
  go_enter Try.func58,Try.ntmps58
  go_wp2_with (first|((with_reducible refine gate_dst (N:= 1) rfl ?_);refine box_event ?hg (N:= 1) ?hd (cs:= #[.int .i64 a0_0,.int .i64 a0_1]) (t:= 76) ?hr ?_;(case hd => rfl);(case hg => rfl);(case hr => first|(go_simp;done)|(go_simp;rfl));intro b4 hg w2 hbox hb;have n0_:= mk (below_step (by repeat (first|(with_reducible first|exact HB.out|apply below_alloc|apply pw_below_drewN|apply below_drew1)|exact HB.out)) hb);have n1_:= mk (hbox);have n2_:= mk ((by rw [hg];exact (below_size (by repeat (first|(with_reducible first|exact HB.out|apply below_alloc|apply pw_below_drewN|apply below_drew1)|exact HB.out))) : w.heap.size ≤ b4));have n3_:= mk ((by rw [hg];exact (below_size (by repeat (first|(with_reducible first|exact HB.out|apply below_alloc|apply pw_below_drewN|apply below_drew1)|exact HB.out))) : w.heap.size ≤ b4));clear HB;have HB:= n0_;have o4:= n1_;have mc5:= n2_;have j6:= n3_;clear n0_ n1_ n2_ n3_;clear hb hbox hg)|((with_reducible refine gate_dst (N:= 2) rfl ?_);refine box_event ?hg (N:= 2) ?hd (cs:= #[.int .i64 0,.int .i64 0]) (t:= 50) ?hr ?_;(case hd => rfl);(case hg => rfl);(case hr => first|(go_simp;done)|(go_simp;rfl));intro b5 hg w3 hbox hb;have n0_:= mk (blk_below (g:= b4) (o:= .cells #[.int .i64 a0_0,.int .i64 a0_1] 76 (0,0)) (ub o4.out) hb);have n1_:= mk (below_step (by repeat (first|(with_reducible first|exact HB.out|apply below_alloc|apply pw_below_drewN|apply below_drew1|refine below_set ?_ j6.out)|exact HB.out)) hb);have n2_:= mk (hbox);have n3_:= mk ((by rw [hg];exact (below_size (by repeat (first|(with_reducible first|exact HB.out|apply below_alloc|apply pw_below_drewN|apply below_drew1|refine below_set ?_ j6.out)|exact HB.out))) : w.heap.size ≤ b5));have n4_:= mk ((by rw [hg];exact (below_size (by repeat (first|(with_reducible first|exact HB.out|apply below_alloc|apply pw_below_drewN|apply below_drew1|refine below_set ?_ j6.out)|exact HB.out))) : w.heap.size ≤ b5));have n5_:= mk ((by rw [hg];exact Nat.ne_of_lt (blk_lt (g:= b4) (o:= .cells #[.int .i64 a0_0,.int .i64 a0_1] 76 (0,0)) (ub o4.out)) : b4 ≠ b5));have n6_:= mk ((by rw [hg];exact Nat.ne_of_gt (blk_lt (g:= b4) (o:= .cells #[.int .i64 a0_0,.int .i64 a0_1] 76 (0,0)) (ub o4.out)) : b5 ≠ b4));clear o4;clear HB;have o4:= n0_;have HB:= n1_;have j5:= n2_;have kc5:= n3_;have ba1:= n4_;have s9:= n5_;have m9:= n6_;clear n0_ n1_ n2_ n3_ n4_ n5_ n6_;clear hb hbox hg)|((with_reducible refine gate_dst (N:= 3) rfl ?_);refine box_event ?hg (N:= 3) ?hd (cs:= #[.int .i64 0,.int .i64 0]) (t:= 50) ?hr ?_;(case hd => rfl);(case hg => rfl);(case hr => first|(go_simp;done)|(go_simp;rfl));intro a6 hg w4 hbox hb;have n0_:= mk (blk_below (g:= b4) (o:= .cells #[.int .i64 a0_0,.int .i64 a0_1] 76 (0,0)) (ub o4.out) hb);have n1_:= mk (blk_below (g:= b5) (o:= .cells #[.int .i64 0,.int .i64 0] 50 (0,0)) (ub j5.out) hb);have n2_:= mk (below_step (by repeat (first|(with_reducible first|exact HB.out|apply below_alloc|apply pw_below_drewN|apply below_drew1|refine below_set ?_ j6.out|refine below_set ?_ ba1.out)|exact HB.out)) hb);have n3_:= mk (hbox);have n4_:= mk ((by rw [hg];exact (below_size (by repeat (first|(with_reducible first|exact HB.out|apply below_alloc|apply pw_below_drewN|apply below_drew1|refine below_set ?_ j6.out|refine below_set ?_ ba1.out)|exact HB.out))) : w.heap.size ≤ a6));have n5_:= mk ((by rw [hg];exact (below_size (by repeat (first|(with_reducible first|exact HB.out|apply below_alloc|apply pw_below_drewN|apply below_drew1|refine below_set ?_ j6.out|refine below_set ?_ ba1.out)|exact HB.out))) : w.heap.size ≤ a6));have n6_:= mk ((by rw [hg];exact Nat.ne_of_lt (blk_lt (g:= b4) (o:= .cells #[.int .i64 a0_0,.int .i64 a0_1] 76 (0,0)) (ub o4.out)) : b4 ≠ a6));have n7_:= mk ((by rw [hg];exact Nat.ne_of_gt (blk_lt (g:= b4) (o:= .cells #[.int .i64 a0_0,.int .i64 a0_1] 76 (0,0)) (ub o4.out)) : a6 ≠ b4));have n8_:= mk ((by rw [hg];exact Nat.ne_of_lt (blk_lt (g:= b5) (o:= .cells #[.int .i64 0,.int .i64 0] 50 (0,0)) (ub j5.out)) : b5 ≠ a6));have n9_:= mk ((by rw [hg];exact Nat.ne_of_gt (blk_lt (g:= b5) (o:= .cells #[.int .i64 0,.int .i64 0] 50 (0,0)) (ub j5.out)) : a6 ≠ b5));clear o4;clear j5;clear HB;have o4:= n0_;have j5:= n1_;have HB:= n2_;have da1:= n3_;have jc5:= n4_;have zb4:= n5_;have o9:= n6_;have k9:= n7_;have g5:= n8_;have j9:= n9_;clear n0_ n1_ n2_ n3_ n4_ n5_ n6_ n7_ n8_ n9_;clear hb hbox hg;have yc6:= s9.out;have oc6:= m9.out;have vc6:= o9.out;have mc6:= k9.out;have zb6 : w4.cell? ⟨b4,0,none⟩ = some (.int .i64 a0_0):= (blk_cell o4.out 0).trans rfl;have yb6 : w4.cell? ⟨b4,1,none⟩ = some (.int .i64 a0_1):= (blk_cell o4.out 1).trans rfl;have db6:= blk_frozen o4.out 0;have bb6:= blk_frozen o4.out 1;have qc6:= j9.out;have jc6:= g5.out;have vb6 : w4.cell? ⟨a6,0,none⟩ = some (.int .i64 0):= (blk_cell da1.out 0).trans rfl;have sb6 : w4.cell? ⟨a6,1,none⟩ = some (.int .i64 0):= (blk_cell da1.out 1).trans rfl;have ab6:= blk_frozen da1.out 0;have zb5:= blk_frozen da1.out 1;have yb3 : w4.cell? ⟨b5,0,none⟩ = some (.int .i64 0):= (blk_cell j5.out 0).trans rfl;have vb3 : w4.cell? ⟨b5,1,none⟩ = some (.int .i64 0):= (blk_cell j5.out 1).trans rfl;have vb2:= blk_frozen j5.out 0;have sb2:= blk_frozen j5.out 1))
  refine bodyPost_ret (results_cell_row rfl _ _ b5 50 #[.int .i64 a0_0,.int .i64 a0_1] (0,0) _ rfl (by (with_reducible repeat (first|refine blk_drewN ?_ _|refine blk_drew ?_|refine blk_alloc ?_ _));refine blk_put (cs:= #[.int .i64 a0_0,.int .i64 0]) ?_ 1 _ rfl;(with_reducible repeat (first|refine blk_drewN ?_ _|refine blk_drew ?_|refine blk_alloc ?_ _));refine blk_put (cs:= #[.int .i64 0,.int .i64 0]) ?_ 0 _ rfl;(with_reducible repeat (first|refine blk_drewN ?_ _|refine blk_drew ?_|refine blk_alloc ?_ _));refine blk_far ?_ g5.out _;(with_reducible repeat (first|refine blk_drewN ?_ _|refine blk_drew ?_|refine blk_alloc ?_ _));refine blk_far ?_ g5.out _;(with_reducible repeat (first|refine blk_drewN ?_ _|refine blk_drew ?_|refine blk_alloc ?_ _));exact j5.out) Try.underlying50 rfl (by kernel_rfl)) rfl ?_
  exact ⟨by first|rfl|(simp [errW_none,errW_some] <;> rfl)|(simp [*,errW_none,errW_some] <;> rfl),by repeat (first|(with_reducible first|exact HB.out|apply below_alloc|apply pw_below_drewN|apply below_drew1|refine below_set ?_ j6.out|refine below_set ?_ ba1.out|refine below_set ?_ zb4.out)|exact HB.out)⟩

end Go.Proofs.Ytlikcmonejefoab.PFnExactRippleDelete
