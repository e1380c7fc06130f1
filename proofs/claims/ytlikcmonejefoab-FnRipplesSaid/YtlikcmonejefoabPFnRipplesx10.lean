-- printed by a program of this session, a turned copy of the print of the kit
import Derived.Test.YtlikcmonejefoabSr
import Derived.Test.YtlikcmonejefoabPFnRipplesx0
import Derived.Test.YtlikcmonejefoabPFnRipplesx2
import Derived.Test.YtlikcmonejefoabPFnRipplesx8
import Derived.Test.YtlikcmonejefoabPFnRipplesx9
namespace Go.Proofs.Ytlikcmonejefoab.PFnRipples
open Go.RowKit Go.Proofs.YtlikcmonejefoabW.PrintWords Go.Proofs.YtlikcmonejefoabW.PrintLast Go.Proofs.YtlikcmonejefoabW.PrintMore Go.Proofs.Ytlikcmonejefoab.Sq
attribute [local go_sem] max2_int min2_int max_two min_two max_three min_three max_four min_four Giv.cell_twice   -- for this text's walks alone
set_option linter.unusedVariables false
set_option linter.unusedSimpArgs false

/-! ### impl_RippleDelete: function 9 -/
mutual
def impl_RippleDelete.j0 : Nat → Int → Bool → List Int → List Int → List (S50) → List Int → List Int → List (S50) → Option (List Int × List Int × (List (S50)) × Int × Bool)
 | 0, _, _, _, _, _, _, _, _ => none
 | k + 1, x8, x25, o4, ga7, da7, v0, j1, d1 => if x25 = true then (some (v0, j1, d1, 0, false)) else (if 0 ≤ x8 then (if x8 < (o4.length : Int) then (impl_RippleDelete.l0 k x8 (rd o4 x8) 0 (d1.length : Int) 0 v0 j1 d1) else (none)) else (none))
def impl_RippleDelete.l0 : Nat → Int → Int → Int → Int → Int → List Int → List Int → List (S50) → Option (List Int × List Int × (List (S50)) × Int × Bool)
 | 0, _, _, _, _, _, _, _, _ => none
 | k + 1, x8, x9, x10, x34, x35, v0, j1, d1 => if x35 < x34 then (if 0 ≤ x35 then (if x35 < (d1.length : Int) then (if ((rd_T50 d1 x35).f0) ≤ x9 then (impl_RippleDelete.l0 k x8 x9 x10 x34 (wrap64 (x35 + 1)) v0 j1 d1) else (if 0 ≤ (wrap64 (((rd_T50 d1 x35).f1) - 1)) then (if (wrap64 (((rd_T50 d1 x35).f1) - 1)) < (v0.length : Int) then (if 0 ≤ x8 then (if x8 < (v0.length : Int) then (if (wrap64 (((rd_T50 d1 x35).f1) - 1)) < (j1.length : Int) then (if x8 < (j1.length : Int) then ((impl_Cracker_put.f x8 (wrap64 (((rd_T50 d1 x35).f1) - 1))).bind fun s4 => (impl_RippleDelete.l0 k (wrap64 (((rd_T50 d1 x35).f1) - 1)) x9 (wrap64 (x10 + s4)) x34 (wrap64 (x35 + 1)) (v0.set (x8 : Int).toNat (rd v0 (wrap64 (((rd_T50 d1 x35).f1) - 1)))) (j1.set (x8 : Int).toNat (rd j1 (wrap64 (((rd_T50 d1 x35).f1) - 1)))) (d1.set (x35 : Int).toNat (⟨(rd_T50 d1 x35).f0, wrap64 (((rd_T50 d1 x35).f1) - 1)⟩ : S50)))) else (none)) else (none)) else (none)) else (none)) else (none)) else (none))) else (none)) else (none)) else (if 0 ≤ (wrap64 ((v0.length : Int) - 1)) then (if (wrap64 ((v0.length : Int) - 1)) < (v0.length : Int) then (if 0 ≤ x8 then (if x8 < (v0.length : Int) then (if (wrap64 ((v0.length : Int) - 1)) < (j1.length : Int) then (if x8 < (j1.length : Int) then ((impl_Cracker_put.f x8 (wrap64 ((v0.length : Int) - 1))).bind fun q4 => (if (wrap64 ((v0.length : Int) - 1)) ≤ (v0.length : Int) then (if (wrap64 ((v0.length : Int) - 1)) ≤ (j1.length : Int) then (some (((v0.set (x8 : Int).toNat (rd v0 (wrap64 ((v0.length : Int) - 1)))).take ((wrap64 ((v0.length : Int) - 1)) : Int).toNat), ((j1.set (x8 : Int).toNat (rd j1 (wrap64 ((v0.length : Int) - 1)))).take ((wrap64 ((v0.length : Int) - 1)) : Int).toNat), d1, wrap64 (x10 + q4), true)) else (none)) else (none))) else (none)) else (none)) else (none)) else (none)) else (none)) else (none))
end
def impl_RippleDelete.f (k : Nat) (d2 : List Int) (v2 : List Int) (s2 : List (S50)) (a1 : Int) : Option (List Int × List Int × (List (S50)) × Int × Bool) := (impl_copyCracker.f d2 v2 s2).bind fun b3 => ((impl_FindRow.f k d2 v2 s2 a1).bind fun d3 => ((impl_IsCracker.f k d2 v2 s2).bind fun ma3 => (if ma3 = true then (impl_RippleDelete.j0 k d3 (decide (d3 < 0)) d2 v2 s2 b3.1 b3.2.1 b3.2.2) else (impl_RippleDelete.j0 k d3 true d2 v2 s2 b3.1 b3.2.1 b3.2.2))))
theorem impl_RippleDelete.mono_l : ∀ k, (∀ y0 y1 y2 y3 y4 y5 y6 y7, LeO (impl_RippleDelete.j0 k y0 y1 y2 y3 y4 y5 y6 y7) (impl_RippleDelete.j0 (k + 1) y0 y1 y2 y3 y4 y5 y6 y7)) ∧ (∀ y0 y1 y2 y3 y4 y5 y6 y7, LeO (impl_RippleDelete.l0 k y0 y1 y2 y3 y4 y5 y6 y7) (impl_RippleDelete.l0 (k + 1) y0 y1 y2 y3 y4 y5 y6 y7))
 | 0 => ⟨fun _ _ _ _ _ _ _ _ r h => by simp [impl_RippleDelete.j0] at h, fun _ _ _ _ _ _ _ _ r h => by simp [impl_RippleDelete.l0] at h⟩
 | k + 1 => by
  obtain ⟨ih0, ih1⟩ := impl_RippleDelete.mono_l k
  refine ⟨?_, ?_⟩
  ·intro y0 y1 y2 y3 y4 y5 y6 y7
   unfold impl_RippleDelete.j0
   exact mo
  ·intro y0 y1 y2 y3 y4 y5 y6 y7
   unfold impl_RippleDelete.l0
   exact mo
theorem impl_RippleDelete.mono : ∀ a0 a1 a2 a3 k, LeO (impl_RippleDelete.f k a0 a1 a2 a3) (impl_RippleDelete.f (k + 1) a0 a1 a2 a3) := by
 intro a0 a1 a2 a3 k
 obtain ⟨ih0, ih1⟩ := impl_RippleDelete.mono_l k
 unfold impl_RippleDelete.f
 exact mo
instance impl_RippleDelete.mi (a0 a1 a2 a3 k) : LeC (impl_RippleDelete.f k a0 a1 a2 a3) (impl_RippleDelete.f (k + 1) a0 a1 a2 a3) := ⟨impl_RippleDelete.mono a0 a1 a2 a3 k⟩
set_option maxHeartbeats 8000000 in
set_option maxRecDepth 100000 in
theorem impl_RippleDelete.calls (k : Nat) (m9 : Option Addr) (m7 : Nat) (d2 : List Int) (s7 : Option Addr) (k7 : Nat) (v2 : List Int) (q7 : Option Addr) (j7 : Nat) (s2 : List (S50)) (a1 : Int) (r1 : List Int) (r2 : List Int) (r3 : List (S50)) (r4 : Int) (r5 : Bool) (w : World) (ba4 : Kd.C (Kd.int .i64) w m9 d2.length d2) (hc0_0 : d2.length ≤ m7) (aa4 : Kd.C (Kd.int .i64) w s7 v2.length v2) (hc0_1 : v2.length ≤ k7) (za3 : Kd.C k50 w q7 s2.length s2) (hc0_2 : s2.length ≤ j7) (h : impl_RippleDelete.f k d2 v2 s2 a1 = some (r1, r2, r3, r4, r5)) :
  Calls Try.prog 9 #[.agg #[.slice m9 d2.length m7, .slice s7 v2.length k7, .slice q7 s2.length j7], .int .i64 a1] w fun e w' => ∃ v0_ v1_ v2_ : Value, e = .returned (.tuple #[.agg #[v0_, v1_, v2_], .int .i64 r4, .bool r5]) ∧ Kd.R (Kd.int .i64) 3 w' w.heap.size (fun k_ => some k_ ≠ (v1_ : Value).ownBlock) v0_ r1 ∧ Kd.R (Kd.int .i64) 3 w' w.heap.size (fun k_ => some k_ ≠ (v0_ : Value).ownBlock) v1_ r2 ∧ Kd.R k50 50 w' w.heap.size (fun _ => True) v2_ r3 ∧ Below w.heap.size w w' := by
 have hu29 := Try.underlying29
 have hu50 := Try.underlying50
 have o7 := mk ba4
 have s8 := mk hc0_0
 clear ba4 hc0_0
 have m8 := mk aa4
 have q8 := mk hc0_1
 clear aa4 hc0_1
 have k8 := mk za3
 have o8 := mk hc0_2
 clear za3 hc0_2
 have HB := mk (Below.refl w.heap.size w)
 have H : ((impl_copyCracker.f d2 v2 s2).bind fun b3 => ((impl_FindRow.f k d2 v2 s2 a1).bind fun d3 => ((impl_IsCracker.f k d2 v2 s2).bind fun ma3 => (if ma3 = true then (impl_RippleDelete.j0 k d3 (decide (d3 < 0)) d2 v2 s2 b3.1 b3.2.1 b3.2.2) else (impl_RippleDelete.j0 k d3 true d2 v2 s2 b3.1 b3.2.1 b3.2.2))))) = some (r1, r2, r3, r4, r5) := h
 clear h
 revert H; refine bo ?_; rintro ⟨z7, v7, b4⟩ A3 H
 dsimp only at H
 revert H; refine bo ?_; rintro d3 A4 H
 have HC5 := mk H
 clear H
 go_enter Try.func9, Try.ntmps9
 go_upto_region 3 with (first | ((with_reducible refine gate_dst (N := 2) rfl ?_); refine bx 2 #[.slice m9 d2.length m7, .slice s7 v2.length k7, .slice q7 s2.length j7] 29 ?_; intro g8 hg w6 hbox hb; have z0 := mk hbox; have oc3 := wg hg; replace HB := wh hb; clear hb hbox hg) | ((with_reducible refine gate_dst (N := 4) rfl ?_); refine bx 4 #[.slice none 0 0, .slice none 0 0, .slice none 0 0] 29 ?_; intro j4 hg w7 hbox hb; have b1 := mk hbox; have mc3 := wg hg; replace HB := wh hb; have b2 := nl z0 hg; have z1 := nr z0 hg; replace z0 := wb z0 hb; clear hb hbox hg; have jc4 := b2.out; have gc4 := z1.out; obtain ⟨k9, j9, g9, d9, b9, a9⟩ := bz3 z0) | ((with_reducible refine gate_callee (f := 32) rfl ?_); refine gl (some 15) rfl Try.func32 #[.agg #[.slice m9 d2.length m7, .slice s7 v2.length k7, .slice q7 s2.length j7]] ?_; (with_reducible refine (impl_copyCracker.calls _ _ d2 _ _ v2 _ _ s2 z7 v7 b4 _ ?side1 ?side2 ?side3 ?side4 ?side5 ?side6 A3.out).mono ?_); (case side1 => exact cb o7 HB); (case side2 => exact s8.out); (case side3 => exact cb m8 HB); (case side4 => exact q8.out); (case side5 => exact cb k8 HB); (case side6 => exact o8.out); rintro e w10 ⟨bc4, ac4, zc3, rfl, ho0, ho1, ho2, hb⟩; refine ⟨_, rfl, ?_⟩; have a4 := lo ho0; have z3 := lo ho1; have v3 := lo ho2; replace z0 := wb z0 hb; replace b1 := wb b1 hb; replace HB := wh hb; (try clear hb ho0 ho1 ho2)) | ((with_reducible refine gate_dst (N := 7) rfl ?_); refine bx 7 #[.slice none 0 0, .slice none 0 0, .slice none 0 0] 29 ?_; intro g4 hg w11 hbox hb; replace a4 := ro a4 hb; replace z3 := ro z3 hb; replace v3 := ro v3 hb; have s0 := mk hbox; have ja5 := wg hg; replace HB := wh hb; have o1 := nl z0 hg; have m1 := nr z0 hg; replace z0 := wb z0 hb; have v1 := nl b1 hg; have s1 := nr b1 hg; replace b1 := wb b1 hb; clear hb hbox hg; obtain ⟨aa3, va2, kc1⟩ := Kd.R_slice a4.out; subst kc1; have mc0 := m1.out; have vb8 := o1.out; have kc0 := s1.out; have sb8 := v1.out; obtain ⟨b7, a7, z6, b6, a6, z5⟩ := bz3 s0; obtain ⟨za2, sa2, jc1⟩ := Kd.R_slice z3.out; subst jc1; obtain ⟨ya2, qa2, gc1⟩ := Kd.R_slice v3.out; subst gc1; obtain ⟨v6, s6, q6, v5, s5, q5⟩ := bz3 z0) | ((with_reducible refine gate_callee (f := 24) rfl ?_); refine gl (some 18) rfl Try.func24 #[.agg #[.slice m9 d2.length m7, .slice s7 v2.length k7, .slice q7 s2.length j7], .int .i64 a1] ?_; (with_reducible refine (impl_FindRow.calls k _ _ d2 _ _ v2 _ _ s2 a1 d3 _ ?side1 ?side2 ?side3 ?side4 ?side5 ?side6 A4.out).mono ?_); (case side1 => exact Kd.C_below o7.out bl); (case side2 => exact s8.out); (case side3 => exact Kd.C_below m8.out bl); (case side4 => exact q8.out); (case side5 => exact Kd.C_below k8.out bl); (case side6 => exact o8.out); rintro e w19 ⟨rfl, hb⟩; refine ⟨_, rfl, ?_⟩; replace a4 := ro1 a4 s0 hb; replace z3 := ro1 z3 s0 hb; replace v3 := ro1 v3 s0 hb; replace z0 := wx z0 hb; replace b1 := wx b1 hb; replace s0 := wq g4 #[.slice aa3 z7.length va2, .slice za2 v7.length sa2, .slice ya2 b4.length qa2] 29 hb; replace HB := wh hb; (try clear hb)))
 (try simp only [Act.put, List.setIfInBounds_toArray, List.set_cons_zero, List.set_cons_succ])
 go_cut [25] (fun v25 wc => ∃ (kq : Nat) (a8 : Bool), v25 = .bool a8 ∧ Aside0 (impl_RippleDelete.j0 kq d3 a8 d2 v2 s2 z7 v7 b4 = some (r1, r2, r3, r4, r5)) ∧ Aside0 (kq ≤ k) ∧ Aside0 (Kd.R (Kd.int .i64) 3 wc w.heap.size (fun k_ => some k_ ≠ ((.slice za2 v7.length sa2) : Value).ownBlock) (.slice aa3 z7.length va2) z7) ∧ Aside0 (Kd.R (Kd.int .i64) 3 wc w.heap.size (fun k_ => some k_ ≠ ((.slice aa3 z7.length va2) : Value).ownBlock) (.slice za2 v7.length sa2) v7) ∧ Aside0 (Kd.R k50 50 wc w.heap.size (fun _ => True) (.slice ya2 b4.length qa2) b4) ∧ Aside0 (wc.heap[g8]? = some (.cells #[(.slice m9 d2.length m7), (.slice s7 v2.length k7), (.slice q7 s2.length j7)] 29 (0, 0))) ∧ Aside0 (wc.heap[j4]? = some (.cells #[(.slice none 0 0), (.slice none 0 0), (.slice none 0 0)] 29 (0, 0))) ∧ Aside0 (wc.heap[g4]? = some (.cells #[(.slice aa3 z7.length va2), (.slice za2 v7.length sa2), (.slice ya2 b4.length qa2)] 29 (0, 0))) ∧ Aside0 (Below w.heap.size w wc))
 case first =>
  have H := HC5.out
  clear HC5
  revert H; refine bo ?_; rintro ma3 A20 H
  by_cases c21 : ma3 = true
  ·subst c21
   rw [if_pos rfl] at H
   have H' := mk H
   clear H
   have jc0 := b2.out
   have qb8 := z1.out
   have gc0 := o1.out
   have ob8 := m1.out
   obtain ⟨o6, m6, k6, o5, m5, k5⟩ := bz3 z0
   go_wp2_with (first | ((with_reducible refine gate_callee (f := 19) rfl ?_); refine gl (some 20) rfl Try.func19 #[.agg #[.slice m9 d2.length m7, .slice s7 v2.length k7, .slice q7 s2.length j7]] ?_; (with_reducible refine (impl_IsCracker.calls k _ _ d2 _ _ v2 _ _ s2 true _ ?side1 ?side2 ?side3 ?side4 ?side5 ?side6 A20.out).mono ?_); (case side1 => exact cb o7 HB); (case side2 => exact s8.out); (case side3 => exact cb m8 HB); (case side4 => exact q8.out); (case side5 => exact cb k8 HB); (case side6 => exact o8.out); rintro e w25 ⟨rfl, hb⟩; refine ⟨_, rfl, ?_⟩; replace a4 := ro a4 hb; replace z3 := ro z3 hb; replace v3 := ro v3 hb; replace z0 := wb z0 hb; replace b1 := wb b1 hb; replace s0 := wb s0 hb; replace HB := wh hb; (try clear hb)))
   go_meet
   case rel => exact ⟨_, (decide (d3 < 0)), (by first | rfl | (simp; done) | (simp [*]; done)), H', ⟨by first | omega | exact Nat.le_refl _⟩, ⟨up a4.out⟩, ⟨up z3.out⟩, ⟨up v3.out⟩, ⟨ub z0.out⟩, ⟨ub b1.out⟩, ⟨ub s0.out⟩, ⟨bl⟩⟩
  ·replace c21 := Bool.eq_false_iff.mpr c21
   subst c21
   rw [if_neg nf] at H
   have H' := mk H
   clear H
   have dc0 := b2.out
   have mb8 := z1.out
   have bc0 := o1.out
   have kb8 := m1.out
   obtain ⟨j6, g6, d6, j5, g5, d5⟩ := bz3 z0
   go_wp2_with (first | ((with_reducible refine gate_callee (f := 19) rfl ?_); refine gl (some 20) rfl Try.func19 #[.agg #[.slice m9 d2.length m7, .slice s7 v2.length k7, .slice q7 s2.length j7]] ?_; (with_reducible refine (impl_IsCracker.calls k _ _ d2 _ _ v2 _ _ s2 false _ ?side1 ?side2 ?side3 ?side4 ?side5 ?side6 A20.out).mono ?_); (case side1 => exact cb o7 HB); (case side2 => exact s8.out); (case side3 => exact cb m8 HB); (case side4 => exact q8.out); (case side5 => exact cb k8 HB); (case side6 => exact o8.out); rintro e w29 ⟨rfl, hb⟩; refine ⟨_, rfl, ?_⟩; replace a4 := ro a4 hb; replace z3 := ro z3 hb; replace v3 := ro v3 hb; replace z0 := wb z0 hb; replace b1 := wb b1 hb; replace s0 := wb s0 hb; replace HB := wh hb; (try clear hb)))
   go_meet
   case rel => exact ⟨_, (true), (by first | rfl | (simp; done) | (simp [*]; done)), H', ⟨by first | omega | exact Nat.le_refl _⟩, ⟨up a4.out⟩, ⟨up z3.out⟩, ⟨up v3.out⟩, ⟨ub z0.out⟩, ⟨ub b1.out⟩, ⟨ub s0.out⟩, ⟨bl⟩⟩
 case rest =>
  clear HC5
  try clear c1
  try clear c2
  try clear p2
  try clear c3
  try clear c8
  try clear c9
  try clear c13
  try clear c14
  try clear c19
  try clear c21
  try clear c22
  try clear c23
  try clear c24
  try clear c26
  try clear c27
  try clear b7
  try clear a7
  try clear z6
  try clear v6
  try clear s6
  try clear q6
  try clear o6
  try clear m6
  try clear k6
  try clear j6
  try clear g6
  try clear d6
  try clear k9
  try clear j9
  try clear g9
  try clear b6
  try clear a6
  try clear z5
  try clear v5
  try clear s5
  try clear q5
  try clear o5
  try clear m5
  try clear k5
  try clear j5
  try clear g5
  try clear d5
  try clear d9
  try clear b9
  try clear a9
  obtain ⟨kq, a8, rfl, HA, HJ4, m0, o0, k0, z0, b1, s0, HB⟩ := hcut
  cases kq with
  | zero => exact absurd HA.out (by simp [impl_RippleDelete.j0])
  | succ kj4 =>
   have H := HA.out
   clear HA
   simp only [impl_RippleDelete.j0] at H
   by_cases c30 : a8 = true
   ·subst c30
    rw [if_pos rfl] at H
    simp only [Option.some.injEq, Prod.mk.injEq] at H
    obtain ⟨rfl, rfl, rfl, rfl, rfl⟩ := H
    have ac0 := m1.out
    have jb8 := o1.out
    have zb9 := s1.out
    have gb8 := v1.out
    obtain ⟨aa2, za1, ya1, aa1, za0, ya0⟩ := bz3 s0
    have yb9 := z1.out
    have db8 := b2.out
    obtain ⟨va1, sa1, qa1, va0, sa0, qa0⟩ := bz3 b1
    go_wp2
    refine bodyPost_ret (results_ctt rfl _ _ j4 29 #[.slice aa3 z7.length va2, .slice za2 v7.length sa2, .slice ya2 b4.length qa2] (0, 0) _ rfl bq Try.underlying29 rfl (by kernel_rfl)) rfl ?_
    exact ⟨_, _, _, rx, (by exact rm (rs1 m0 b1)), (by exact rm (rs1 o0 b1)), (by exact rm (rs1 k0 b1)), bl⟩
   ·replace c30 := Bool.eq_false_iff.mpr c30
    subst c30
    rw [if_neg nf] at H
    revert H; refine ca fun c36 H => ?_
    have bb2 : decide (0 ≤ d3) = true := decide_eq_true c36
    clear c36
    revert H; refine ca fun c37 H => ?_
    have ab2 : decide (d3 < (d2.length : Int)) = true := decide_eq_true c37
    clear c37
    have H' := mk H
    clear H
    have vb9 := b2.out
    have bb8 := z1.out
    have sb9 := o1.out
    have ab8 := m1.out
    obtain ⟨oa1, ma1, ka1, oa0, ma0, ka0⟩ := bz3 z0
    have oa5 : 0 ≤ (d3 : Int) := dt
    have ma5 : d3 < (d2.length : Int) := dt
    obtain ⟨ka2, yc1, d4⟩ := Kd.at_int o7.out d3 oa5 ma5
    cases yc1
    replace d4 := (HB.out.cell (World.block_lt_of_cell? w _ d4)).trans d4
    replace oa5 := eq_true oa5
    replace ma5 := eq_true ma5
    have qb9 := s1.out
    have zb7 := v1.out
    obtain ⟨ja1, ga1, da1, ja0, ga0, da0⟩ := bz3 s0
    go_wp2
    go_loopg [8, 10, 35] kj4 (fun kq v8 v10 v35 w' => ∃ (g1 : Int) (z2 : Int) (q0 : Int) (g0 : List Int) (b0 : List Int) (d0 : List (S50)) (j2 : Value) (g2 : Value) (g3 : Value), v8 = .int .i64 g1 ∧ v10 = .int .i64 z2 ∧ v35 = .int .i64 q0 ∧ Aside0 (impl_RippleDelete.l0 kq g1 (rd d2 d3) z2 (b4.length : Int) q0 g0 b0 d0 = some (r1, r2, r3, r4, r5)) ∧ Aside0 (g3 = (.slice ya2 b4.length qa2)) ∧ Aside0 (kq ≤ kj4) ∧ Aside0 (Kd.R (Kd.int .i64) 3 w' w.heap.size (fun k_ => some k_ ≠ (g2 : Value).ownBlock) j2 g0) ∧ Aside0 (Kd.R (Kd.int .i64) 3 w' w.heap.size (fun k_ => some k_ ≠ (j2 : Value).ownBlock) g2 b0) ∧ Aside0 (Kd.R k50 50 w' w.heap.size (fun _ => True) g3 d0) ∧ Aside0 (w'.heap[g8]? = some (.cells #[(.slice (some ka2) d2.length m7), (.slice s7 v2.length k7), (.slice q7 s2.length j7)] 29 (0, 0))) ∧ Aside0 (w'.heap[j4]? = some (.cells #[(.slice none 0 0), (.slice none 0 0), (.slice none 0 0)] 29 (0, 0))) ∧ Aside0 (w'.heap[g4]? = some (.cells #[j2, g2, g3] 29 (0, 0))) ∧ Aside0 (Below w.heap.size w w'))
    case atStart => exact ⟨(d3), (0), (0), (z7), (v7), (b4), (.slice aa3 z7.length va2), (.slice za2 v7.length sa2), (.slice ya2 b4.length qa2), (by first | rfl | (simp; done) | (simp [*]; done)), (by first | rfl | (simp; done) | (simp [*]; done)), (by first | rfl | (simp; done) | (simp [*]; done)), H', ⟨rfl⟩, ⟨Nat.le_refl _⟩, ⟨up m0.out⟩, ⟨up o0.out⟩, ⟨up k0.out⟩, ⟨ub z0.out⟩, ⟨ub b1.out⟩, ⟨ub s0.out⟩, ⟨bl⟩⟩
    case round =>
     clear H'
     try clear c1
     try clear c2
     try clear p2
     try clear q2
     try clear hx2
     try clear c3
     try clear c4
     try clear c8
     try clear c9
     try clear c13
     try clear c14
     try clear c19
     try clear c21
     try clear c22
     try clear p22
     try clear q22
     try clear dc4
     try clear c23
     try clear c24
     try clear c26
     try clear c27
     try clear c30
     try clear c31
     try clear c32
     try clear c34
     try clear c36
     try clear bb2
     try clear c37
     try clear ab2
     try clear c38
     try clear c39
     try clear c41
     try clear b7
     try clear a7
     try clear z6
     try clear v6
     try clear s6
     try clear q6
     try clear o6
     try clear m6
     try clear k6
     try clear j6
     try clear g6
     try clear d6
     try clear aa2
     try clear za1
     try clear ya1
     try clear va1
     try clear sa1
     try clear qa1
     try clear oa1
     try clear ma1
     try clear ka1
     try clear ja1
     try clear ga1
     try clear da1
     try clear k9
     try clear j9
     try clear g9
     try clear b6
     try clear a6
     try clear z5
     try clear v5
     try clear s5
     try clear q5
     try clear o5
     try clear m5
     try clear k5
     try clear j5
     try clear g5
     try clear d5
     try clear aa1
     try clear za0
     try clear ya0
     try clear va0
     try clear sa0
     try clear qa0
     try clear oa0
     try clear ma0
     try clear ka0
     try clear ja0
     try clear ga0
     try clear da0
     try clear d9
     try clear b9
     try clear a9
     try clear d4
     try clear p2
     try clear oa5
     try clear ma5
     obtain ⟨g1, z2, q0, g0, b0, d0, j2, g2, g3, rfl, rfl, rfl, HA, HU, HK2, m0, o0, k0, z0, b1, s0, HB⟩ := hrel
     cases gk with
     | zero => exact absurd HA.out (by simp [impl_RippleDelete.l0])
     | succ k2 =>
      have H := HA.out
      clear HA
      simp only [impl_RippleDelete.l0] at H
      revert H; refine ci (fun c43 H => ?_) fun c43 H => ?_
      ·have zb1 : decide (q0 < (b4.length : Int)) = true := decide_eq_true c43
       clear c43
       revert H; refine ca fun c44 H => ?_
       have ac3 : decide (0 ≤ q0) = true := decide_eq_true c44
       clear c44
       revert H; refine ca fun c45 H => ?_
       have zc2 : decide (q0 < (d0.length : Int)) = true := decide_eq_true c45
       clear c45
       revert H; refine ci (fun c46 H => ?_) fun c46 H => ?_
       ·have yb1 : decide (((rd_T50 d0 q0).f0) ≤ (rd d2 d3)) = true := decide_eq_true c46
        clear c46
        have H' := mk H
        clear H
        have ob9 := m1.out
        have yb7 := o1.out
        have mb9 := s1.out
        have vb7 := v1.out
        obtain ⟨gb1, db1, bb1, sa9, qa9, oa9⟩ := bz3 s0
        obtain ⟨jc6, zc1, dc1⟩ := Kd.R_slice k0.out
        subst dc1
        have q9 : 0 ≤ (q0 : Int) := dt
        have o9 : q0 < (d0.length : Int) := dt
        obtain ⟨k4, sb1, z4, v4⟩ := at_T50 (Kd.R_reads' k0.out).2.2 q0 q9 o9
        cases sb1
        have HOs_ := k0
        have BKs_ := s0
        injection HU.out with hu1 hu2 hu3
        have HU2 := mk hu2
        clear HU hu2
        subst hu1
        subst hu3
        have q33_ := eq_true (show q0 < (b4.length : Int) from dt)
        have k0 := HOs_
        have s0 := BKs_
        clear HOs_ BKs_
        replace q9 := eq_true q9
        replace o9 := eq_true o9
        go_wp2_with (first | ((with_reducible refine gate_dst (N := 12) rfl ?_); refine bx 12 #[.int .i64 0, .int .i64 0] 50 ?_; intro m2 hg w51 hbox hb; replace m0 := ro m0 hb; replace o0 := ro o0 hb; replace k0 := mk (Kd.R_below (Kd.R_elderB (up k0.out) m2 (Nat.le_of_eq hg.symm)) hb); have o2 := mk hbox; have vb2 := wg hg; have zb2 := wg hg; replace HB := wh hb; have s3 := nl z0 hg; have m3 := nr z0 hg; replace z0 := wb z0 hb; have q3 := nl b1 hg; have k3 := nr b1 hg; replace b1 := wb b1 hb; have o3 := nl s0 hg; have j3 := nr s0 hg; replace s0 := wb s0 hb; clear hb hbox hg; have kb9 := m3.out; have sb7 := s3.out; have jb9 := k3.out; have qb7 := q3.out; have gb9 := j3.out; have ob7 := o3.out; obtain ⟨ab1, zb0, ma9, ka9⟩ := bz2 o2))
        go_roundg k2
        case measure => have := HJ4.out; have := HK2.out; omega
        case rel => exact ⟨(g1), (z2), (wrap64 (q0 + 1)), (g0), (b0), (d0), (j2), (g2), (.slice (some k4) d0.length zc1), (by first | rfl | (simp; done) | (simp [*]; done)), (by first | rfl | (simp; done) | (simp [*]; done)), (by first | rfl | (simp; done) | (simp [*]; done)), H', ⟨by rw [HU2.out]⟩, ⟨by have := HJ4.out; have := HK2.out; omega⟩, ⟨(by exact rm (rs1 m0 o2))⟩, ⟨(by exact rm (rs1 o0 o2))⟩, ⟨by exact up (Kd.R_mono (Kd.R_far (p := ⟨m2, 1, none⟩) (Kd.R_far (p := ⟨m2, 0, none⟩) (Kd.R_mono k0.out (fun k_ hk => (⟨hk, hk.2⟩ : _ ∧ k_ ≠ m2))) (fun _ hk => hk.2) (.int .i64 ((rd_T50 d0 q0).f0))) (fun _ hk => hk.2) (.int .i64 ((rd_T50 d0 q0).f1))) (fun _ hk => trivial))⟩, ⟨bq⟩, ⟨bq⟩, ⟨bq⟩, ⟨bl⟩⟩
       ·have yb1 : decide (((rd_T50 d0 q0).f0) ≤ (rd d2 d3)) = false := decide_eq_false c46
        clear c46
        obtain ⟨q1, b5⟩ : ∃ j_ : Int, (wrap64 (((rd_T50 d0 q0).f1) - 1)) = j_ := ⟨_, rfl⟩
        replace H : (if 0 ≤ (q1) then (if (q1) < (g0.length : Int) then (if 0 ≤ g1 then (if g1 < (g0.length : Int) then (if (q1) < (b0.length : Int) then (if g1 < (b0.length : Int) then ((impl_Cracker_put.f g1 (q1)).bind fun s4 => (impl_RippleDelete.l0 k2 q1 (rd d2 d3) (wrap64 (z2 + s4)) (b4.length : Int) (wrap64 (q0 + 1)) (g0.set (g1 : Int).toNat (rd g0 (q1))) (b0.set (g1 : Int).toNat (rd b0 (q1))) (d0.set (q0 : Int).toNat (⟨(rd_T50 d0 q0).f0, q1⟩ : S50)))) else (none)) else (none)) else (none)) else (none)) else (none)) else (none)) = some (r1, r2, r3, r4, r5) := by first | (rw [b5] at H; exact H) | (simp only [b5] at H ⊢; exact H)
        have db4 : (IntKind.i64.wrap (((rd_T50 d0 q0).f1) - 1)) = q1 := (i64_w _).trans b5
        revert H; refine ca fun c57 H => ?_
        have yc2 : decide (0 ≤ (q1)) = true := decide_eq_true c57
        clear c57
        revert H; refine ca fun c58 H => ?_
        have vc2 : decide ((q1) < (g0.length : Int)) = true := decide_eq_true c58
        clear c58
        revert H; refine ca fun c59 H => ?_
        have sc2 : decide (0 ≤ g1) = true := decide_eq_true c59
        clear c59
        revert H; refine ca fun c60 H => ?_
        have qc2 : decide (g1 < (g0.length : Int)) = true := decide_eq_true c60
        clear c60
        obtain ⟨oa2, hy_⟩ : ∃ y_ : List Int, y_ = (g0.set (g1 : Int).toNat (rd g0 (q1))) := ⟨_, rfl⟩
        replace H : (if (q1) < (b0.length : Int) then (if g1 < (b0.length : Int) then ((impl_Cracker_put.f g1 (q1)).bind fun s4 => (impl_RippleDelete.l0 k2 q1 (rd d2 d3) (wrap64 (z2 + s4)) (b4.length : Int) (wrap64 (q0 + 1)) oa2 (b0.set (g1 : Int).toNat (rd b0 (q1))) (d0.set (q0 : Int).toNat (⟨(rd_T50 d0 q0).f0, q1⟩ : S50)))) else (none)) else (none)) = some (r1, r2, r3, r4, r5) := hw
        have ga5 := mk hy_
        clear hy_
        revert H; refine ca fun c62 H => ?_
        have oc2 : decide ((q1) < (b0.length : Int)) = true := decide_eq_true c62
        clear c62
        revert H; refine ca fun c63 H => ?_
        have mc2 : decide (g1 < (b0.length : Int)) = true := decide_eq_true c63
        clear c63
        obtain ⟨ga3, hy_⟩ : ∃ y_ : List Int, y_ = (b0.set (g1 : Int).toNat (rd b0 (q1))) := ⟨_, rfl⟩
        replace H : ((impl_Cracker_put.f g1 (q1)).bind fun s4 => (impl_RippleDelete.l0 k2 q1 (rd d2 d3) (wrap64 (z2 + s4)) (b4.length : Int) (wrap64 (q0 + 1)) oa2 ga3 (d0.set (q0 : Int).toNat (⟨(rd_T50 d0 q0).f0, q1⟩ : S50)))) = some (r1, r2, r3, r4, r5) := hw
        have da5 := mk hy_
        clear hy_
        revert H; refine bo ?_; rintro s4 A65 H
        obtain ⟨ba7, hy_⟩ : ∃ y_ : List (S50), y_ = (d0.set (q0 : Int).toNat (⟨(rd_T50 d0 q0).f0, q1⟩ : S50)) := ⟨_, rfl⟩
        replace H : (impl_RippleDelete.l0 k2 q1 (rd d2 d3) (wrap64 (z2 + s4)) (b4.length : Int) (wrap64 (q0 + 1)) oa2 ga3 ba7) = some (r1, r2, r3, r4, r5) := hw
        have kb2 := mk hy_
        clear hy_
        have H' := mk H
        clear H
        have db9 := m1.out
        have mb7 := o1.out
        have bb9 := s1.out
        have kb7 := v1.out
        obtain ⟨yb0, vb0, sb0, ja9, ga9, da9⟩ := bz3 s0
        obtain ⟨gc6, j8, bc1⟩ := Kd.R_slice k0.out
        subst bc1
        have q9 : 0 ≤ (q0 : Int) := dt
        have o9 : q0 < (d0.length : Int) := dt
        obtain ⟨k4, sb1, z4, v4⟩ := at_T50 (Kd.R_reads' k0.out).2.2 q0 q9 o9
        cases sb1
        have HOs_ := k0
        have BKs_ := s0
        injection HU.out with hu1 hu2 hu3
        have HU2 := mk hu2
        clear HU hu2
        subst hu1
        subst hu3
        have q33_ := eq_true (show q0 < (b4.length : Int) from dt)
        have k0 := HOs_
        have s0 := BKs_
        clear HOs_ BKs_
        replace q9 := eq_true q9
        replace o9 := eq_true o9
        go_wp2_with (first | ((with_reducible refine gate_dst (N := 12) rfl ?_); refine bx 12 #[.int .i64 0, .int .i64 0] 50 ?_; intro m2 hg w71 hbox hb; replace m0 := ro m0 hb; replace o0 := ro o0 hb; replace k0 := mk (Kd.R_below (Kd.R_elderB (up k0.out) m2 (Nat.le_of_eq hg.symm)) hb); have o2 := mk hbox; have vb2 := wg hg; have zb2 := wg hg; replace HB := wh hb; have s3 := nl z0 hg; have m3 := nr z0 hg; replace z0 := wb z0 hb; have q3 := nl b1 hg; have k3 := nr b1 hg; replace b1 := wb b1 hb; have o3 := nl s0 hg; have j3 := nr s0 hg; replace s0 := wb s0 hb; clear hb hbox hg; have ab9 := m3.out; have jb7 := s3.out; have zb8 := k3.out; have gb7 := q3.out; have yb8 := j3.out; have db7 := o3.out; obtain ⟨qb0, ob0, ba9, aa9⟩ := bz2 o2) | ((with_reducible refine gate_store (t := 50) (p := 12) rfl ?_); refine store_event (t := 50) (p := 12) (v := ?vo_w76) (w1 := ((w71.setCell ⟨m2, 0, none⟩ (.int .i64 ((rd_T50 d0 q0).f0))).setCell ⟨m2, 1, none⟩ (.int .i64 ((rd_T50 d0 q0).f1)))) ?hg ?ho ?hn ?hr ?_; (case ho => rfl); (case hg => rfl); (case hn => rfl); (case hr => first | (go_simp; done) | (go_simp; rfl)); intro w76 hw; have n0_ : Aside0 (Kd.R (Kd.int .i64) 3 w76 w.heap.size (fun k_ => some k_ ≠ (g2 : Value).ownBlock) j2 g0) := ⟨(by rw [hw]; exact (by exact rm (rs1 m0 o2)))⟩; have n1_ : Aside0 (Kd.R (Kd.int .i64) 3 w76 w.heap.size (fun k_ => some k_ ≠ (j2 : Value).ownBlock) g2 b0) := ⟨(by rw [hw]; exact (by exact rm (rs1 o0 o2)))⟩; have n2_ : Aside0 (Kd.R k50 50 w76 w.heap.size (fun k_ => k_ ≠ m2) (.slice (some k4) d0.length j8) d0) := ⟨(by rw [hw]; exact (by exact up (Kd.R_mono (Kd.R_far (p := ⟨m2, 1, none⟩) (Kd.R_far (p := ⟨m2, 0, none⟩) (Kd.R_mono k0.out (fun k_ hk => (⟨hk, hk.2⟩ : _ ∧ k_ ≠ m2))) (fun _ hk => hk.2) (.int .i64 ((rd_T50 d0 q0).f0))) (fun _ hk => hk.2) (.int .i64 ((rd_T50 d0 q0).f1))) (fun _ hk => by first | exact hk.1.2 | (revert hk; simp only [and_imp]; intros; (repeat' (refine And.intro ?_ ?_)) <;> assumption)))))⟩; have n3_ : Aside0 (w76.heap[g8]? = some (.cells #[.slice (some ka2) d2.length m7, .slice s7 v2.length k7, .slice q7 s2.length j7] 29 (0, 0))) := ⟨(by rw [hw]; exact bq)⟩; have n4_ : Aside0 (w76.heap[j4]? = some (.cells #[.slice none 0 0, .slice none 0 0, .slice none 0 0] 29 (0, 0))) := ⟨(by rw [hw]; exact bq)⟩; have n5_ : Aside0 (w76.heap[g4]? = some (.cells #[j2, g2, .slice (some k4) d0.length j8] 29 (0, 0))) := ⟨(by rw [hw]; exact bq)⟩; have n6_ : Aside0 (w76.heap[m2]? = some (.cells #[.int .i64 ((rd_T50 d0 q0).f0), .int .i64 ((rd_T50 d0 q0).f1)] 50 (0, 0))) := ⟨(by rw [hw]; exact bq)⟩; have n7_ : Aside0 (Below w.heap.size w w76) := ⟨(by rw [hw]; exact bl)⟩; clear hw; clear m0; clear o0; clear k0; clear z0; clear b1; clear s0; clear o2; clear HB; have m0 := n0_; have o0 := n1_; have k0 := n2_; have z0 := n3_; have b1 := n4_; have s0 := n5_; have o2 := n6_; have HB := n7_; clear n0_ n1_ n2_ n3_ n4_ n5_ n6_ n7_; obtain ⟨mb0, kb0, za8, ya8⟩ := bz2 o2; obtain ⟨jb0, gb0, db0, va8, sa8, qa8⟩ := bz3 s0; obtain ⟨dc6, va4, ac1⟩ := Kd.R_slice m0.out; subst ac1; have da8 : 0 ≤ ((q1) : Int) := dt; have qa7 : (q1) < (g0.length : Int) := dt; obtain ⟨jc3, vc1, ba0⟩ := Kd.at_int (Kd.R_reads' m0.out).2.2 (q1) da8 qa7; cases vc1; replace da8 := eq_true da8; replace qa7 := eq_true qa7; have p61 : 0 ≤ (g1 : Int) := dt; have q61 : (g1 : Int) < ((g0.length : Int) : Int) := dt; obtain ⟨qa4, sc4, db6, vb5, yc0, bc5, zb6⟩ := Kd.R_form m0.out (by omega); (first | cases db6 | (injection db6 with ea_ en_ ec_; (first | subst ea_ | (injection ea_ with ea_; subst ea_)); subst ec_; clear en_)); have ac6 := mk vb5; have sc5 := mk zb6; clear vb5 yc0 zb6; (first | simp only [add_plain] at ba0 | skip); obtain ⟨ob3, zb4⟩ := Kd.R_celln 0 m0.out (g1 : Int) p61 q61; replace p61 := eq_true p61; replace q61 := eq_true q61; obtain ⟨hy80_, hz80_⟩ := Kd.R_celln 0 m0.out (g1 : Int) dt dt; have jc5 := Kd.R_putg m0.out (g1 : Int) (rd g0 (q1))) | ((with_reducible refine gate_callee (f := 33) rfl ?_); obtain ⟨bc6, sa4, zc0⟩ := Kd.R_slice o0.out; subst zc0; have ba8 : 0 ≤ ((q1) : Int) := dt; have oa7 : (q1) < (b0.length : Int) := dt; obtain ⟨gc3, sc1, aa0⟩ := Kd.at_int (Kd.R_reads' o0.out).2.2 (q1) ba8 oa7; cases sc1; replace ba8 := eq_true ba8; replace oa7 := eq_true oa7; have p64 : 0 ≤ (g1 : Int) := dt; have q64 : (g1 : Int) < ((b0.length : Int) : Int) := dt; obtain ⟨oa4, qc4, bb6, sb5, vc0, ac5, yb6⟩ := Kd.R_form o0.out (by omega); (first | cases bb6 | (injection bb6 with ea_ en_ ec_; (first | subst ea_ | (injection ea_ with ea_; subst ea_)); subst ec_; clear en_)); have zc5 := mk sb5; have qc5 := mk yb6; clear sb5 vc0 yb6; (first | simp only [add_plain] at aa0 | skip); obtain ⟨mb3, yb4⟩ := Kd.R_celln 0 o0.out (g1 : Int) p64 q64; replace p64 := eq_true p64; replace q64 := eq_true q64; refine goesL_ (some 49) rfl rfl Try.func33 (by kernel_rfl) rfl #[.pointer (some ⟨g4, 0, none⟩), .int .i64 g1, .int .i64 q1] rfl (by (try simp only [List.map_toArray, List.map_cons, List.map_nil]); first | done | (simp only [b5]; rfl) | rfl | (simp only [List.length_drop, List.length_take]; rfl)) ?_; (with_reducible refine (impl_Cracker_put.callsS w _ g4 (.slice (some ⟨qa4, 0, none⟩) g0.length va4) (.slice (some ⟨oa4, 0, none⟩) b0.length sa4) (.slice (some k4) d0.length j8) g0 b0 _ g1 q1 s4 bl ⟨ub s0.out, ja5.out, up m0.out, up o0.out, up k0.out⟩ (show 0 ≤ (g1 : Int) from dt) (show (g1 : Int) < (g0.length : Int) from dt) (show (g1 : Int) < (b0.length : Int) from dt) (show 0 ≤ (q1 : Int) from dt) (show (q1 : Int) < (g0.length : Int) from dt) (show (q1 : Int) < (b0.length : Int) from dt) A65.out).mono ?_); rintro e w86 ⟨rfl, hcs, hb, hfar⟩; refine ⟨_, rfl, ?_⟩; have n0_ := mk (show Kd.R (Kd.int .i64) 3 w86 w.heap.size (fun k_ => True ∧ some k_ ≠ (.slice (some ⟨oa4, 0, none⟩) b0.length sa4 : Value).ownBlock) (.slice (some ⟨qa4, 0, none⟩) g0.length va4) oa2 from by rw [ga5.out]; exact Kd.R_mono hcs.r0 (fun _ hk => ⟨trivial, hk⟩)); have n1_ := mk (show Kd.R (Kd.int .i64) 3 w86 w.heap.size (fun k_ => some k_ ≠ (.slice (some ⟨qa4, 0, none⟩) g0.length va4 : Value).ownBlock) (.slice (some ⟨oa4, 0, none⟩) b0.length sa4) ga3 from by rw [da5.out]; exact hcs.r1); have n2_ := mk (hcs.r2); have n3_ := mk (hfar.at (ub z0.out) (by decide)); have n4_ := mk (hfar.at (ub b1.out) (by decide)); have n5_ := mk (hcs.blk); have n6_ := mk (hfar.at (ub o2.out) (by decide)); have n7_ := mk (hb); have lyy230_ : oa2.length = g0.length := (by rw [ga5.out, List.length_set]); have lyy232_ : ga3.length = b0.length := (by rw [da5.out, List.length_set]); clear m0; clear o0; clear k0; clear z0; clear b1; clear s0; clear o2; clear HB; have m0 := n0_; have o0 := n1_; have k0 := n2_; have z0 := n3_; have b1 := n4_; have s0 := n5_; have o2 := n6_; have HB := n7_; clear n0_ n1_ n2_ n3_ n4_ n5_ n6_ n7_; (try clear hb hcs hfar); obtain ⟨bb0, ab0, oa8, ma8⟩ := bz2 o2; obtain ⟨za9, ya9, va9, ka8, ja8, ga8⟩ := bz3 s0; have aa8 : 0 ≤ (q0 : Int) := dt; have ma7 : q0 < (d0.length : Int) := dt; obtain ⟨jb2, qc1, z9, y9⟩ := at_T50 (Kd.R_reads' k0.out).2.2 q0 aa8 ma7; obtain rfl : k4 = jb2 := (by injection qc1); replace aa8 := eq_true aa8; replace ma7 := eq_true ma7; have p66 : 0 ≤ (q0 : Int) := dt; have q66 : (q0 : Int) < ((d0.length : Int) : Int) := dt; obtain ⟨m4, oc4, ab6, qb5, sc0, zc4, vb6⟩ := Kd.R_form k0.out (by omega); (first | cases ab6 | (injection ab6 with ea_ en_ ec_; (first | subst ea_ | (injection ea_ with ea_; subst ea_)); subst ec_; clear en_)); have qc3 := mk qb5; have oc5 := mk vb6; clear qb5 sc0 vb6; (first | simp only [add_plain] at z4 | skip); (first | simp only [add_plain] at v4 | skip); (first | simp only [add_plain] at z9 | skip); (first | simp only [add_plain] at y9 | skip); obtain ⟨gc5, jb1, kb5, ja2, ba1⟩ := Kd.R_elem k0.out z50 (q0 : Int) p66 q66; obtain rfl := k50_openM kb5; have kb3 : w86.cell? ⟨m4, (q0 : Int).toNat * 2, none⟩ = some (.int .i64 ((rd_T50 d0 q0).f0)) := ja2 0 _ rfl; have jb3 : w86.cell? ⟨m4, (q0 : Int).toNat * 2 + 1, none⟩ = some (.int .i64 ((rd_T50 d0 q0).f1)) := ja2 1 _ rfl; have vb4 : w86.frozen? ⟨m4, (q0 : Int).toNat * 2, none⟩ = false := ba1 0; have sb4 : w86.frozen? ⟨m4, (q0 : Int).toNat * 2 + 1, none⟩ = false := ba1 1; clear jb1 ja2 ba1 kb5; replace p66 := eq_true p66; replace q66 := eq_true q66; have ob6 := mk (show Kd.R k50 50 w86 w.heap.size (fun k_ => k_ ≠ m2) (.slice (some ⟨m4, 0, none⟩) d0.length j8) d0 from (up k0.out)); obtain ⟨dc5, ja4, jb5, ga2, da4⟩ := Kd.R_elem ob6.out z50 (q0 : Int) dt (by have h_ : (q0 : Int) < ((d0.length : Int) : Int) := dt; first | exact h_ | (have e_ := (Kd.R_reads' k0.out).1; omega) | simpa using h_); obtain rfl := k50_openM jb5; have mb2 := Kd.R_seg ob6.out (q0 : Int) dt (by have h_ : (q0 : Int) < ((d0.length : Int) : Int) := dt; first | exact h_ | (have e_ := (Kd.R_reads' k0.out).1; omega) | simpa using h_) (seg := [.int .i64 q1]) (j := 1) ja4 ga2 (show 2 ≤ 2 from by decide) (x' := (⟨(rd_T50 d0 q0).f0, q1⟩ : S50)) (k50_mkM _ _ _ (⟨(rd_T50 d0 q0).f0, q1⟩ : S50) ) (fun _ hk => hk); have sa3 := ga2 1 _ rfl; (try simp only [show (k50).sz = 2 from rfl, Nat.mul_one, Nat.add_zero] at sa3); have ga4 := da4 1; (try simp only [show (k50).sz = 2 from rfl, Nat.mul_one, Nat.add_zero] at ga4); clear ja4 ga2 da4 jb5) | ((with_reducible refine gate_store (t := 3) (p := 62) rfl ?_); refine store_event (t := 3) (p := 62) (v := ?vo_w90) (w1 := (w86.setCell ⟨m4, (q0 : Int).toNat * 2 + 1, none⟩ (.int .i64 q1))) ?hg ?ho ?hn ?hr ?_; (case ho => rfl); (case hg => rfl); (case hn => rfl); (case hr => first | (go_simp; done) | (go_simp; rfl)); intro w90 hw; have hg : w86.grownBy w90 (some m4) := (by rw [hw]; exact mb2.2); have hp_ : Kd.R k50 50 w90 w.heap.size (fun k_ => k_ ≠ m2) (.slice (some ⟨m4, 0, none⟩) d0.length j8) ba7 := (by rw [hw, kb2.out]; exact mb2.1); clear mb2; replace m0 := mk (Kd.R_over' (v := (.slice (some ⟨m4, 0, none⟩) d0.length j8)) (up m0.out) (Kd.R_typed k0.out) (by decide) hg); replace o0 := mk (Kd.R_over' (v := (.slice (some ⟨m4, 0, none⟩) d0.length j8)) (up o0.out) (Kd.R_typed k0.out) (by decide) hg); replace z0 := mk (blk_grown (g := g8) (o := .cells #[.slice (some ka2) d2.length m7, .slice s7 v2.length k7, .slice q7 s2.length j7] 29 (0, 0)) (ub z0.out) hg (Kd.R_ne k0.out z0.out (by decide))); replace b1 := mk (blk_grown (g := j4) (o := .cells #[.slice none 0 0, .slice none 0 0, .slice none 0 0] 29 (0, 0)) (ub b1.out) hg (Kd.R_ne k0.out b1.out (by decide))); replace s0 := mk (blk_grown (g := g4) (o := .cells #[.slice (some ⟨qa4, 0, none⟩) g0.length va4, .slice (some ⟨oa4, 0, none⟩) b0.length sa4, .slice (some ⟨m4, 0, none⟩) d0.length j8] 29 (0, 0)) (ub s0.out) hg (Kd.R_ne k0.out s0.out (by decide))); replace o2 := mk (blk_grown (g := m2) (o := .cells #[.int .i64 ((rd_T50 d0 q0).f0), .int .i64 ((rd_T50 d0 q0).f1)] 50 (0, 0)) (ub o2.out) hg (Kd.R_away k0.out (fun _ hk => hk))); replace k0 := mk hp_; replace HB := mk ((by rw [hw]; exact below_set (HB.out) qc3.out : Below w.heap.size w w90)); clear hg hw hp_))
        go_roundg k2
        case measure => have := HJ4.out; have := HK2.out; omega
        case rel => exact ⟨(q1), (wrap64 (z2 + s4)), (wrap64 (q0 + 1)), (oa2), (ga3), (ba7), (.slice (some ⟨qa4, 0, none⟩) g0.length va4), (.slice (some ⟨oa4, 0, none⟩) b0.length sa4), (.slice (some ⟨m4, 0, none⟩) d0.length j8), (by first | rfl | (simp; done) | (simp only [← b5] <;> (first | rfl | simp)) | (simp [*]; done)), (by first | rfl | (simp; done) | (simp [*]; done)), (by first | rfl | (simp; done) | (simp [*]; done)), H', ⟨by rw [HU2.out]⟩, ⟨by have := HJ4.out; have := HK2.out; omega⟩, ⟨by exact up (Kd.R_mono m0.out (fun _ hk => hk.2))⟩, ⟨up o0.out⟩, ⟨by exact up (Kd.R_mono k0.out (fun _ hk => trivial))⟩, ⟨ub z0.out⟩, ⟨ub b1.out⟩, ⟨ub s0.out⟩, ⟨bl⟩⟩
      ·have zb1 : decide (q0 < (b4.length : Int)) = false := decide_eq_false c43
       clear c43
       obtain ⟨k1, a5⟩ : ∃ j_ : Int, (wrap64 ((g0.length : Int) - 1)) = j_ := ⟨_, rfl⟩
       replace H : (if 0 ≤ (k1) then (if (k1) < (g0.length : Int) then (if 0 ≤ g1 then (if g1 < (g0.length : Int) then (if (k1) < (b0.length : Int) then (if g1 < (b0.length : Int) then ((impl_Cracker_put.f g1 (k1)).bind fun q4 => (if (k1) ≤ (g0.length : Int) then (if (k1) ≤ (b0.length : Int) then (some (((g0.set (g1 : Int).toNat (rd g0 (k1))).take ((k1) : Int).toNat), ((b0.set (g1 : Int).toNat (rd b0 (k1))).take ((k1) : Int).toNat), d0, wrap64 (z2 + q4), true)) else (none)) else (none))) else (none)) else (none)) else (none)) else (none)) else (none)) else (none)) = some (r1, r2, r3, r4, r5) := by first | (rw [a5] at H; exact H) | (simp only [a5] at H ⊢; exact H)
       have bb4 : (IntKind.i64.wrap ((g0.length : Int) - 1)) = k1 := (i64_w _).trans a5
       revert H; refine ca fun c92 H => ?_
       have kc2 : decide (0 ≤ (k1)) = true := decide_eq_true c92
       clear c92
       revert H; refine ca fun c93 H => ?_
       have jc2 : decide ((k1) < (g0.length : Int)) = true := decide_eq_true c93
       clear c93
       revert H; refine ca fun c94 H => ?_
       have gc2 : decide (0 ≤ g1) = true := decide_eq_true c94
       clear c94
       revert H; refine ca fun c95 H => ?_
       have dc2 : decide (g1 < (g0.length : Int)) = true := decide_eq_true c95
       clear c95
       obtain ⟨da3, hy_⟩ : ∃ y_ : List Int, y_ = (g0.set (g1 : Int).toNat (rd g0 (k1))) := ⟨_, rfl⟩
       replace H : (if (k1) < (b0.length : Int) then (if g1 < (b0.length : Int) then ((impl_Cracker_put.f g1 (k1)).bind fun q4 => (if (k1) ≤ (g0.length : Int) then (if (k1) ≤ (b0.length : Int) then (some ((da3.take ((k1) : Int).toNat), ((b0.set (g1 : Int).toNat (rd b0 (k1))).take ((k1) : Int).toNat), d0, wrap64 (z2 + q4), true)) else (none)) else (none))) else (none)) else (none)) = some (r1, r2, r3, r4, r5) := hw
       have ba5 := mk hy_
       clear hy_
       revert H; refine ca fun c97 H => ?_
       have bc2 : decide ((k1) < (b0.length : Int)) = true := decide_eq_true c97
       clear c97
       revert H; refine ca fun c98 H => ?_
       have ac2 : decide (g1 < (b0.length : Int)) = true := decide_eq_true c98
       clear c98
       obtain ⟨ba3, hy_⟩ : ∃ y_ : List Int, y_ = (b0.set (g1 : Int).toNat (rd b0 (k1))) := ⟨_, rfl⟩
       replace H : ((impl_Cracker_put.f g1 (k1)).bind fun q4 => (if (k1) ≤ (g0.length : Int) then (if (k1) ≤ (b0.length : Int) then (some ((da3.take ((k1) : Int).toNat), (ba3.take ((k1) : Int).toNat), d0, wrap64 (z2 + q4), true)) else (none)) else (none))) = some (r1, r2, r3, r4, r5) := hw
       have aa5 := mk hy_
       clear hy_
       revert H; refine bo ?_; rintro q4 yc3 H
       revert H; refine ca fun gb2 H => ?_
       have mb6 := eq_true gb2
       have kb6 : decide ((k1) ≤ (g0.length : Int)) = true := decide_eq_true gb2
       clear gb2
       obtain ⟨ka5, hy_⟩ : ∃ y_ : List Int, y_ = (da3.take ((k1) : Int).toNat) := ⟨_, rfl⟩
       replace H : (if (k1) ≤ (b0.length : Int) then (some (ka5, (ba3.take ((k1) : Int).toNat), d0, wrap64 (z2 + q4), true)) else (none)) = some (r1, r2, r3, r4, r5) := hw
       have za4 := mk hy_
       clear hy_
       revert H; refine ca fun db2 H => ?_
       have jb6 := eq_true db2
       have gb6 : decide ((k1) ≤ (b0.length : Int)) = true := decide_eq_true db2
       clear db2
       obtain ⟨aa7, hy_⟩ : ∃ y_ : List Int, y_ = (ba3.take ((k1) : Int).toNat) := ⟨_, rfl⟩
       replace H : (some (ka5, aa7, d0, wrap64 (z2 + q4), true)) = some (r1, r2, r3, r4, r5) := hw
       have ya4 := mk hy_
       clear hy_
       simp only [Option.some.injEq, Prod.mk.injEq] at H
       obtain ⟨rfl, rfl, rfl, rfl, rfl⟩ := H
       have ab4 := m1.out
       have vb3 := o1.out
       have zb3 := s1.out
       have sb3 := v1.out
       obtain ⟨za6, ya6, va6, ga6, da6, ba6⟩ := bz3 s0
       obtain ⟨vc3, g7, qb1⟩ := Kd.R_slice m0.out
       subst qb1
       have za7 : 0 ≤ ((k1) : Int) := dt
       have ka7 : (k1) < (g0.length : Int) := dt
       obtain ⟨dc3, oc1, v9⟩ := Kd.at_int (Kd.R_reads' m0.out).2.2 (k1) za7 ka7
       cases oc1
       replace za7 := eq_true za7
       replace ka7 := eq_true ka7
       have p96 : 0 ≤ (g1 : Int) := dt
       have q96 : (g1 : Int) < ((g0.length : Int) : Int) := dt
       obtain ⟨ma4, mc4, zb5, ob5, qc0, yc4, sb6⟩ := Kd.R_form m0.out (by omega)
       (first | cases zb5 | (injection zb5 with ea_ en_ ec_; (first | subst ea_ | (injection ea_ with ea_; subst ea_)); subst ec_; clear en_))
       have yc5 := mk ob5
       have mc5 := mk sb6
       clear ob5 qc0 sb6
       (first | simp only [add_plain] at v9 | skip)
       obtain ⟨gb3, qb4⟩ := Kd.R_celln 0 m0.out (g1 : Int) p96 q96
       replace p96 := eq_true p96
       replace q96 := eq_true q96
       have kc3 := Kd.R_putg m0.out (g1 : Int) (rd g0 (k1))
       go_wp2_with (first | ((with_reducible refine gate_callee (f := 33) rfl ?_); obtain ⟨sc3, d7, ob1⟩ := Kd.R_slice o0.out; subst ob1; have ya7 : 0 ≤ ((k1) : Int) := dt; have ja7 : (k1) < (b0.length : Int) := dt; obtain ⟨bc3, mc1, s9⟩ := Kd.at_int (Kd.R_reads' o0.out).2.2 (k1) ya7 ja7; cases mc1; replace ya7 := eq_true ya7; replace ja7 := eq_true ja7; have p99 : 0 ≤ (g1 : Int) := dt; have q99 : (g1 : Int) < ((b0.length : Int) : Int) := dt; obtain ⟨ka4, kc4, yb5, mb5, oc0, vc4, qb6⟩ := Kd.R_form o0.out (by omega); (first | cases yb5 | (injection yb5 with ea_ en_ ec_; (first | subst ea_ | (injection ea_ with ea_; subst ea_)); subst ec_; clear en_)); have vc5 := mk mb5; have kc5 := mk qb6; clear mb5 oc0 qb6; (first | simp only [add_plain] at s9 | skip); obtain ⟨db3, ob4⟩ := Kd.R_celln 0 o0.out (g1 : Int) p99 q99; replace p99 := eq_true p99; replace q99 := eq_true q99; refine goesL_ (some 71) rfl rfl Try.func33 (by kernel_rfl) rfl #[.pointer (some ⟨g4, 0, none⟩), .int .i64 g1, .int .i64 k1] rfl (by (try simp only [List.map_toArray, List.map_cons, List.map_nil]); first | done | (simp only [a5]; rfl) | rfl | (simp only [List.length_drop, List.length_take]; rfl)) ?_; (with_reducible refine (impl_Cracker_put.callsS w _ g4 (.slice (some ⟨ma4, 0, none⟩) g0.length g7) (.slice (some ⟨ka4, 0, none⟩) b0.length d7) (g3) g0 b0 _ g1 k1 q4 bl ⟨ub s0.out, ja5.out, up m0.out, up o0.out, up k0.out⟩ (show 0 ≤ (g1 : Int) from dt) (show (g1 : Int) < (g0.length : Int) from dt) (show (g1 : Int) < (b0.length : Int) from dt) (show 0 ≤ (k1 : Int) from dt) (show (k1 : Int) < (g0.length : Int) from dt) (show (k1 : Int) < (b0.length : Int) from dt) yc3.out).mono ?_); rintro e bb3 ⟨rfl, hcs, hb, hfar⟩; refine ⟨_, rfl, ?_⟩; have n0_ := mk (show Kd.R (Kd.int .i64) 3 bb3 w.heap.size (fun k_ => True ∧ some k_ ≠ (.slice (some ⟨ka4, 0, none⟩) b0.length d7 : Value).ownBlock) (.slice (some ⟨ma4, 0, none⟩) g0.length g7) da3 from by rw [ba5.out]; exact Kd.R_mono hcs.r0 (fun _ hk => ⟨trivial, hk⟩)); have n1_ := mk (show Kd.R (Kd.int .i64) 3 bb3 w.heap.size (fun k_ => some k_ ≠ (.slice (some ⟨ma4, 0, none⟩) g0.length g7 : Value).ownBlock) (.slice (some ⟨ka4, 0, none⟩) b0.length d7) ba3 from by rw [aa5.out]; exact hcs.r1); have n2_ := mk (hcs.r2); have n3_ := mk (hfar.at (ub z0.out) (by decide)); have n4_ := mk (hfar.at (ub b1.out) (by decide)); have n5_ := mk (hcs.blk); have n6_ := mk (hb); have lyy237_ : da3.length = g0.length := (by rw [ba5.out, List.length_set]); have lyy239_ : ba3.length = b0.length := (by rw [aa5.out, List.length_set]); clear m0; clear o0; clear k0; clear z0; clear b1; clear s0; clear HB; have m0 := n0_; have o0 := n1_; have k0 := n2_; have z0 := n3_; have b1 := n4_; have s0 := n5_; have HB := n6_; clear n0_ n1_ n2_ n3_ n4_ n5_ n6_; (try clear hb hcs hfar); obtain ⟨sa6, qa6, oa6, aa6, za5, ya5⟩ := bz3 s0; have va7 : ((k1) : Int) ≤ ((g0.length : Int) : Int) := dt; obtain ⟨bb7, z8, _, ya3, _⟩ := info_parts info3; have da2 := cut_to (P := Try.prog) 22 3 .i64 Try.underlying22 z8 (some ⟨ma4, 0, none⟩) g0.length g7 (k1) dt va7 (Kd.R_reads' m0.out).2.1; have d8 := Kd.R_take (m := ((k1) : Int).toNat) m0.out (by omega); have qa3 : ka5.length = ((k1) : Int).toNat := (by rw [za4.out, List.length_take]; omega); rw [← za4.out] at d8; rw [← qa3] at d8 da2; clear qa3 z8 ya3 m0; have qb2 := mk d8; clear d8; replace va7 := eq_true va7; have sa7 : ((k1) : Int) ≤ ((b0.length : Int) : Int) := dt; obtain ⟨ab7, y8, _, va3, _⟩ := info_parts info3; have ba2 := cut_to (P := Try.prog) 22 3 .i64 Try.underlying22 y8 (some ⟨ka4, 0, none⟩) b0.length d7 (k1) dt sa7 (Kd.R_reads' o0.out).2.1; have b8 := Kd.R_take (m := ((k1) : Int).toNat) o0.out (by omega); have oa3 : aa7.length = ((k1) : Int).toNat := (by rw [ya4.out, List.length_take]; omega); rw [← ya4.out] at b8; rw [← oa3] at b8 ba2; clear oa3 y8 va3 o0; have ob2 := mk b8; clear b8; replace sa7 := eq_true sa7; have yb3 := z1.out; have qb3 := b2.out; obtain ⟨ma6, ka6, ja6, va5, sa5, qa5⟩ := bz3 b1; obtain ⟨ab3, vb1, mb1⟩ := Kd.R_slice k0.out; subst mb1))
       go_region
       go_wp2
       refine bodyPost_ret (results_ctt rfl _ _ j4 29 #[.slice (some ⟨ma4, 0, none⟩) ka5.length g7, .slice (some ⟨ka4, 0, none⟩) aa7.length d7, .slice ab3 d0.length vb1] (0, 0) _ rfl bq Try.underlying29 rfl (by kernel_rfl)) rfl ?_
       exact ⟨_, _, _, by first | rfl | (simp [errW_none, errW_some] <;> rfl) | (simp only [← a5]; first | rfl | (simp [errW_none, errW_some] <;> rfl)) | (simp [*, errW_none, errW_some] <;> rfl), (by exact rm (rs2 qb2 s0 b1)), (by exact rm (rs2 ob2 s0 b1)), (by exact rm (rs2 k0 s0 b1)), bl⟩

/-! ### spec_IsItem: function 40 -/
def spec_IsItem.f (a0_0 : Int) (a0_1 : Int) : Option (Bool) := (spec_l1In.f a0_0 (-999) 999).bind fun ka3 => (if ka3 = true then ((spec_l1In.f a0_1 0 999).bind fun ja3 => (some ja3)) else (some false))
set_option maxHeartbeats 8000000 in
set_option maxRecDepth 100000 in
theorem spec_IsItem.calls (a0_0 : Int) (a0_1 : Int) (r : Bool) (w : World) (h : spec_IsItem.f a0_0 a0_1 = some r) :
    Calls Try.prog 40 #[.agg #[.int .i64 a0_0, .int .i64 a0_1]] w fun e w' => e = .returned (.bool r) ∧ Below w.heap.size w w' := by
  have hu39 := Try.underlying39
  have HB := mk (Below.refl w.heap.size w)
  have H : ((spec_l1In.f a0_0 (-999) 999).bind fun ka3 => (if ka3 = true then ((spec_l1In.f a0_1 0 999).bind fun ja3 => (some ja3)) else (some false))) = some r := h
  clear h
  revert H; refine bo ?_; rintro ka3 A2 H
  by_cases c3 : ka3 = true
  · subst c3
    rw [if_pos rfl] at H
    revert H; refine bo ?_; rintro ja3 A4 H
    obtain rfl := Option.some.inj H
    go_enter Try.func40, Try.ntmps40
    go_wp2_with (first | ((with_reducible refine gate_dst (N := 1) rfl ?_); refine bx 1 #[.int .i64 a0_0, .int .i64 a0_1] 39 ?_; intro kb1 hg w5 hbox hb; have ma2 := mk hbox; have sb2 := wg hg; have yb2 := wg hg; replace HB := wh hb; clear hb hbox hg; obtain ⟨gb5, db5, mb4, kb4⟩ := bz2 ma2) | ((with_reducible refine gate_callee (f := 54) rfl ?_); refine gl (some 5) rfl Try.func54 #[.int .i64 a0_0, .int .i64 (-999), .int .i64 999] ?_; (with_reducible refine (spec_l1In.calls a0_0 (-999) 999 true _ A2.out).mono ?_); rintro e w' ⟨rfl, ⟨nd, rfl⟩⟩; refine ⟨_, rfl, ?_⟩) | (go_at_call 54; (with_reducible refine (spec_l1In.calls a0_1 0 999 ja3 _ A4.out).mono ?_); rintro e w' ⟨rfl, ⟨nd, rfl⟩⟩))
    go_ret
    exact ⟨rx, bl⟩
  · replace c3 := Bool.eq_false_iff.mpr c3
    subst c3
    rw [if_neg nf] at H
    obtain rfl := Option.some.inj H
    go_enter Try.func40, Try.ntmps40
    go_wp2_with (first | ((with_reducible refine gate_dst (N := 1) rfl ?_); refine bx 1 #[.int .i64 a0_0, .int .i64 a0_1] 39 ?_; intro kb1 hg w7 hbox hb; have ma2 := mk hbox; have sb2 := wg hg; have yb2 := wg hg; replace HB := wh hb; clear hb hbox hg; obtain ⟨bb5, ab5, jb4, gb4⟩ := bz2 ma2) | ((with_reducible refine gate_callee (f := 54) rfl ?_); refine gl (some 5) rfl Try.func54 #[.int .i64 a0_0, .int .i64 (-999), .int .i64 999] ?_; (with_reducible refine (spec_l1In.calls a0_0 (-999) 999 false _ A2.out).mono ?_); rintro e w' ⟨rfl, ⟨nd, rfl⟩⟩; refine ⟨_, rfl, ?_⟩))
    go_ret
    exact ⟨rx, bl⟩

end Go.Proofs.Ytlikcmonejefoab.PFnRipples
