-- printed by a program of this session, a turned copy of the print of the kit
import Derived.Test.YtlikcmonejefoabSr
import Derived.Test.YtlikcmonejefoabPFnRipplesx0
import Derived.Test.YtlikcmonejefoabPFnRipplesx4
import Derived.Test.YtlikcmonejefoabPFnRipplesx5
namespace Go.Proofs.Ytlikcmonejefoab.PFnRipples
open Go.RowKit Go.Proofs.YtlikcmonejefoabW.PrintWords Go.Proofs.YtlikcmonejefoabW.PrintLast Go.Proofs.YtlikcmonejefoabW.PrintMore Go.Proofs.Ytlikcmonejefoab.Sq
attribute [local go_sem] max2_int min2_int max_two min_two max_three min_three max_four min_four Giv.cell_twice   -- for this text's walks alone
set_option linter.unusedVariables false
set_option linter.unusedSimpArgs false

/-! ### spec_l10Move: function 29 -/
def spec_l10Move.f (a0 : Int) (a1 : Int) : Option (Int) := some (if a0 = a1 then 0 else 1)
set_option maxHeartbeats 4000000 in
set_option maxRecDepth 1000000 in
theorem spec_l10Move.callsS {okP : Nat → Prop} (w0 W : World) (gb : Nat) (v0 v1 v2 : Value) (V R : List Int) (P : List (S50)) (a1 a2 r : Int) (hB : Below w0.heap.size w0 W) (h : Cs.CS okP k50 50 29 w0.heap.size W gb v0 v1 v2 V R P)
    (t0 : 0 ≤ a1) (t1 : a1 < (V.length : Int)) (t2 : a1 < (R.length : Int)) (f0 : 0 ≤ a2) (f1 : a2 < (V.length : Int)) (f2 : a2 < (R.length : Int)) (hr : spec_l10Move.f a2 a1 = some r) :
    Calls Try.prog 29 #[.pointer (some ⟨gb, 0, none⟩), .int .i64 a2, .int .i64 a1] W fun e w' => e = .returned (.int .i64 r) ∧
      (Cs.CS okP k50 50 29 w0.heap.size w' gb v0 v1 v2 (V.set a1.toNat (rd V a2)) (R.set a1.toNat (rd R a2)) P ∧ Below w0.heap.size w0 w' ∧ Cs.Far W w') := by
  have hu := Try.underlying29
  obtain rfl := Option.some.inj hr
  by_cases he : a1 = a2
  · subst he
    have H := mk h
    have HB := mk hB
    have e1 := mk (Cs.set_self V a1 t0 t1)
    have e2 := mk (Cs.set_self R a1 t0 t2)
    clear h hB hr
    go_enter Try.func29, Try.ntmps29
    go_wp2
    go_ret
    exact ⟨by simp, by rw [e1.out, e2.out]; exact H.out, HB.out, Nat.le_refl _, fun _ _ _ _ h => h⟩
  · obtain ⟨g0, c0, e0, b0, l0, q0⟩ := Kd.R_form h.r0 (by omega)
    obtain ⟨g1, c1, e1, b1, l1, q1⟩ := Kd.R_form h.r1 (by omega)
    subst e0 e1
    have hg : g0 ≠ g1 := fun e => h.r0.1 g0 rfl (by rw [e]; rfl)
    have hg' : g1 ≠ g0 := fun e => hg e.symm
    have n0 : gb ≠ g0 := fun e => Kd.R_ne h.r0 h.blk (by decide) (by rw [e]; rfl)
    have n1 : gb ≠ g1 := fun e => Kd.R_ne h.r1 h.blk (by decide) (by rw [e]; rfl)
    have n0' : g0 ≠ gb := fun e => n0 e.symm
    have n1' : g1 ≠ gb := fun e => n1 e.symm
    have hb0 : W.cell? ⟨gb, 0, none⟩ = some (.slice (some ⟨g0, 0, none⟩) V.length c0) := (blk_cell h.blk 0).trans rfl
    have hb1 : W.cell? ⟨gb, 1, none⟩ = some (.slice (some ⟨g1, 0, none⟩) R.length c1) := (blk_cell h.blk 1).trans rfl
    obtain ⟨ct0, ft0⟩ := Kd.R_celln 0 h.r0 a1 t0 t1
    obtain ⟨cf0, ff0⟩ := Kd.R_celln 0 h.r0 a2 f0 f1
    obtain ⟨ct1, ft1⟩ := Kd.R_celln 0 h.r1 a1 t0 t2
    obtain ⟨cf1, ff1⟩ := Kd.R_celln 0 h.r1 a2 f0 f2
    replace cf0 : W.cell? ⟨g0, a2.toNat, none⟩ = some (.int .i64 (rd V a2)) := cf0
    replace cf1 : W.cell? ⟨g1, a2.toNat, none⟩ = some (.int .i64 (rd R a2)) := cf1
    have HS := mk ((h.drew.setV (by decide) (by decide) a1 (rd V a2)).setR (by decide) (by decide) a1 (rd R a2))
    have HB := mk (below_set (j := a1.toNat) (v := .int .i64 (rd R a2)) (below_set (j := a1.toNat) (v := .int .i64 (rd V a2)) (below_drew1 hB) b0) b1)
    have HF := mk (show Cs.Far W ((W.drew.setCell ⟨g0, a1.toNat, none⟩ (.int .i64 (rd V a2))).setCell ⟨g1, a1.toNat, none⟩ (.int .i64 (rd R a2))) from
      ⟨by simp, fun g cs T hT hh => Cs.far3 (Kd.R_mono (h.drew.setV (by decide) (by decide) a1 (rd V a2)).r1 (fun _ hk => hk)) (Cs.far3 h.drew.r0 hh hT _ _) hT _ _⟩)
    have hv : (a1 == a2) = false := by simpa using he
    have he2 : ¬ a2 = a1 := fun e => he e.symm
    have hv2 : (a2 == a1) = false := by simpa using he2
    clear h hB q0 q1 b0 l0 b1 l1 ff0 ff1
    go_enter Try.func29, Try.ntmps29
    go_wp2
    go_region
    go_wp2
    go_region
    go_wp2
    go_ret
    exact ⟨rfl, HS.out.drew, below_drew1 HB.out, HF.out⟩


/-! ### spec_RippleDelete: function 7 -/
mutual
def spec_RippleDelete.j0 : Nat → Int → Bool → List Int → List Int → List (S50) → Option (List Int × List Int × (List (S50)) × Int × Bool)
 | 0, _, _, _, _, _ => none
 | k + 1, x7, x22, v3, z4, v4 => if x22 = true then ((spec_l4Copy.f v3 z4 v4).bind fun oa2 => (some (oa2.1, oa2.2.1, oa2.2.2, 0, false))) else ((spec_l4Copy.f v3 z4 v4).bind fun ma2 => (if 0 ≤ x7 then (if x7 < (v3.length : Int) then (spec_RippleDelete.l0 k x7 (rd v3 x7) 0 0 ma2.1 ma2.2.1 ma2.2.2) else (none)) else (none)))
def spec_RippleDelete.l0 : Nat → Int → Int → Int → Int → List Int → List Int → List (S50) → Option (List Int × List Int × (List (S50)) × Int × Bool)
 | 0, _, _, _, _, _, _, _ => none
 | k + 1, x7, x9, x10, x11, m1, b2, s1 => if x11 < (s1.length : Int) then (if 0 ≤ x11 then (if ((rd_T50 s1 x11).f0) ≤ x9 then (spec_RippleDelete.l0 k x7 x9 x10 (wrap64 (x11 + 1)) m1 b2 s1) else (if 0 ≤ (wrap64 (((rd_T50 s1 x11).f1) - 1)) then (if (wrap64 (((rd_T50 s1 x11).f1) - 1)) < (m1.length : Int) then (if 0 ≤ x7 then (if x7 < (m1.length : Int) then (if (wrap64 (((rd_T50 s1 x11).f1) - 1)) < (b2.length : Int) then (if x7 < (b2.length : Int) then ((spec_l10Move.f (wrap64 (((rd_T50 s1 x11).f1) - 1)) x7).bind fun a5 => (spec_RippleDelete.l0 k (wrap64 (((rd_T50 s1 x11).f1) - 1)) x9 (wrap64 (x10 + a5)) (wrap64 (x11 + 1)) (m1.set (x7 : Int).toNat (rd m1 (wrap64 (((rd_T50 s1 x11).f1) - 1)))) (b2.set (x7 : Int).toNat (rd b2 (wrap64 (((rd_T50 s1 x11).f1) - 1)))) (s1.set (x11 : Int).toNat (⟨(rd_T50 s1 x11).f0, wrap64 (((rd_T50 s1 x11).f1) - 1)⟩ : S50)))) else (none)) else (none)) else (none)) else (none)) else (none)) else (none))) else (none)) else (if 0 ≤ (wrap64 ((m1.length : Int) - 1)) then (if (wrap64 ((m1.length : Int) - 1)) < (m1.length : Int) then (if 0 ≤ x7 then (if x7 < (m1.length : Int) then (if (wrap64 ((m1.length : Int) - 1)) < (b2.length : Int) then (if x7 < (b2.length : Int) then ((spec_l10Move.f (wrap64 ((m1.length : Int) - 1)) x7).bind fun g4 => (if (wrap64 ((m1.length : Int) - 1)) ≤ (m1.length : Int) then (if 0 ≤ (wrap64 ((b2.length : Int) - 1)) then (if (wrap64 ((b2.length : Int) - 1)) ≤ (b2.length : Int) then (some (((m1.set (x7 : Int).toNat (rd m1 (wrap64 ((m1.length : Int) - 1)))).take ((wrap64 ((m1.length : Int) - 1)) : Int).toNat), ((b2.set (x7 : Int).toNat (rd b2 (wrap64 ((m1.length : Int) - 1)))).take ((wrap64 ((b2.length : Int) - 1)) : Int).toNat), s1, wrap64 (x10 + g4), true)) else (none)) else (none)) else (none))) else (none)) else (none)) else (none)) else (none)) else (none)) else (none))
end
def spec_RippleDelete.f (k : Nat) (q2 : List Int) (b3 : List Int) (z2 : List (S50)) (a1 : Int) : Option (List Int × List Int × (List (S50)) × Int × Bool) := (spec_FindRow.f k q2 b3 z2 a1).bind fun o3 => ((spec_IsCracker.f k q2 b3 z2).bind fun aa3 => (if aa3 = true then (spec_RippleDelete.j0 k o3 (decide (o3 < 0)) q2 b3 z2) else (spec_RippleDelete.j0 k o3 true q2 b3 z2)))
theorem spec_RippleDelete.mono_l : ∀ k, (∀ y0 y1 y2 y3 y4, LeO (spec_RippleDelete.j0 k y0 y1 y2 y3 y4) (spec_RippleDelete.j0 (k + 1) y0 y1 y2 y3 y4)) ∧ (∀ y0 y1 y2 y3 y4 y5 y6, LeO (spec_RippleDelete.l0 k y0 y1 y2 y3 y4 y5 y6) (spec_RippleDelete.l0 (k + 1) y0 y1 y2 y3 y4 y5 y6))
 | 0 => ⟨fun _ _ _ _ _ r h => by simp [spec_RippleDelete.j0] at h, fun _ _ _ _ _ _ _ r h => by simp [spec_RippleDelete.l0] at h⟩
 | k + 1 => by
  obtain ⟨ih0, ih1⟩ := spec_RippleDelete.mono_l k
  refine ⟨?_, ?_⟩
  ·intro y0 y1 y2 y3 y4
   unfold spec_RippleDelete.j0
   exact mo
  ·intro y0 y1 y2 y3 y4 y5 y6
   unfold spec_RippleDelete.l0
   exact mo
theorem spec_RippleDelete.mono : ∀ a0 a1 a2 a3 k, LeO (spec_RippleDelete.f k a0 a1 a2 a3) (spec_RippleDelete.f (k + 1) a0 a1 a2 a3) := by
 intro a0 a1 a2 a3 k
 obtain ⟨ih0, ih1⟩ := spec_RippleDelete.mono_l k
 unfold spec_RippleDelete.f
 exact mo
instance spec_RippleDelete.mi (a0 a1 a2 a3 k) : LeC (spec_RippleDelete.f k a0 a1 a2 a3) (spec_RippleDelete.f (k + 1) a0 a1 a2 a3) := ⟨spec_RippleDelete.mono a0 a1 a2 a3 k⟩
set_option maxHeartbeats 8000000 in
set_option maxRecDepth 100000 in
theorem spec_RippleDelete.calls (k : Nat) (a8 : Option Addr) (o4 : Nat) (q2 : List Int) (s4 : Option Addr) (m4 : Nat) (b3 : List Int) (q4 : Option Addr) (k4 : Nat) (z2 : List (S50)) (a1 : Int) (r1 : List Int) (r2 : List Int) (r3 : List (S50)) (r4 : Int) (r5 : Bool) (w : World) (qa3 : Kd.C (Kd.int .i64) w a8 q2.length q2) (hc0_0 : q2.length ≤ o4) (oa3 : Kd.C (Kd.int .i64) w s4 b3.length b3) (hc0_1 : b3.length ≤ m4) (ma3 : Kd.C k50 w q4 z2.length z2) (hc0_2 : z2.length ≤ k4) (h : spec_RippleDelete.f k q2 b3 z2 a1 = some (r1, r2, r3, r4, r5)) :
  Calls Try.prog 7 #[.agg #[.slice a8 q2.length o4, .slice s4 b3.length m4, .slice q4 z2.length k4], .int .i64 a1] w fun e w' => ∃ v0_ v1_ v2_ : Value, e = .returned (.tuple #[.agg #[v0_, v1_, v2_], .int .i64 r4, .bool r5]) ∧ Kd.R (Kd.int .i64) 3 w' w.heap.size (fun k_ => some k_ ≠ (v1_ : Value).ownBlock) v0_ r1 ∧ Kd.R (Kd.int .i64) 3 w' w.heap.size (fun k_ => some k_ ≠ (v0_ : Value).ownBlock) v1_ r2 ∧ Kd.R k50 50 w' w.heap.size (fun _ => True) v2_ r3 ∧ Below w.heap.size w w' := by
 have hu29 := Try.underlying29
 have d4 := mk qa3
 have z6 := mk hc0_0
 clear qa3 hc0_0
 have q6 := mk oa3
 have v6 := mk hc0_1
 clear oa3 hc0_1
 have o6 := mk ma3
 have s6 := mk hc0_2
 clear ma3 hc0_2
 have HB := mk (Below.refl w.heap.size w)
 have H : ((spec_FindRow.f k q2 b3 z2 a1).bind fun o3 => ((spec_IsCracker.f k q2 b3 z2).bind fun aa3 => (if aa3 = true then (spec_RippleDelete.j0 k o3 (decide (o3 < 0)) q2 b3 z2) else (spec_RippleDelete.j0 k o3 true q2 b3 z2)))) = some (r1, r2, r3, r4, r5) := h
 clear h
 revert H; refine bo ?_; rintro o3 A3 H
 have HC4 := mk H
 clear H
 go_enter Try.func7, Try.ntmps7
 go_upto_region 2 with (first | ((with_reducible refine gate_dst (N := 2) rfl ?_); refine bx 2 #[.slice a8 q2.length o4, .slice s4 b3.length m4, .slice q4 z2.length k4] 29 ?_; intro k7 hg w5 hbox hb; have j1 := mk hbox; have dc0 := wg hg; replace HB := wh hb; clear hb hbox hg) | ((with_reducible refine gate_dst (N := 4) rfl ?_); refine bx 4 #[.slice none 0 0, .slice none 0 0, .slice none 0 0] 29 ?_; intro a4 hg w6 hbox hb; have k1 := mk hbox; have bc0 := wg hg; replace HB := wh hb; have m2 := nl j1 hg; have j2 := nr j1 hg; replace j1 := wb j1 hb; clear hb hbox hg; have dc1 := m2.out; have bc1 := j2.out; obtain ⟨q8, o8, m8, k8, j8, g8⟩ := bz3 j1) | ((with_reducible refine gate_callee (f := 27) rfl ?_); refine gl (some 15) rfl Try.func27 #[.agg #[.slice a8 q2.length o4, .slice s4 b3.length m4, .slice q4 z2.length k4], .int .i64 a1] ?_; (with_reducible refine (spec_FindRow.calls k _ _ q2 _ _ b3 _ _ z2 a1 o3 _ ?side1 ?side2 ?side3 ?side4 ?side5 ?side6 A3.out).mono ?_); (case side1 => exact cb d4 HB); (case side2 => exact z6.out); (case side3 => exact cb q6 HB); (case side4 => exact v6.out); (case side5 => exact cb o6 HB); (case side6 => exact s6.out); rintro e w9 ⟨rfl, hb⟩; refine ⟨_, rfl, ?_⟩; replace j1 := wb j1 hb; replace k1 := wb k1 hb; replace HB := wh hb; (try clear hb)))
 (try simp only [Act.put, List.setIfInBounds_toArray, List.set_cons_zero, List.set_cons_succ])
 go_cut [22] (fun v22 wc => ∃ (kq : Nat) (b7 : Bool), v22 = .bool b7 ∧ Aside0 (spec_RippleDelete.j0 kq o3 b7 q2 b3 z2 = some (r1, r2, r3, r4, r5)) ∧ Aside0 (kq ≤ k) ∧ Aside0 (wc.heap[k7]? = some (.cells #[(.slice a8 q2.length o4), (.slice s4 b3.length m4), (.slice q4 z2.length k4)] 29 (0, 0))) ∧ Aside0 (wc.heap[a4]? = some (.cells #[(.slice none 0 0), (.slice none 0 0), (.slice none 0 0)] 29 (0, 0))) ∧ Aside0 (Below w.heap.size w wc))
 case first =>
  have H := HC4.out
  clear HC4
  revert H; refine bo ?_; rintro aa3 A10 H
  by_cases c11 : aa3 = true
  ·subst c11
   rw [if_pos rfl] at H
   have H' := mk H
   clear H
   have zb5 := m2.out
   have ab5 := j2.out
   obtain ⟨m6, k6, j6, a6, z5, v5⟩ := bz3 j1
   go_wp2_with (first | ((with_reducible refine gate_callee (f := 23) rfl ?_); refine gl (some 17) rfl Try.func23 #[.agg #[.slice a8 q2.length o4, .slice s4 b3.length m4, .slice q4 z2.length k4]] ?_; (with_reducible refine (spec_IsCracker.calls k _ _ q2 _ _ b3 _ _ z2 true _ ?side1 ?side2 ?side3 ?side4 ?side5 ?side6 A10.out).mono ?_); (case side1 => exact cb d4 HB); (case side2 => exact z6.out); (case side3 => exact cb q6 HB); (case side4 => exact v6.out); (case side5 => exact cb o6 HB); (case side6 => exact s6.out); rintro e w14 ⟨rfl, hb⟩; refine ⟨_, rfl, ?_⟩; replace j1 := wb j1 hb; replace k1 := wb k1 hb; replace HB := wh hb; (try clear hb)))
   go_meet
   case rel => exact ⟨_, (decide (o3 < 0)), (by first | rfl | (simp; done) | (simp [*]; done)), H', ⟨by first | omega | exact Nat.le_refl _⟩, ⟨ub j1.out⟩, ⟨ub k1.out⟩, ⟨bl⟩⟩
  ·replace c11 := Bool.eq_false_iff.mpr c11
   subst c11
   rw [if_neg nf] at H
   have H' := mk H
   clear H
   have yb5 := m2.out
   have zb4 := j2.out
   obtain ⟨g6, d6, b6, s5, q5, o5⟩ := bz3 j1
   go_wp2_with (first | ((with_reducible refine gate_callee (f := 23) rfl ?_); refine gl (some 17) rfl Try.func23 #[.agg #[.slice a8 q2.length o4, .slice s4 b3.length m4, .slice q4 z2.length k4]] ?_; (with_reducible refine (spec_IsCracker.calls k _ _ q2 _ _ b3 _ _ z2 false _ ?side1 ?side2 ?side3 ?side4 ?side5 ?side6 A10.out).mono ?_); (case side1 => exact cb d4 HB); (case side2 => exact z6.out); (case side3 => exact cb q6 HB); (case side4 => exact v6.out); (case side5 => exact cb o6 HB); (case side6 => exact s6.out); rintro e w17 ⟨rfl, hb⟩; refine ⟨_, rfl, ?_⟩; replace j1 := wb j1 hb; replace k1 := wb k1 hb; replace HB := wh hb; (try clear hb)))
   go_meet
   case rel => exact ⟨_, (true), (by first | rfl | (simp; done) | (simp [*]; done)), H', ⟨by first | omega | exact Nat.le_refl _⟩, ⟨ub j1.out⟩, ⟨ub k1.out⟩, ⟨bl⟩⟩
 case rest =>
  clear HC4
  try clear c1
  try clear c2
  try clear p2
  try clear c7
  try clear c11
  try clear c12
  try clear c15
  try clear m6
  try clear k6
  try clear j6
  try clear g6
  try clear d6
  try clear b6
  try clear q8
  try clear o8
  try clear m8
  try clear a6
  try clear z5
  try clear v5
  try clear s5
  try clear q5
  try clear o5
  try clear k8
  try clear j8
  try clear g8
  obtain ⟨kq, b7, rfl, HA, HJ3, j1, k1, HB⟩ := hcut
  cases kq with
  | zero => exact absurd HA.out (by simp [spec_RippleDelete.j0])
  | succ kj3 =>
   have H := HA.out
   clear HA
   simp only [spec_RippleDelete.j0] at H
   by_cases c18 : b7 = true
   ·subst c18
    rw [if_pos rfl] at H
    revert H; refine bo ?_; rintro ⟨vb0, sb0, qb0⟩ A19 H
    dsimp only at H
    simp only [Option.some.injEq, Prod.mk.injEq] at H
    obtain ⟨rfl, rfl, rfl, rfl, rfl⟩ := H
    have vb5 := m2.out
    have yb4 := j2.out
    obtain ⟨aa2, za1, ya1, va0, sa0, qa0⟩ := bz3 j1
    go_wp2_with (first | ((with_reducible refine gate_callee (f := 28) rfl ?_); refine gl (some 24) rfl Try.func28 #[.agg #[.slice a8 q2.length o4, .slice s4 b3.length m4, .slice q4 z2.length k4]] ?_; (with_reducible refine (spec_l4Copy.calls _ _ q2 _ _ b3 _ _ z2 vb0 sb0 qb0 _ ?side1 ?side2 ?side3 ?side4 ?side5 ?side6 A19.out).mono ?_); (case side1 => exact cb d4 HB); (case side2 => exact z6.out); (case side3 => exact cb q6 HB); (case side4 => exact v6.out); (case side5 => exact cb o6 HB); (case side6 => exact s6.out); rintro e w22 ⟨zc0, yc0, vc0, rfl, ho0, ho1, ho2, hb⟩; refine ⟨_, rfl, ?_⟩; have ya4 := lo ho0; have va4 := lo ho1; have sa4 := lo ho2; replace j1 := wb j1 hb; replace k1 := wb k1 hb; replace HB := wh hb; (try clear hb ho0 ho1 ho2); obtain ⟨mc0, bb8, jb7⟩ := Kd.R_slice ya4.out; subst jb7; obtain ⟨va1, sa1, qa1, oa0, ma0, ka0⟩ := bz3 k1; obtain ⟨kc0, ab8, gb7⟩ := Kd.R_slice va4.out; subst gb7; obtain ⟨jc0, zb7, db7⟩ := Kd.R_slice sa4.out; subst db7))
    refine bodyPost_ret (results_ctt rfl _ _ a4 29 #[.slice mc0 vb0.length bb8, .slice kc0 sb0.length ab8, .slice jc0 qb0.length zb7] (0, 0) _ rfl bq Try.underlying29 rfl (by kernel_rfl)) rfl ?_
    exact ⟨_, _, _, rx, (by exact rm (rs1 ya4 k1)), (by exact rm (rs1 va4 k1)), (by exact rm (rs1 sa4 k1)), bl⟩
   ·replace c18 := Bool.eq_false_iff.mpr c18
    subst c18
    rw [if_neg nf] at H
    revert H; refine bo ?_; rintro ⟨da5, ba5, aa5⟩ A27 H
    dsimp only at H
    revert H; refine ca fun c28 H => ?_
    have gb0 : decide (0 ≤ o3) = true := decide_eq_true c28
    clear c28
    revert H; refine ca fun c29 H => ?_
    have db0 : decide (o3 < (q2.length : Int)) = true := decide_eq_true c29
    clear c29
    have H' := mk H
    clear H
    have sb5 := m2.out
    have vb4 := j2.out
    obtain ⟨oa1, ma1, ka1, ja0, ga0, da0⟩ := bz3 j1
    go_wp2_with (first | ((with_reducible refine gate_callee (f := 28) rfl ?_); refine gl (some 26) rfl Try.func28 #[.agg #[.slice a8 q2.length o4, .slice s4 b3.length m4, .slice q4 z2.length k4]] ?_; (with_reducible refine (spec_l4Copy.calls _ _ q2 _ _ b3 _ _ z2 da5 ba5 aa5 _ ?side1 ?side2 ?side3 ?side4 ?side5 ?side6 A27.out).mono ?_); (case side1 => exact cb d4 HB); (case side2 => exact z6.out); (case side3 => exact cb q6 HB); (case side4 => exact v6.out); (case side5 => exact cb o6 HB); (case side6 => exact s6.out); rintro e w32 ⟨sc0, qc0, oc0, rfl, ho0, ho1, ho2, hb⟩; refine ⟨_, rfl, ?_⟩; have z7 := lo ho0; have y7 := lo ho1; have s7 := lo ho2; replace j1 := wb j1 hb; replace k1 := wb k1 hb; replace HB := wh hb; (try clear hb ho0 ho1 ho2)) | ((with_reducible refine gate_dst (N := 8) rfl ?_); refine bx 8 #[.slice none 0 0, .slice none 0 0, .slice none 0 0] 29 ?_; intro d3 hg w33 hbox hb; replace z7 := ro z7 hb; replace y7 := ro y7 hb; replace s7 := ro s7 hb; have o1 := mk hbox; have qa2 := wg hg; have za4 := wg hg; replace HB := wh hb; have m3 := nl j1 hg; have j3 := nr j1 hg; replace j1 := wb j1 hb; have k3 := nl k1 hg; have g3 := nr k1 hg; replace k1 := wb k1 hb; clear hb hbox hg; obtain ⟨zb3, gb3, bb7⟩ := Kd.R_slice z7.out; subst bb7; have qb5 := j3.out; have sb4 := m3.out; have ob5 := g3.out; have qb4 := k3.out; obtain ⟨ja1, ga1, da1, ba0, aa0, z9⟩ := bz3 o1; obtain ⟨yb3, db3, ab7⟩ := Kd.R_slice y7.out; subst ab7; obtain ⟨vb3, bb3, zb6⟩ := Kd.R_slice s7.out; subst zb6; obtain ⟨ba1, aa1, za0, y9, v9, s9⟩ := bz3 j1; have ja5 : 0 ≤ (o3 : Int) := dt; have ga5 : o3 < (q2.length : Int) := dt; obtain ⟨b4, vb7, d2⟩ := Kd.at_int d4.out o3 ja5 ga5; cases vb7; have hn164_0 : b4.block ≠ d3 := Nat.ne_of_lt (Nat.lt_of_lt_of_le (by have := World.block_lt_of_cell? _ _ d2; first | rwa [add_block] at this | exact this) qa2.out); have hn164_1 : b4.block ≠ d3 := Nat.ne_of_lt (Nat.lt_of_lt_of_le (by have := World.block_lt_of_cell? _ _ d2; first | rwa [add_block] at this | exact this) qa2.out); have hn164_2 : b4.block ≠ d3 := Nat.ne_of_lt (Nat.lt_of_lt_of_le (by have := World.block_lt_of_cell? _ _ d2; first | rwa [add_block] at this | exact this) qa2.out); replace d2 := (HB.out.cell (World.block_lt_of_cell? w _ d2)).trans d2; replace d2 := (cell_far (p := ⟨d3, 0, none⟩) (by first | (rw [add_block]; exact hn164_0) | (show (Addr.add _ _).block ≠ _; rw [add_block]; exact hn164_0) | exact hn164_0) (.slice zb3 da5.length gb3)).trans d2; replace d2 := (cell_far (p := ⟨d3, 1, none⟩) (by first | (rw [add_block]; exact hn164_1) | (show (Addr.add _ _).block ≠ _; rw [add_block]; exact hn164_1) | exact hn164_1) (.slice yb3 ba5.length db3)).trans d2; replace d2 := (cell_far (p := ⟨d3, 2, none⟩) (by first | (rw [add_block]; exact hn164_2) | (show (Addr.add _ _).block ≠ _; rw [add_block]; exact hn164_2) | exact hn164_2) (.slice vb3 aa5.length bb3)).trans d2; clear hn164_0; clear hn164_1; clear hn164_2; replace ja5 := eq_true ja5; replace ga5 := eq_true ga5))
    go_loopg [7, 10, 11] kj3 (fun kq v7 v10 v11 w' => ∃ (z1 : Int) (s2 : Int) (d1 : Int) (k0 : List Int) (d0 : List Int) (m0 : List (S50)) (s3 : Value) (q3 : Value) (z3 : Value), v7 = .int .i64 z1 ∧ v10 = .int .i64 s2 ∧ v11 = .int .i64 d1 ∧ Aside0 (spec_RippleDelete.l0 kq z1 (rd q2 o3) s2 d1 k0 d0 m0 = some (r1, r2, r3, r4, r5)) ∧ Aside0 (kq ≤ kj3) ∧ Aside0 (Kd.R (Kd.int .i64) 3 w' w.heap.size (fun k_ => some k_ ≠ (q3 : Value).ownBlock) s3 k0) ∧ Aside0 (Kd.R (Kd.int .i64) 3 w' w.heap.size (fun k_ => some k_ ≠ (s3 : Value).ownBlock) q3 d0) ∧ Aside0 (Kd.R k50 50 w' w.heap.size (fun _ => True) z3 m0) ∧ Aside0 (w'.heap[k7]? = some (.cells #[(.slice (some b4) q2.length o4), (.slice s4 b3.length m4), (.slice q4 z2.length k4)] 29 (0, 0))) ∧ Aside0 (w'.heap[a4]? = some (.cells #[(.slice none 0 0), (.slice none 0 0), (.slice none 0 0)] 29 (0, 0))) ∧ Aside0 (w'.heap[d3]? = some (.cells #[s3, q3, z3] 29 (0, 0))) ∧ Aside0 (Below w.heap.size w w'))
    case atStart => exact ⟨(o3), (0), (0), (da5), (ba5), (aa5), (.slice zb3 da5.length gb3), (.slice yb3 ba5.length db3), (.slice vb3 aa5.length bb3), (by first | rfl | (simp; done) | (simp [*]; done)), (by first | rfl | (simp; done) | (simp [*]; done)), (by first | rfl | (simp; done) | (simp [*]; done)), H', ⟨Nat.le_refl _⟩, ⟨(by exact rm (rs1 z7 o1))⟩, ⟨(by exact rm (rs1 y7 o1))⟩, ⟨(by exact rm (rs1 s7 o1))⟩, ⟨bq⟩, ⟨bq⟩, ⟨bq⟩, ⟨bl⟩⟩
    case round =>
     clear H'
     try clear c1
     try clear p1
     try clear q1
     try clear hx1
     try clear c2
     try clear p2
     try clear c3
     try clear c7
     try clear c11
     try clear c12
     try clear c15
     try clear p16
     try clear q16
     try clear ac1
     try clear c18
     try clear c20
     try clear c23
     try clear c27
     try clear c28
     try clear gb0
     try clear c29
     try clear db0
     try clear c30
     try clear c35
     try clear c36
     try clear m6
     try clear k6
     try clear j6
     try clear g6
     try clear d6
     try clear b6
     try clear aa2
     try clear za1
     try clear ya1
     try clear va1
     try clear sa1
     try clear qa1
     try clear oa1
     try clear ma1
     try clear ka1
     try clear ja1
     try clear ga1
     try clear da1
     try clear ba1
     try clear aa1
     try clear za0
     try clear q8
     try clear o8
     try clear m8
     try clear a6
     try clear z5
     try clear v5
     try clear s5
     try clear q5
     try clear o5
     try clear va0
     try clear sa0
     try clear qa0
     try clear oa0
     try clear ma0
     try clear ka0
     try clear ja0
     try clear ga0
     try clear da0
     try clear ba0
     try clear aa0
     try clear z9
     try clear y9
     try clear v9
     try clear s9
     try clear k8
     try clear j8
     try clear g8
     try clear d2
     try clear ja5
     try clear p2
     try clear ga5
     obtain ⟨z1, s2, d1, k0, d0, m0, s3, q3, z3, rfl, rfl, rfl, HA, HK2, z0, s0, o0, j1, k1, o1, HB⟩ := hrel
     cases gk with
     | zero => exact absurd HA.out (by simp [spec_RippleDelete.l0])
     | succ k2 =>
      have H := HA.out
      clear HA
      simp only [spec_RippleDelete.l0] at H
      revert H; refine ci (fun c41 H => ?_) fun c41 H => ?_
      ·have bb0 : decide (d1 < (m0.length : Int)) = true := decide_eq_true c41
       clear c41
       revert H; refine ca fun c42 H => ?_
       have ob9 : decide (0 ≤ d1) = true := decide_eq_true c42
       clear c42
       revert H; refine ci (fun c43 H => ?_) fun c43 H => ?_
       ·have ab0 : decide (((rd_T50 m0 d1).f0) ≤ (rd q2 o3)) = true := decide_eq_true c43
        clear c43
        have H' := mk H
        clear H
        have mb5 := j3.out
        have ob4 := m3.out
        have kb5 := g3.out
        have mb4 := k3.out
        obtain ⟨va9, sa9, qa9, ya8, va8, sa8⟩ := bz3 o1
        obtain ⟨kc3, yb7, yb6⟩ := Kd.R_slice o0.out
        subst yb6
        have d9 : 0 ≤ (d1 : Int) := dt
        have b9 : d1 < (m0.length : Int) := dt
        obtain ⟨o7, za9, g5, d5⟩ := at_T50 (Kd.R_reads' o0.out).2.2 d1 d9 b9
        cases za9
        replace d9 := eq_true d9
        replace b9 := eq_true b9
        go_wp2
        go_roundg k2
        case measure => have := HJ3.out; have := HK2.out; omega
        case rel => exact ⟨(z1), (s2), (wrap64 (d1 + 1)), (k0), (d0), (m0), (s3), (q3), (.slice (some o7) m0.length yb7), (by first | rfl | (simp; done) | (simp [*]; done)), (by first | rfl | (simp; done) | (simp [*]; done)), (by first | rfl | (simp; done) | (simp [*]; done)), H', ⟨by have := HJ3.out; have := HK2.out; omega⟩, ⟨up z0.out⟩, ⟨up s0.out⟩, ⟨up o0.out⟩, ⟨ub j1.out⟩, ⟨ub k1.out⟩, ⟨ub o1.out⟩, ⟨bl⟩⟩
       ·have ab0 : decide (((rd_T50 m0 d1).f0) ≤ (rd q2 o3)) = false := decide_eq_false c43
        clear c43
        obtain ⟨g2, m5⟩ : ∃ j_ : Int, (wrap64 (((rd_T50 m0 d1).f1) - 1)) = j_ := ⟨_, rfl⟩
        replace H : (if 0 ≤ (g2) then (if (g2) < (k0.length : Int) then (if 0 ≤ z1 then (if z1 < (k0.length : Int) then (if (g2) < (d0.length : Int) then (if z1 < (d0.length : Int) then ((spec_l10Move.f (g2) z1).bind fun a5 => (spec_RippleDelete.l0 k2 g2 (rd q2 o3) (wrap64 (s2 + a5)) (wrap64 (d1 + 1)) (k0.set (z1 : Int).toNat (rd k0 (g2))) (d0.set (z1 : Int).toNat (rd d0 (g2))) (m0.set (d1 : Int).toNat (⟨(rd_T50 m0 d1).f0, g2⟩ : S50)))) else (none)) else (none)) else (none)) else (none)) else (none)) else (none)) = some (r1, r2, r3, r4, r5) := by first | (rw [m5] at H; exact H) | (simp only [m5] at H ⊢; exact H)
        have qb1 : (IntKind.i64.wrap (((rd_T50 m0 d1).f1) - 1)) = g2 := (i64_w _).trans m5
        revert H; refine ca fun c49 H => ?_
        have mb9 : decide (0 ≤ (g2)) = true := decide_eq_true c49
        clear c49
        revert H; refine ca fun c50 H => ?_
        have kb9 : decide ((g2) < (k0.length : Int)) = true := decide_eq_true c50
        clear c50
        revert H; refine ca fun c51 H => ?_
        have jb9 : decide (0 ≤ z1) = true := decide_eq_true c51
        clear c51
        revert H; refine ca fun c52 H => ?_
        have gb9 : decide (z1 < (k0.length : Int)) = true := decide_eq_true c52
        clear c52
        obtain ⟨sa2, hy_⟩ : ∃ y_ : List Int, y_ = (k0.set (z1 : Int).toNat (rd k0 (g2))) := ⟨_, rfl⟩
        replace H : (if (g2) < (d0.length : Int) then (if z1 < (d0.length : Int) then ((spec_l10Move.f (g2) z1).bind fun a5 => (spec_RippleDelete.l0 k2 g2 (rd q2 o3) (wrap64 (s2 + a5)) (wrap64 (d1 + 1)) sa2 (d0.set (z1 : Int).toNat (rd d0 (g2))) (m0.set (d1 : Int).toNat (⟨(rd_T50 m0 d1).f0, g2⟩ : S50)))) else (none)) else (none)) = some (r1, r2, r3, r4, r5) := hw
        have qa4 := mk hy_
        clear hy_
        revert H; refine ca fun c54 H => ?_
        have db9 : decide ((g2) < (d0.length : Int)) = true := decide_eq_true c54
        clear c54
        revert H; refine ca fun c55 H => ?_
        have bb9 : decide (z1 < (d0.length : Int)) = true := decide_eq_true c55
        clear c55
        obtain ⟨ya2, hy_⟩ : ∃ y_ : List Int, y_ = (d0.set (z1 : Int).toNat (rd d0 (g2))) := ⟨_, rfl⟩
        replace H : ((spec_l10Move.f (g2) z1).bind fun a5 => (spec_RippleDelete.l0 k2 g2 (rd q2 o3) (wrap64 (s2 + a5)) (wrap64 (d1 + 1)) sa2 ya2 (m0.set (d1 : Int).toNat (⟨(rd_T50 m0 d1).f0, g2⟩ : S50)))) = some (r1, r2, r3, r4, r5) := hw
        have oa4 := mk hy_
        clear hy_
        revert H; refine bo ?_; rintro a5 A57 H
        obtain ⟨aa7, hy_⟩ : ∃ y_ : List (S50), y_ = (m0.set (d1 : Int).toNat (⟨(rd_T50 m0 d1).f0, g2⟩ : S50)) := ⟨_, rfl⟩
        replace H : (spec_RippleDelete.l0 k2 g2 (rd q2 o3) (wrap64 (s2 + a5)) (wrap64 (d1 + 1)) sa2 ya2 aa7) = some (r1, r2, r3, r4, r5) := hw
        have kb0 := mk hy_
        clear hy_
        have H' := mk H
        clear H
        have jb5 := j3.out
        have kb4 := m3.out
        have gb5 := g3.out
        have jb4 := k3.out
        obtain ⟨oa9, ma9, ka9, qa8, oa8, ma8⟩ := bz3 o1
        obtain ⟨jc3, ka2, vb6⟩ := Kd.R_slice o0.out
        subst vb6
        have d9 : 0 ≤ (d1 : Int) := dt
        have b9 : d1 < (m0.length : Int) := dt
        obtain ⟨o7, za9, g5, d5⟩ := at_T50 (Kd.R_reads' o0.out).2.2 d1 d9 b9
        cases za9
        replace d9 := eq_true d9
        replace b9 := eq_true b9
        have za7 : 0 ≤ (d1 : Int) := dt
        have ka7 : d1 < (m0.length : Int) := dt
        obtain ⟨jb0, sb7, q9, o9⟩ := at_T50 (Kd.R_reads' o0.out).2.2 d1 za7 ka7
        obtain rfl : o7 = jb0 := (by injection sb7)
        replace za7 := eq_true za7
        replace ka7 := eq_true ka7
        obtain ⟨gc3, da4, sb6⟩ := Kd.R_slice z0.out
        subst sb6
        have ya7 : 0 ≤ ((g2) : Int) := dt
        have ja7 : (g2) < (k0.length : Int) := dt
        obtain ⟨ac0, qb7, m9⟩ := Kd.at_int (Kd.R_reads' z0.out).2.2 (g2) ya7 ja7
        cases qb7
        replace ya7 := eq_true ya7
        replace ja7 := eq_true ja7
        have p53 : 0 ≤ (z1 : Int) := dt
        have q53 : (z1 : Int) < ((k0.length : Int) : Int) := dt
        obtain ⟨aa4, oc1, ab3, qb2, jb6, zc1, sb3⟩ := Kd.R_form z0.out (by omega)
        (first | cases ab3 | (injection ab3 with ea_ en_ ec_; (first | subst ea_ | (injection ea_ with ea_; subst ea_)); subst ec_; clear en_))
        have zc2 := mk qb2
        have qc2 := mk sb3
        clear qb2 jb6 sb3
        (first | simp only [add_plain] at m9 | skip)
        obtain ⟨gb1, bb2⟩ := Kd.R_celln 0 z0.out (z1 : Int) p53 q53
        replace p53 := eq_true p53
        replace q53 := eq_true q53
        have gc2 := Kd.R_putg z0.out (z1 : Int) (rd k0 (g2))
        go_wp2_with (first | ((with_reducible refine gate_callee (f := 29) rfl ?_); obtain ⟨dc3, ba4, qb6⟩ := Kd.R_slice s0.out; subst qb6; have va7 : 0 ≤ ((g2) : Int) := dt; have ga7 : (g2) < (d0.length : Int) := dt; obtain ⟨zb9, ob7, k9⟩ := Kd.at_int (Kd.R_reads' s0.out).2.2 (g2) va7 ga7; cases ob7; replace va7 := eq_true va7; replace ga7 := eq_true ga7; have p56 : 0 ≤ (z1 : Int) := dt; have q56 : (z1 : Int) < ((d0.length : Int) : Int) := dt; obtain ⟨za3, mc1, zb2, ob2, gb6, yc1, qb3⟩ := Kd.R_form s0.out (by omega); (first | cases zb2 | (injection zb2 with ea_ en_ ec_; (first | subst ea_ | (injection ea_ with ea_; subst ea_)); subst ec_; clear en_)); have yc2 := mk ob2; have oc2 := mk qb3; clear ob2 gb6 qb3; (first | simp only [add_plain] at k9 | skip); obtain ⟨db1, ab2⟩ := Kd.R_celln 0 s0.out (z1 : Int) p56 q56; replace p56 := eq_true p56; replace q56 := eq_true q56; refine goesL_ (some 57) rfl rfl Try.func29 (by kernel_rfl) rfl #[.pointer (some ⟨d3, 0, none⟩), .int .i64 g2, .int .i64 z1] rfl (by (try simp only [List.map_toArray, List.map_cons, List.map_nil]); first | done | (simp only [m5]; rfl) | rfl | (simp only [List.length_drop, List.length_take]; rfl)) ?_; (with_reducible refine (spec_l10Move.callsS w _ d3 (.slice (some ⟨aa4, 0, none⟩) k0.length da4) (.slice (some ⟨za3, 0, none⟩) d0.length ba4) (.slice (some o7) m0.length ka2) k0 d0 _ z1 g2 a5 bl ⟨ub o1.out, za4.out, up z0.out, up s0.out, up o0.out⟩ (show 0 ≤ (z1 : Int) from dt) (show (z1 : Int) < (k0.length : Int) from dt) (show (z1 : Int) < (d0.length : Int) from dt) (show 0 ≤ (g2 : Int) from dt) (show (g2 : Int) < (k0.length : Int) from dt) (show (g2 : Int) < (d0.length : Int) from dt) A57.out).mono ?_); rintro e w70 ⟨rfl, hcs, hb, hfar⟩; refine ⟨_, rfl, ?_⟩; have n0_ := mk (show Kd.R (Kd.int .i64) 3 w70 w.heap.size (fun k_ => True ∧ some k_ ≠ (.slice (some ⟨za3, 0, none⟩) d0.length ba4 : Value).ownBlock) (.slice (some ⟨aa4, 0, none⟩) k0.length da4) sa2 from by rw [qa4.out]; exact Kd.R_mono hcs.r0 (fun _ hk => ⟨trivial, hk⟩)); have n1_ := mk (show Kd.R (Kd.int .i64) 3 w70 w.heap.size (fun k_ => some k_ ≠ (.slice (some ⟨aa4, 0, none⟩) k0.length da4 : Value).ownBlock) (.slice (some ⟨za3, 0, none⟩) d0.length ba4) ya2 from by rw [oa4.out]; exact hcs.r1); have n2_ := mk (hcs.r2); have n3_ := mk (hfar.at (ub j1.out) (by decide)); have n4_ := mk (hfar.at (ub k1.out) (by decide)); have n5_ := mk (hcs.blk); have n6_ := mk (hb); have lyy168_ : sa2.length = k0.length := (by rw [qa4.out, List.length_set]); have lyy170_ : ya2.length = d0.length := (by rw [oa4.out, List.length_set]); clear z0; clear s0; clear o0; clear j1; clear k1; clear o1; clear HB; have z0 := n0_; have s0 := n1_; have o0 := n2_; have j1 := n3_; have k1 := n4_; have o1 := n5_; have HB := n6_; clear n0_ n1_ n2_ n3_ n4_ n5_ n6_; (try clear hb hcs hfar); obtain ⟨ja9, ga9, da9, ka8, ja8, ga8⟩ := bz3 o1; have p58 : 0 ≤ (d1 : Int) := dt; have q58 : (d1 : Int) < ((m0.length : Int) : Int) := dt; obtain ⟨j4, kc1, yb2, mb2, db6, vc1, ob3⟩ := Kd.R_form o0.out (by omega); (first | cases yb2 | (injection yb2 with ea_ en_ ec_; (first | subst ea_ | (injection ea_ with ea_; subst ea_)); subst ec_; clear en_)); have gc0 := mk mb2; have mc2 := mk ob3; clear mb2 db6 ob3; (first | simp only [add_plain] at g5 | skip); (first | simp only [add_plain] at d5 | skip); (first | simp only [add_plain] at q9 | skip); (first | simp only [add_plain] at o9 | skip); obtain ⟨bc2, ya9, gb2, ja2, ya0⟩ := Kd.R_elem o0.out z50 (d1 : Int) p58 q58; obtain rfl := k50_openM gb2; have bb1 : w70.cell? ⟨j4, (d1 : Int).toNat * 2, none⟩ = some (.int .i64 ((rd_T50 m0 d1).f0)) := ja2 0 _ rfl; have ab1 : w70.cell? ⟨j4, (d1 : Int).toNat * 2 + 1, none⟩ = some (.int .i64 ((rd_T50 m0 d1).f1)) := ja2 1 _ rfl; have zb1 : w70.frozen? ⟨j4, (d1 : Int).toNat * 2, none⟩ = false := ya0 0; have yb1 : w70.frozen? ⟨j4, (d1 : Int).toNat * 2 + 1, none⟩ = false := ya0 1; clear ya9 ja2 ya0 gb2; replace p58 := eq_true p58; replace q58 := eq_true q58; have jb3 := mk (show Kd.R k50 50 w70 w.heap.size (fun _ => True) (.slice (some ⟨j4, 0, none⟩) m0.length ka2) m0 from (up o0.out)); obtain ⟨ac2, ya3, db2, ga2, sa3⟩ := Kd.R_elem jb3.out z50 (d1 : Int) dt (by have h_ : (d1 : Int) < ((m0.length : Int) : Int) := dt; first | exact h_ | (have e_ := (Kd.R_reads' o0.out).1; omega) | simpa using h_); obtain rfl := k50_openM db2; have mb0 := Kd.R_seg jb3.out (d1 : Int) dt (by have h_ : (d1 : Int) < ((m0.length : Int) : Int) := dt; first | exact h_ | (have e_ := (Kd.R_reads' o0.out).1; omega) | simpa using h_) (seg := [.int .i64 g2]) (j := 1) ya3 ga2 (show 2 ≤ 2 from by decide) (x' := (⟨(rd_T50 m0 d1).f0, g2⟩ : S50)) (k50_mkM _ _ _ (⟨(rd_T50 m0 d1).f0, g2⟩ : S50) ) (fun _ hk => hk); have ga3 := ga2 1 _ rfl; (try simp only [show (k50).sz = 2 from rfl, Nat.mul_one, Nat.add_zero] at ga3); have va3 := sa3 1; (try simp only [show (k50).sz = 2 from rfl, Nat.mul_one, Nat.add_zero] at va3); clear ya3 ga2 sa3 db2) | ((with_reducible refine gate_store (t := 3) (p := 65) rfl ?_); refine store_event (t := 3) (p := 65) (v := ?vo_w73) (w1 := (w70.setCell ⟨j4, (d1 : Int).toNat * 2 + 1, none⟩ (.int .i64 g2))) ?hg ?ho ?hn ?hr ?_; (case ho => rfl); (case hg => rfl); (case hn => rfl); (case hr => first | (go_simp; done) | (go_simp; rfl)); intro w73 hw; have hg : w70.grownBy w73 (some j4) := (by rw [hw]; exact mb0.2); have hp_ : Kd.R k50 50 w73 w.heap.size (fun _ => True) (.slice (some ⟨j4, 0, none⟩) m0.length ka2) aa7 := (by rw [hw, kb0.out]; exact mb0.1); clear mb0; replace z0 := mk (Kd.R_over' (v := (.slice (some ⟨j4, 0, none⟩) m0.length ka2)) (up z0.out) (Kd.R_typed o0.out) (by decide) hg); replace s0 := mk (Kd.R_over' (v := (.slice (some ⟨j4, 0, none⟩) m0.length ka2)) (up s0.out) (Kd.R_typed o0.out) (by decide) hg); replace j1 := mk (blk_grown (g := k7) (o := .cells #[.slice (some b4) q2.length o4, .slice s4 b3.length m4, .slice q4 z2.length k4] 29 (0, 0)) (ub j1.out) hg (Kd.R_ne o0.out j1.out (by decide))); replace k1 := mk (blk_grown (g := a4) (o := .cells #[.slice none 0 0, .slice none 0 0, .slice none 0 0] 29 (0, 0)) (ub k1.out) hg (Kd.R_ne o0.out k1.out (by decide))); replace o1 := mk (blk_grown (g := d3) (o := .cells #[.slice (some ⟨aa4, 0, none⟩) k0.length da4, .slice (some ⟨za3, 0, none⟩) d0.length ba4, .slice (some ⟨j4, 0, none⟩) m0.length ka2] 29 (0, 0)) (ub o1.out) hg (Kd.R_ne o0.out o1.out (by decide))); replace o0 := mk hp_; replace HB := mk ((by rw [hw]; exact below_set (HB.out) gc0.out : Below w.heap.size w w73)); clear hg hw hp_))
        go_roundg k2
        case measure => have := HJ3.out; have := HK2.out; omega
        case rel => exact ⟨(g2), (wrap64 (s2 + a5)), (wrap64 (d1 + 1)), (sa2), (ya2), (aa7), (.slice (some ⟨aa4, 0, none⟩) k0.length da4), (.slice (some ⟨za3, 0, none⟩) d0.length ba4), (.slice (some ⟨j4, 0, none⟩) m0.length ka2), (by first | rfl | (simp; done) | (simp only [← m5] <;> (first | rfl | simp)) | (simp [*]; done)), (by first | rfl | (simp; done) | (simp [*]; done)), (by first | rfl | (simp; done) | (simp [*]; done)), H', ⟨by have := HJ3.out; have := HK2.out; omega⟩, ⟨by exact up (Kd.R_mono z0.out (fun _ hk => hk.2))⟩, ⟨up s0.out⟩, ⟨up o0.out⟩, ⟨ub j1.out⟩, ⟨ub k1.out⟩, ⟨ub o1.out⟩, ⟨bl⟩⟩
      ·have bb0 : decide (d1 < (m0.length : Int)) = false := decide_eq_false c41
       clear c41
       obtain ⟨o2, k5⟩ : ∃ j_ : Int, (wrap64 ((k0.length : Int) - 1)) = j_ := ⟨_, rfl⟩
       replace H : (if 0 ≤ (o2) then (if (o2) < (k0.length : Int) then (if 0 ≤ z1 then (if z1 < (k0.length : Int) then (if (o2) < (d0.length : Int) then (if z1 < (d0.length : Int) then ((spec_l10Move.f (o2) z1).bind fun g4 => (if (o2) ≤ (k0.length : Int) then (if 0 ≤ (wrap64 ((d0.length : Int) - 1)) then (if (wrap64 ((d0.length : Int) - 1)) ≤ (d0.length : Int) then (some (((k0.set (z1 : Int).toNat (rd k0 (o2))).take ((o2) : Int).toNat), ((d0.set (z1 : Int).toNat (rd d0 (o2))).take ((wrap64 ((d0.length : Int) - 1)) : Int).toNat), m0, wrap64 (s2 + g4), true)) else (none)) else (none)) else (none))) else (none)) else (none)) else (none)) else (none)) else (none)) else (none)) = some (r1, r2, r3, r4, r5) := by first | (rw [k5] at H; exact H) | (simp only [k5] at H ⊢; exact H)
       have ob1 : (IntKind.i64.wrap ((k0.length : Int) - 1)) = o2 := (i64_w _).trans k5
       revert H; refine ca fun c75 H => ?_
       have ab9 : decide (0 ≤ (o2)) = true := decide_eq_true c75
       clear c75
       revert H; refine ca fun c76 H => ?_
       have zb8 : decide ((o2) < (k0.length : Int)) = true := decide_eq_true c76
       clear c76
       revert H; refine ca fun c77 H => ?_
       have yb8 : decide (0 ≤ z1) = true := decide_eq_true c77
       clear c77
       revert H; refine ca fun c78 H => ?_
       have vb8 : decide (z1 < (k0.length : Int)) = true := decide_eq_true c78
       clear c78
       obtain ⟨va2, hy_⟩ : ∃ y_ : List Int, y_ = (k0.set (z1 : Int).toNat (rd k0 (o2))) := ⟨_, rfl⟩
       replace H : (if (o2) < (d0.length : Int) then (if z1 < (d0.length : Int) then ((spec_l10Move.f (o2) z1).bind fun g4 => (if (o2) ≤ (k0.length : Int) then (if 0 ≤ (wrap64 ((d0.length : Int) - 1)) then (if (wrap64 ((d0.length : Int) - 1)) ≤ (d0.length : Int) then (some ((va2.take ((o2) : Int).toNat), ((d0.set (z1 : Int).toNat (rd d0 (o2))).take ((wrap64 ((d0.length : Int) - 1)) : Int).toNat), m0, wrap64 (s2 + g4), true)) else (none)) else (none)) else (none))) else (none)) else (none)) = some (r1, r2, r3, r4, r5) := hw
       have ma4 := mk hy_
       clear hy_
       revert H; refine ca fun c80 H => ?_
       have sb8 : decide ((o2) < (d0.length : Int)) = true := decide_eq_true c80
       clear c80
       revert H; refine ca fun c81 H => ?_
       have qb8 : decide (z1 < (d0.length : Int)) = true := decide_eq_true c81
       clear c81
       obtain ⟨z8, hy_⟩ : ∃ y_ : List Int, y_ = (d0.set (z1 : Int).toNat (rd d0 (o2))) := ⟨_, rfl⟩
       replace H : ((spec_l10Move.f (o2) z1).bind fun g4 => (if (o2) ≤ (k0.length : Int) then (if 0 ≤ (wrap64 ((d0.length : Int) - 1)) then (if (wrap64 ((d0.length : Int) - 1)) ≤ (d0.length : Int) then (some ((va2.take ((o2) : Int).toNat), (z8.take ((wrap64 ((d0.length : Int) - 1)) : Int).toNat), m0, wrap64 (s2 + g4), true)) else (none)) else (none)) else (none))) = some (r1, r2, r3, r4, r5) := hw
       have ka4 := mk hy_
       clear hy_
       revert H; refine bo ?_; rintro g4 A83 H
       revert H; refine ca fun c84 H => ?_
       have ob8 := eq_true c84
       have mb8 : decide ((o2) ≤ (k0.length : Int)) = true := decide_eq_true c84
       clear c84
       obtain ⟨a7, hy_⟩ : ∃ y_ : List Int, y_ = (va2.take ((o2) : Int).toNat) := ⟨_, rfl⟩
       replace H : (if 0 ≤ (wrap64 ((d0.length : Int) - 1)) then (if (wrap64 ((d0.length : Int) - 1)) ≤ (d0.length : Int) then (some (a7, (z8.take ((wrap64 ((d0.length : Int) - 1)) : Int).toNat), m0, wrap64 (s2 + g4), true)) else (none)) else (none)) = some (r1, r2, r3, r4, r5) := hw
       have ja4 := mk hy_
       clear hy_
       obtain ⟨b5, j5⟩ : ∃ j_ : Int, (wrap64 ((d0.length : Int) - 1)) = j_ := ⟨_, rfl⟩
       replace H : (if 0 ≤ (b5) then (if (b5) ≤ (d0.length : Int) then (some (a7, (z8.take ((b5) : Int).toNat), m0, wrap64 (s2 + g4), true)) else (none)) else (none)) = some (r1, r2, r3, r4, r5) := by first | (rw [j5] at H; exact H) | (simp only [j5] at H ⊢; exact H)
       (try rw [j5] at A83)
       have mb1 : (IntKind.i64.wrap ((d0.length : Int) - 1)) = b5 := (i64_w _).trans j5
       revert H; refine ca fun c86 H => ?_
       have kb8 := eq_true c86
       have jb8 : decide (0 ≤ (b5)) = true := decide_eq_true c86
       clear c86
       revert H; refine ca fun c87 H => ?_
       have gb8 := eq_true c87
       have db8 : decide ((b5) ≤ (d0.length : Int)) = true := decide_eq_true c87
       clear c87
       obtain ⟨za6, hy_⟩ : ∃ y_ : List Int, y_ = (z8.take ((b5) : Int).toNat) := ⟨_, rfl⟩
       replace H : (some (a7, za6, m0, wrap64 (s2 + g4), true)) = some (r1, r2, r3, r4, r5) := hw
       have ga4 := mk hy_
       clear hy_
       simp only [Option.some.injEq, Prod.mk.injEq] at H
       obtain ⟨rfl, rfl, rfl, rfl, rfl⟩ := H
       have db5 := j3.out
       have gb4 := m3.out
       have bb5 := g3.out
       have db4 := k3.out
       obtain ⟨ba9, aa9, za8, da8, ba8, aa8⟩ := bz3 o1
       obtain ⟨ya6, va6, ob6⟩ := Kd.R_slice o0.out
       subst ob6
       obtain ⟨bc3, m7, mb6⟩ := Kd.R_slice z0.out
       subst mb6
       have sa7 : 0 ≤ ((o2) : Int) := dt
       have da7 : (o2) < (k0.length : Int) := dt
       obtain ⟨yb9, mb7, j9⟩ := Kd.at_int (Kd.R_reads' z0.out).2.2 (o2) sa7 da7
       cases mb7
       replace sa7 := eq_true sa7
       replace da7 := eq_true da7
       have p79 : 0 ≤ (z1 : Int) := dt
       have q79 : (z1 : Int) < ((k0.length : Int) : Int) := dt
       obtain ⟨j7, jc1, vb2, kb2, bb6, sc1, mb3⟩ := Kd.R_form z0.out (by omega)
       (first | cases vb2 | (injection vb2 with ea_ en_ ec_; (first | subst ea_ | (injection ea_ with ea_; subst ea_)); subst ec_; clear en_))
       have vc2 := mk kb2
       have kc2 := mk mb3
       clear kb2 bb6 mb3
       (first | simp only [add_plain] at j9 | skip)
       obtain ⟨zb0, vb1⟩ := Kd.R_celln 0 z0.out (z1 : Int) p79 q79
       replace p79 := eq_true p79
       replace q79 := eq_true q79
       have dc2 := Kd.R_putg z0.out (z1 : Int) (rd k0 (o2))
       go_wp2_with (first | ((with_reducible refine gate_callee (f := 29) rfl ?_); obtain ⟨ac3, y8, kb6⟩ := Kd.R_slice s0.out; subst kb6; have qa7 : 0 ≤ ((o2) : Int) := dt; have ba7 : (o2) < (d0.length : Int) := dt; obtain ⟨vb9, kb7, g9⟩ := Kd.at_int (Kd.R_reads' s0.out).2.2 (o2) qa7 ba7; cases kb7; replace qa7 := eq_true qa7; replace ba7 := eq_true ba7; have p82 : 0 ≤ (z1 : Int) := dt; have q82 : (z1 : Int) < ((d0.length : Int) : Int) := dt; obtain ⟨v8, gc1, sb2, jb2, ab6, qc1, kb3⟩ := Kd.R_form s0.out (by omega); (first | cases sb2 | (injection sb2 with ea_ en_ ec_; (first | subst ea_ | (injection ea_ with ea_; subst ea_)); subst ec_; clear en_)); have sc2 := mk jb2; have jc2 := mk kb3; clear jb2 ab6 kb3; (first | simp only [add_plain] at g9 | skip); obtain ⟨yb0, sb1⟩ := Kd.R_celln 0 s0.out (z1 : Int) p82 q82; replace p82 := eq_true p82; replace q82 := eq_true q82; refine goesL_ (some 72) rfl rfl Try.func29 (by kernel_rfl) rfl #[.pointer (some ⟨d3, 0, none⟩), .int .i64 o2, .int .i64 z1] rfl (by (try simp only [List.map_toArray, List.map_cons, List.map_nil]); first | done | (simp only [k5]; rfl) | rfl | (simp only [List.length_drop, List.length_take]; rfl)) ?_; (with_reducible refine (spec_l10Move.callsS w _ d3 (.slice (some ⟨j7, 0, none⟩) k0.length m7) (.slice (some ⟨v8, 0, none⟩) d0.length y8) (.slice ya6 m0.length va6) k0 d0 _ z1 o2 g4 bl ⟨ub o1.out, za4.out, up z0.out, up s0.out, up o0.out⟩ (show 0 ≤ (z1 : Int) from dt) (show (z1 : Int) < (k0.length : Int) from dt) (show (z1 : Int) < (d0.length : Int) from dt) (show 0 ≤ (o2 : Int) from dt) (show (o2 : Int) < (k0.length : Int) from dt) (show (o2 : Int) < (d0.length : Int) from dt) A83.out).mono ?_); rintro e w99 ⟨rfl, hcs, hb, hfar⟩; refine ⟨_, rfl, ?_⟩; have n0_ := mk (show Kd.R (Kd.int .i64) 3 w99 w.heap.size (fun k_ => True ∧ some k_ ≠ (.slice (some ⟨v8, 0, none⟩) d0.length y8 : Value).ownBlock) (.slice (some ⟨j7, 0, none⟩) k0.length m7) va2 from by rw [ma4.out]; exact Kd.R_mono hcs.r0 (fun _ hk => ⟨trivial, hk⟩)); have n1_ := mk (show Kd.R (Kd.int .i64) 3 w99 w.heap.size (fun k_ => some k_ ≠ (.slice (some ⟨j7, 0, none⟩) k0.length m7 : Value).ownBlock) (.slice (some ⟨v8, 0, none⟩) d0.length y8) z8 from by rw [ka4.out]; exact hcs.r1); have n2_ := mk (hcs.r2); have n3_ := mk (hfar.at (ub j1.out) (by decide)); have n4_ := mk (hfar.at (ub k1.out) (by decide)); have n5_ := mk (hcs.blk); have n6_ := mk (hb); have lyy174_ : va2.length = k0.length := (by rw [ma4.out, List.length_set]); have lyy176_ : z8.length = d0.length := (by rw [ka4.out, List.length_set]); clear z0; clear s0; clear o0; clear j1; clear k1; clear o1; clear HB; have z0 := n0_; have s0 := n1_; have o0 := n2_; have j1 := n3_; have k1 := n4_; have o1 := n5_; have HB := n6_; clear n0_ n1_ n2_ n3_ n4_ n5_ n6_; (try clear hb hcs hfar); obtain ⟨sa6, qa6, oa6, aa6, za5, ya5⟩ := bz3 o1; have oa7 : ((o2) : Int) ≤ ((k0.length : Int) : Int) := dt; obtain ⟨bb4, d8, _, ka3, _⟩ := info_parts info3; have da2 := cut_to (P := Try.prog) 22 3 .i64 Try.underlying22 d8 (some ⟨j7, 0, none⟩) k0.length m7 (o2) dt oa7 (Kd.R_reads' z0.out).2.1; have g7 := Kd.R_take (m := ((o2) : Int).toNat) z0.out (by omega); have da3 : a7.length = ((o2) : Int).toNat := (by rw [ja4.out, List.length_take]; omega); rw [← ja4.out] at g7; rw [← da3] at g7 da2; clear da3 d8 ka3 z0; have q7 := mk g7; clear g7; replace oa7 := eq_true oa7) | ((with_reducible refine gate_store (t := 22) (p := 81) rfl ?_); refine store_event (t := 22) (p := 81) (v := ?vo_w102) (w1 := (w99.setCell ⟨d3, 0, none⟩ (.slice (some ⟨j7, 0, none⟩) a7.length m7))) ?hg ?ho ?hn ?hr ?_; (case ho => rfl); (case hg => rfl); (case hn => rfl); (case hr => first | (go_simp; done) | (go_simp; rfl)); intro a9 hw; have n0_ : Aside0 (Kd.R (Kd.int .i64) 3 a9 w.heap.size (fun k_ => some k_ ≠ (.slice (some ⟨v8, 0, none⟩) d0.length y8 : Value).ownBlock) (.slice (some ⟨j7, 0, none⟩) a7.length m7) a7) := ⟨(by rw [hw]; exact (by exact rm (rs1 q7 o1)))⟩; have n1_ : Aside0 (Kd.R (Kd.int .i64) 3 a9 w.heap.size (fun k_ => some k_ ≠ (.slice (some ⟨j7, 0, none⟩) a7.length m7 : Value).ownBlock) (.slice (some ⟨v8, 0, none⟩) d0.length y8) z8) := ⟨(by rw [hw]; exact (by exact rm (rs1 s0 o1)))⟩; have n2_ : Aside0 (Kd.R k50 50 a9 w.heap.size (fun _ => True) (.slice ya6 m0.length va6) m0) := ⟨(by rw [hw]; exact (by exact rm (rs1 o0 o1)))⟩; have n3_ : Aside0 (a9.heap[k7]? = some (.cells #[.slice (some b4) q2.length o4, .slice s4 b3.length m4, .slice q4 z2.length k4] 29 (0, 0))) := ⟨(by rw [hw]; exact bq)⟩; have n4_ : Aside0 (a9.heap[a4]? = some (.cells #[.slice none 0 0, .slice none 0 0, .slice none 0 0] 29 (0, 0))) := ⟨(by rw [hw]; exact bq)⟩; have n5_ : Aside0 (a9.heap[d3]? = some (.cells #[.slice (some ⟨j7, 0, none⟩) a7.length m7, .slice (some ⟨v8, 0, none⟩) d0.length y8, .slice ya6 m0.length va6] 29 (0, 0))) := ⟨(by rw [hw]; exact bq)⟩; have n6_ : Aside0 (Below w.heap.size w a9) := ⟨(by rw [hw]; exact bl)⟩; clear hw; clear q7; clear s0; clear o0; clear j1; clear k1; clear o1; clear HB; have q7 := n0_; have s0 := n1_; have o0 := n2_; have j1 := n3_; have k1 := n4_; have o1 := n5_; have HB := n6_; clear n0_ n1_ n2_ n3_ n4_ n5_ n6_; obtain ⟨ma6, ka6, ja6, va5, sa5, qa5⟩ := bz3 o1; have ma7 : ((b5) : Int) ≤ ((d0.length : Int) : Int) := dt; obtain ⟨ab4, b8, _, ja3, _⟩ := info_parts info3; have ba2 := cut_to (P := Try.prog) 22 3 .i64 Try.underlying22 b8 (some ⟨v8, 0, none⟩) d0.length y8 (b5) dt ma7 (Kd.R_reads' s0.out).2.1; have d7 := Kd.R_take (m := ((b5) : Int).toNat) s0.out (by omega); have ba3 : za6.length = ((b5) : Int).toNat := (by rw [ga4.out, List.length_take]; omega); rw [← ga4.out] at d7; rw [← ba3] at d7 ba2; clear ba3 b8 ja3 s0; have ob0 := mk d7; clear d7; replace ma7 := eq_true ma7; have kb1 := j2.out; have jb1 := m2.out; obtain ⟨ga6, da6, ba6, oa5, ma5, ka5⟩ := bz3 k1))
       refine bodyPost_ret (results_ctt rfl _ _ a4 29 #[.slice (some ⟨j7, 0, none⟩) a7.length m7, .slice (some ⟨v8, 0, none⟩) za6.length y8, .slice ya6 m0.length va6] (0, 0) _ rfl bq Try.underlying29 rfl (by kernel_rfl)) rfl ?_
       exact ⟨_, _, _, by first | rfl | (simp [errW_none, errW_some] <;> rfl) | (simp only [← k5, ← j5]; first | rfl | (simp [errW_none, errW_some] <;> rfl)) | (simp [*, errW_none, errW_some] <;> rfl), (by exact rm (rs2 q7 o1 k1)), (by exact rm (rs2 ob0 o1 k1)), (by exact rm (rs2 o0 o1 k1)), bl⟩

/-! ### impl_within: function 48 -/
/-- The predicate of within, as the machine's closure gives it. -/
theorem impl_within.pred (B1 B2 : Nat) (lo hi x : Int) (W : World) (h1 : W.cell? ⟨B1, 0, none⟩ = some (.int .i64 lo)) (h2 : W.cell? ⟨B2, 0, none⟩ = some (.int .i64 hi)) :
    Calls Try.prog 66 #[.int .i64 x, .pointer (some ⟨B1, 0, none⟩), .pointer (some ⟨B2, 0, none⟩)] W fun e w' => e = .returned (.bool (decide (x < lo) || decide (hi < x))) ∧ W = w' := by
  by_cases c1 : x < lo
  · have c : decide (x < lo) = true := decide_eq_true c1
    go_enter Try.func66, Try.ntmps66
    go_wp2
    go_ret
    exact ⟨by simp [c1], rfl⟩
  · have c : decide (x < lo) = false := decide_eq_false c1
    by_cases c2 : hi < x
    · have d : decide (hi < x) = true := decide_eq_true c2
      go_enter Try.func66, Try.ntmps66
      go_wp2
      go_ret
      exact ⟨by simp [c1, c2], rfl⟩
    · have d : decide (hi < x) = false := decide_eq_false c2
      go_enter Try.func66, Try.ntmps66
      go_wp2
      go_ret
      exact ⟨by simp [c1, c2], rfl⟩
set_option maxHeartbeats 2000000 in
set_option maxRecDepth 100000 in
theorem impl_within.idx (A0 : Option Addr) (c0 : Nat) (l0 : List Int) (B1 B2 : Nat) (lo hi : Int) (w : World) (hr0 : Kd.C (Kd.int .i64) w A0 l0.length l0) (h1 : w.cell? ⟨B1, 0, none⟩ = some (.int .i64 lo)) (h2 : w.cell? ⟨B2, 0, none⟩ = some (.int .i64 hi)) :
    Calls Try.prog 73 #[.slice A0 l0.length c0, .func (.func 66) #[] #[.pointer (some ⟨B1, 0, none⟩), .pointer (some ⟨B2, 0, none⟩)]] w fun e w' => e = .returned (.int .i64 (Giv.fidx (fun x => decide (x < lo) || decide (hi < x)) l0)) ∧ Drawn0 w w' := by
  have eg := Go.Proofs.enters_of Try.func66 (by kernel_rfl) rfl
  have hn : l0.length ≤ 9223372036854775807 := hr0.2.1
  have HR := mk hr0
  clear hr0
  have C1 := mk h1
  have C2 := mk h2
  clear h1 h2
  go_enter Try.func73, Try.ntmps73
  go_wp2
  go_loopg [5, 8] l0.length (fun gg _ s8 wr => ∃ kk q : Nat, kk ≤ l0.length ∧ l0.length - kk ≤ gg ∧ s8 = .int .i64 kk ∧ wr = w.drewN q ∧ Aside0 (∀ j x, j < kk → l0[j]? = some x → (decide (x < lo) || decide (hi < x)) = false))
  case atStart => exact ⟨0, 0, Nat.zero_le _, by omega, rfl, rfl, ⟨fun j x hj => absurd hj (Nat.not_lt_zero _)⟩⟩
  case round =>
    obtain ⟨kk, q, hkk, hg, rfl, rfl, AH⟩ := hrel
    by_cases hlt : kk < l0.length
    · have hltz : (kk : Int) < (l0.length : Int) := by omega
      obtain ⟨ad, e, hcell⟩ := Kd.at_int HR.out (kk : Int) (by omega) (by omega)
      subst e
      obtain ⟨y, hy⟩ : ∃ y, l0[kk]? = some y := ⟨_, List.getElem?_eq_getElem hlt⟩
      have hy2 : rd l0 (kk : Int) = y := by unfold rd; rw [List.getD_eq_getElem?_getD, Int.toNat_natCast, hy]; rfl
      rw [hy2, Int.toNat_natCast] at hcell
      have HY := mk hy
      clear hy hy2
      have hcall := fun W a b => impl_within.pred B1 B2 lo hi y W a b
      cases hq : (decide (y < lo) || decide (hi < y)) with
      | true =>
        rw [hq] at hcall
        have HQ := mk hq
        clear hq
        go_wp2_with fail
        refine (hcall _ (by simpa using C1.out) (by simpa using C2.out)).mono ?_
        rintro e w' ⟨rfl, rfl⟩
        go_wp2_with fail
        go_ret
        refine ⟨?_, ⟨_, rfl⟩⟩
        rw [Giv.fidx_hit HY.out HQ.out AH.out]
        rfl
      | false =>
        rw [hq] at hcall
        have HQ := mk hq
        clear hq
        go_wp2_with fail
        refine (hcall _ (by simpa using C1.out) (by simpa using C2.out)).mono ?_
        rintro e w' ⟨rfl, rfl⟩
        go_wp2_with fail
        go_roundg (l0.length - (kk + 1))
        case measure => omega
        case rel =>
          refine ⟨kk + 1, _, by omega, by omega, by go_num, rfl, ⟨fun j x hj hx => ?_⟩⟩
          by_cases e : j = kk
          · subst e
            rw [HY.out] at hx
            obtain rfl := Option.some.inj hx
            exact HQ.out
          · exact AH.out j x (by omega) hx
    · have hltz : ¬ (kk : Int) < (l0.length : Int) := by omega
      have hkn := mk (show kk = l0.length by omega)
      go_wp2
      go_ret
      refine ⟨?_, ⟨_, rfl⟩⟩
      have hm := AH.out
      rw [hkn.out] at hm
      rw [Giv.fidx_miss hm]
      rfl
set_option maxHeartbeats 2000000 in
set_option maxRecDepth 100000 in
theorem impl_within.has (A0 : Option Addr) (c0 : Nat) (l0 : List Int) (B1 B2 : Nat) (lo hi : Int) (w : World) (hr0 : Kd.C (Kd.int .i64) w A0 l0.length l0) (h1 : w.cell? ⟨B1, 0, none⟩ = some (.int .i64 lo)) (h2 : w.cell? ⟨B2, 0, none⟩ = some (.int .i64 hi)) :
    Calls Try.prog 65 #[.slice A0 l0.length c0, .func (.func 66) #[] #[.pointer (some ⟨B1, 0, none⟩), .pointer (some ⟨B2, 0, none⟩)]] w fun e w' => e = .returned (.bool (l0.any fun x => decide (x < lo) || decide (hi < x))) ∧ Drawn0 w w' := by
  have hcall := impl_within.idx A0 c0 l0 B1 B2 lo hi w hr0 h1 h2
  have HA := mk (Giv.fidx_any (fun x => decide (x < lo) || decide (hi < x)) l0)
  generalize Giv.fidx (fun x => decide (x < lo) || decide (hi < x)) l0 = y at hcall HA
  clear hr0 h1 h2
  go_enter Try.func65, Try.ntmps65
  go_wp2_with (go_at_call 73; refine hcall.mono ?_; rintro e w' ⟨rfl, hd⟩)
  go_ret
  exact ⟨by rw [← HA.out]; rfl, hd⟩
def impl_within.f (l0 : List Int) (a1 : Int) (a2 : Int) : Option (Bool) := some (!(l0.any fun x => decide (x < a1) || decide (a2 < x)))
set_option maxHeartbeats 8000000 in
set_option maxRecDepth 100000 in
theorem impl_within.calls (A0 : Option Addr) (c0 : Nat) (l0 : List Int) (a1 : Int) (a2 : Int) (r : Bool) (w : World) (hr0 : Kd.C (Kd.int .i64) w A0 l0.length l0) (hc0 : l0.length ≤ c0) (h : impl_within.f l0 a1 a2 = some r) :
    Calls Try.prog 48 #[.slice A0 l0.length c0, .int .i64 a1, .int .i64 a2] w fun e w' => e = .returned (.bool r) ∧ Below w.heap.size w w' := by
  unfold impl_within.f at h
  obtain rfl := Option.some.inj h
  clear h
  have hcall := fun (W : World) hr a b => impl_within.has A0 c0 l0 w.heap.size (w.heap.size + 1) a1 a2 W hr a b
  have HR := mk hr0
  clear hr0
  go_enter Try.func48, Try.ntmps48
  go_wp2_with (go_at_call 65; refine (hcall _ (by repeat (first | exact HR.out | (refine Kd.C_alloc ?_ _) | (refine Kd.C_drew ?_))) (by simp) (by simp)).mono ?_; rintro e w' ⟨rfl, hd⟩)
  go_ret
  exact ⟨rfl, below_then (((Below.refl _ _).alloc (Nat.le_refl _) _).alloc (by simp) _) (by simp; omega) hd.below⟩


/-! ### impl_AreValues: function 47 -/
def impl_AreValues.f (l0 : List Int) : Option (Bool) := if (l0.length : Int) ≤ 64 then ((impl_within.f l0 (-999) 999).bind fun za2 => (some za2)) else (some false)
set_option maxHeartbeats 8000000 in
set_option maxRecDepth 100000 in
theorem impl_AreValues.calls (A0 : Option Addr) (c0 : Nat) (l0 : List Int) (r : Bool) (w : World) (hr0 : Kd.C (Kd.int .i64) w A0 l0.length l0) (hc0 : l0.length ≤ c0) (h : impl_AreValues.f l0 = some r) :
    Calls Try.prog 47 #[.slice A0 l0.length c0] w fun e w' => e = .returned (.bool r) ∧ Below w.heap.size w w' := by
  have HR0 := mk hr0
  have HC0 := mk hc0
  clear hr0 hc0
  have HB := mk (Below.refl w.heap.size w)
  have H : (if (l0.length : Int) ≤ 64 then ((impl_within.f l0 (-999) 999).bind fun za2 => (some za2)) else (some false)) = some r := h
  clear h
  by_cases c2 : (l0.length : Int) ≤ 64
  · rw [if_pos c2] at H
    have sb9 : decide ((l0.length : Int) ≤ 64) = true := decide_eq_true c2
    have qb9 : decide (l0.length ≤ 64) = true := decide_eq_true (by omega)
    clear c2
    revert H; refine bo ?_; rintro za2 A3 H
    obtain rfl := Option.some.inj H
    go_enter Try.func47, Try.ntmps47
    go_wp2_with (first | (go_at_call 48; (with_reducible refine (impl_within.calls _ _ l0 (-999) 999 za2 _ ?side1 ?side2 A3.out).mono ?_); (case side1 => exact uc HR0.out); (case side2 => exact HC0.out); rintro e w4 ⟨rfl, hb⟩; replace HB := wh hb; (try clear hb)))
    go_ret
    exact ⟨rx, bl⟩
  · rw [if_neg c2] at H
    have sb9 : decide ((l0.length : Int) ≤ 64) = false := decide_eq_false c2
    have qb9 : decide (l0.length ≤ 64) = false := decide_eq_false (by omega)
    clear c2
    obtain rfl := Option.some.inj H
    go_enter Try.func47, Try.ntmps47
    go_wp2
    go_ret
    exact ⟨rx, bl⟩

end Go.Proofs.Ytlikcmonejefoab.PFnRipples
