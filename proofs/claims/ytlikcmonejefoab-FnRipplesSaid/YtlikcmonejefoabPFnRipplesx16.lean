-- printed by a program of this session, a turned copy of the print of the kit
import Derived.Test.YtlikcmonejefoabSr
import Derived.Test.YtlikcmonejefoabPFnRipplesx0
import Derived.Test.YtlikcmonejefoabPFnRipplesx4
import Derived.Test.YtlikcmonejefoabPFnRipplesx5
namespace Go.Proofs.Ytlikcmonejefoab.PFnRipples
open Go.RowKit Go.Proofs.YtlikcmonejefoabW.PrintWords Go.Proofs.YtlikcmonejefoabW.PrintLast Go.Proofs.YtlikcmonejefoabW.PrintMore Go.Proofs.Ytlikcmonejefoab.Sq
attribute [local go_sem] max2_int min2_int max_two min_two max_three min_three max_four min_four Giv.cell_twice   -- for this text's walks alone
set_option linter.unusedVariables false
set_option linter.unusedSimpArgs false

/-! ### spec_AddPivot: function 78 -/
mutual
def spec_AddPivot.l0 : Nat → Bool → Int → List Int → List Int → List (S50) → Int → Int → List Int → List Int → List (S50) → Option (List Int × List Int × (List (S50)) × Bool)
 | 0, _, _, _, _, _, _, _, _, _, _ => none
 | k + 1, x7, x8, g3, d3, g1, z3, m4, k3, j3, k2 => if x8 < (g1.length : Int) then (if x7 = true then (if 0 ≤ x8 then (if k2.length < 8796093022208 then (spec_AddPivot.l0 k x7 (wrap64 (x8 + 1)) g3 d3 g1 z3 m4 k3 j3 (k2 ++ [(⟨(rd_T50 g1 x8).f0, (rd_T50 g1 x8).f1⟩ : S50)])) else (none)) else (none)) else (if 0 ≤ x8 then (if ((rd_T50 g1 x8).f0) > z3 then (if k2.length < 8796093022208 then ((some (k2 ++ [(⟨z3, m4⟩ : S50)] : List (S50))).bind fun k4 => (if k4.length < 8796093022208 then (spec_AddPivot.l0 k true (wrap64 (x8 + 1)) g3 d3 g1 z3 m4 k3 j3 (k4 ++ [(⟨(rd_T50 g1 x8).f0, (rd_T50 g1 x8).f1⟩ : S50)])) else (none))) else (none)) else (if k2.length < 8796093022208 then (spec_AddPivot.l0 k x7 (wrap64 (x8 + 1)) g3 d3 g1 z3 m4 k3 j3 (k2 ++ [(⟨(rd_T50 g1 x8).f0, (rd_T50 g1 x8).f1⟩ : S50)])) else (none))) else (none))) else (if x7 = true then (spec_AddPivot.j1 k g3 d3 g1 k3 j3 k2) else (if k2.length < 8796093022208 then (spec_AddPivot.j1 k g3 d3 g1 k3 j3 (k2 ++ [(⟨z3, m4⟩ : S50)])) else (none)))
def spec_AddPivot.j1 : Nat → List Int → List Int → List (S50) → List Int → List Int → List (S50) → Option (List Int × List Int × (List (S50)) × Bool)
 | 0, _, _, _, _, _, _ => none
 | k + 1, g3, d3, g1, k3, j3, k2 => (spec_IsCracker.f k g3 d3 g1).bind fun ba7 => (if ba7 = true then ((spec_IsCracker.f k k3 j3 k2).bind fun aa7 => (if aa7 = true then (some (k3, j3, k2, true)) else ((spec_l4Copy.f g3 d3 g1).bind fun oa0 => (some (oa0.1, oa0.2.1, oa0.2.2, false))))) else ((spec_l4Copy.f g3 d3 g1).bind fun ma0 => (some (ma0.1, ma0.2.1, ma0.2.2, false))))
end
def spec_AddPivot.f (k : Nat) (b3 : List Int) (z2 : List Int) (q0 : List (S50)) (a1_0 : Int) (a1_1 : Int) : Option (List Int × List Int × (List (S50)) × Bool) := (spec_l4Copy.f b3 z2 q0).bind fun q6 => (spec_AddPivot.l0 k false 0 b3 z2 q0 a1_0 a1_1 q6.1 q6.2.1 (([] : List (S50))))
theorem spec_AddPivot.mono_l : ∀ k, (∀ y0 y1 y2 y3 y4 y5 y6 y7 y8 y9, LeO (spec_AddPivot.l0 k y0 y1 y2 y3 y4 y5 y6 y7 y8 y9) (spec_AddPivot.l0 (k + 1) y0 y1 y2 y3 y4 y5 y6 y7 y8 y9)) ∧ (∀ y0 y1 y2 y3 y4 y5, LeO (spec_AddPivot.j1 k y0 y1 y2 y3 y4 y5) (spec_AddPivot.j1 (k + 1) y0 y1 y2 y3 y4 y5))
 | 0 => ⟨fun _ _ _ _ _ _ _ _ _ _ r h => by simp [spec_AddPivot.l0] at h, fun _ _ _ _ _ _ r h => by simp [spec_AddPivot.j1] at h⟩
 | k + 1 => by
  obtain ⟨ih0, ih1⟩ := spec_AddPivot.mono_l k
  refine ⟨?_, ?_⟩
  ·intro y0 y1 y2 y3 y4 y5 y6 y7 y8 y9
   unfold spec_AddPivot.l0
   exact mo
  ·intro y0 y1 y2 y3 y4 y5
   unfold spec_AddPivot.j1
   exact mo
theorem spec_AddPivot.mono : ∀ a0 a1 a2 a3 a4 k, LeO (spec_AddPivot.f k a0 a1 a2 a3 a4) (spec_AddPivot.f (k + 1) a0 a1 a2 a3 a4) := by
 intro a0 a1 a2 a3 a4 k
 obtain ⟨ih0, ih1⟩ := spec_AddPivot.mono_l k
 unfold spec_AddPivot.f
 exact mo
instance spec_AddPivot.mi (a0 a1 a2 a3 a4 k) : LeC (spec_AddPivot.f k a0 a1 a2 a3 a4) (spec_AddPivot.f (k + 1) a0 a1 a2 a3 a4) := ⟨spec_AddPivot.mono a0 a1 a2 a3 a4 k⟩
def spec_AddPivot.T7 : Bool × List (List Nat × List Nat) := (true, [([], []), ([0], [0]), ([1], [1]), ([2], [2]), ([3, 2], [2, 3]), ([2], [2]), ([4, 5, 2], [2, 4, 5]), ([6, 2], [2, 6]), ([7, 2], [2, 7]), ([2], [2]), ([9, 2], [2, 9]), ([8, 10, 2], [2, 8, 10]), ([2, 11], [2, 11])])
def spec_AddPivot.B7 : List Nat := [0, 1, 3, 7, 15, 7, 63, 127, 255, 7, 519, 2047, 4095]
theorem spec_AddPivot.tab7 : rtab .any (opsOf Try.f78 7) = spec_AddPivot.T7 := by kernel_rfl
theorem spec_AddPivot.bits7 : waitsOk spec_AddPivot.T7.2 spec_AddPivot.B7 = true := by kernel_rfl
def spec_AddPivot.T10 : Bool × List (List Nat × List Nat) := (true, [([], []), ([0], [0]), ([], []), ([2], [2]), ([], []), ([3, 4], [3, 4]), ([5], [5]), ([6], [6]), ([1, 7], [1, 7]), ([0, 1, 2, 3, 4, 5, 6, 7, 8], []), ([9, 8, 8, 0, 1, 2, 3, 4, 5, 6, 7, 8], [8, 9])])
def spec_AddPivot.B10 : List Nat := [0, 1, 0, 4, 0, 28, 60, 124, 255, 511, 1023]
theorem spec_AddPivot.tab10 : rtab .any (opsOf Try.f78 10) = spec_AddPivot.T10 := by kernel_rfl
theorem spec_AddPivot.bits10 : waitsOk spec_AddPivot.T10.2 spec_AddPivot.B10 = true := by kernel_rfl
set_option maxHeartbeats 8000000 in
set_option maxRecDepth 100000 in
theorem spec_AddPivot.calls (k : Nat) (j5 : Option Addr) (d5 : Nat) (b3 : List Int) (g5 : Option Addr) (b5 : Nat) (z2 : List Int) (o6 : Option Addr) (a5 : Nat) (q0 : List (S50)) (a1_0 : Int) (a1_1 : Int) (r1 : List Int) (r2 : List Int) (r3 : List (S50)) (r4 : Bool) (w : World) (aa1 : Kd.C (Kd.int .i64) w j5 b3.length b3) (hc0_0 : b3.length ≤ d5) (za0 : Kd.C (Kd.int .i64) w g5 z2.length z2) (hc0_1 : z2.length ≤ b5) (ya0 : Kd.C k50 w o6 q0.length q0) (hc0_2 : q0.length ≤ a5) (h : spec_AddPivot.f k b3 z2 q0 a1_0 a1_1 = some (r1, r2, r3, r4)) :
  Calls Try.prog 78 #[.agg #[.slice j5 b3.length d5, .slice g5 z2.length b5, .slice o6 q0.length a5], .agg #[.int .i64 a1_0, .int .i64 a1_1]] w fun e w' => ∃ v0_ v1_ v2_ : Value, e = .returned (.tuple #[.agg #[v0_, v1_, v2_], .bool r4]) ∧ Kd.R (Kd.int .i64) 3 w' w.heap.size (fun k_ => some k_ ≠ (v1_ : Value).ownBlock) v0_ r1 ∧ Kd.R (Kd.int .i64) 3 w' w.heap.size (fun k_ => some k_ ≠ (v0_ : Value).ownBlock) v1_ r2 ∧ Kd.R k50 50 w' w.heap.size (fun _ => True) v2_ r3 ∧ Below w.heap.size w w' := by
 have hu29 := Try.underlying29
 have hu50 := Try.underlying50
 have a6 := mk aa1
 have m6 := mk hc0_0
 clear aa1 hc0_0
 have z5 := mk za0
 have k6 := mk hc0_1
 clear za0 hc0_1
 have z4 := mk ya0
 have j6 := mk hc0_2
 clear ya0 hc0_2
 have HB := mk (Below.refl w.heap.size w)
 have H : ((spec_l4Copy.f b3 z2 q0).bind fun q6 => (spec_AddPivot.l0 k false 0 b3 z2 q0 a1_0 a1_1 q6.1 q6.2.1 (([] : List (S50))))) = some (r1, r2, r3, r4) := h
 clear h
 revert H; refine bo ?_; rintro ⟨s3, q3, mb3⟩ A3 H
 dsimp only at H
 obtain ⟨za6, hy_⟩ : ∃ y_ : List (S50), y_ = (([] : List (S50))) := ⟨_, rfl⟩
 replace H : (spec_AddPivot.l0 k false 0 b3 z2 q0 a1_0 a1_1 s3 q3 za6) = some (r1, r2, r3, r4) := hw
 have sa1 := mk hy_
 clear hy_
 have H' := mk H
 clear H
 go_enter Try.func78, Try.ntmps78
 go_wp2_with (first | ((with_reducible refine gate_dst (N := 2) rfl ?_); refine bx 2 #[.slice j5 b3.length d5, .slice g5 z2.length b5, .slice o6 q0.length a5] 29 ?_; intro s2 hg w4 hbox hb; have k0 := mk hbox; have sc1 := wg hg; replace HB := wh hb; clear hb hbox hg) | ((with_reducible refine gate_dst (N := 3) rfl ?_); refine bx 3 #[.int .i64 a1_0, .int .i64 a1_1] 50 ?_; intro o1 hg w5 hbox hb; have m0 := mk hbox; have qc1 := wg hg; replace HB := wh hb; have z1 := nl k0 hg; have v1 := nr k0 hg; replace k0 := wb k0 hb; clear hb hbox hg) | ((with_reducible refine gate_dst (N := 4) rfl ?_); refine bx 4 #[.slice none 0 0, .slice none 0 0, .slice none 0 0] 29 ?_; intro v4 hg w6 hbox hb; have o0 := mk hbox; have oc1 := wg hg; replace HB := wh hb; have j2 := nl k0 hg; have d2 := nr k0 hg; replace k0 := wb k0 hb; have o3 := nl m0 hg; have m3 := nr m0 hg; replace m0 := wb m0 hb; clear hb hbox hg; have kc4 := z1.out; have gc4 := v1.out; have jc4 := j2.out; have dc4 := d2.out; obtain ⟨ma1, ka1, ja1, ga1, da1, ba1⟩ := bz3 k0) | ((with_reducible refine gate_callee (f := 28) rfl ?_); refine gl (some 10) rfl Try.func28 #[.agg #[.slice j5 b3.length d5, .slice g5 z2.length b5, .slice o6 q0.length a5]] ?_; (with_reducible refine (spec_l4Copy.calls _ _ b3 _ _ z2 _ _ q0 s3 q3 mb3 _ ?side1 ?side2 ?side3 ?side4 ?side5 ?side6 A3.out).mono ?_); (case side1 => exact cb a6 HB); (case side2 => exact m6.out); (case side3 => exact cb z5 HB); (case side4 => exact k6.out); (case side5 => exact cb z4 HB); (case side6 => exact j6.out); rintro e w10 ⟨ac4, zc3, yc3, rfl, ho0, ho1, ho2, hb⟩; refine ⟨_, rfl, ?_⟩; have g6 := lo ho0; have d6 := lo ho1; have b6 := lo (Kd.R_newB ho2 (g := o1) (o := .cells #[.int .i64 a1_0, .int .i64 a1_1] 50 (0, 0)) (ub m0.out)); replace k0 := wb k0 hb; replace m0 := wb m0 hb; replace o0 := wb o0 hb; replace HB := wh hb; (try clear hb ho0 ho1 ho2)) | ((with_reducible refine gate_dst (N := 6) rfl ?_); refine bx 6 #[.slice none 0 0, .slice none 0 0, .slice none 0 0] 29 ?_; intro m1 hg w11 hbox hb; replace g6 := ro g6 hb; replace d6 := ro d6 hb; replace b6 := ro b6 hb; have j0 := mk hbox; have mc1 := wg hg; replace HB := wh hb; have d1 := nl k0 hg; have b1 := nr k0 hg; replace k0 := wb k0 hb; have g2 := nl m0 hg; have b2 := nr m0 hg; replace m0 := wb m0 hb; have s1 := nl o0 hg; have q1 := nr o0 hg; replace o0 := wb o0 hb; clear hb hbox hg; obtain ⟨q5, m5, kc0⟩ := Kd.R_slice g6.out; subst kc0; have yb9 := b1.out; have sb7 := d1.out; have vb9 := b2.out; have qb7 := g2.out; have sb9 := q1.out; have ob7 := s1.out; obtain ⟨ka0, ja0, ga0, q8, o8, m8⟩ := bz3 j0; obtain ⟨o5, k5, jc0⟩ := Kd.R_slice d6.out; subst jc0; obtain ⟨gc2, dc1, gc0⟩ := Kd.R_slice b6.out; subst gc0) | ((with_reducible refine gate_dst (N := 11) rfl ?_); refine Kd.R_lit k50 _ 50 ?hg (N := 11) ?hd (xs := ([] : List (S50))) (inner := []) (ok := fun _ => True) (okp := fun _ => True) ?hr ?hp (fun _ hk => hk) trivial (Below.refl _ _) (Nat.le_refl _) (by simp) ?_; (case hd => rfl); (case hg => rfl); (case hr => first | (go_simp; done) | (go_simp; rfl)); (case hp => exact (Reps.none _ _)); intro vc3 w19 qa0 hb hg_ hnew_; clear hg_ hnew_; (first | rw [← sa1.out] at qa0 | (simp only [Int.reduceToNat] at qa0; rw [← sa1.out] at qa0)); replace g6 := ro1 g6 j0 hb; replace d6 := ro1 d6 j0 hb; have oa2 := lo (Kd.R_newB (Kd.R_new' qa0 (Kd.R_lt (by exact rs1 b6 j0))) (g := o1) (o := .cells #[.int .i64 a1_0, .int .i64 a1_1] 50 (0, 0)) bq); replace b6 := el1 b6 j0 qa0 hb; replace k0 := wx k0 hb; replace m0 := wx m0 hb; replace o0 := wx o0 hb; replace j0 := wq m1 #[.slice q5 s3.length m5, .slice o5 q3.length k5, .slice gc2 mb3.length dc1] 29 hb; replace HB := wh hb; clear hb qa0; obtain ⟨dc2, bc1, dc0⟩ := Kd.R_slice oa2.out; subst dc0; obtain ⟨da0, ba0, aa0, k8, j8, g8⟩ := bz3 j0))
 go_loopg [7, 8] k (fun kq v7 v8 w' => ∃ (sa0 : Bool) (v0 : Int) (z0 : List (S50)) (s0 : Value), v7 = .bool sa0 ∧ v8 = .int .i64 v0 ∧ Aside0 (spec_AddPivot.l0 kq sa0 v0 b3 z2 q0 a1_0 a1_1 s3 q3 z0 = some (r1, r2, r3, r4)) ∧ Aside0 (kq ≤ k) ∧ Aside0 (Kd.R (Kd.int .i64) 3 w' w.heap.size (fun k_ => some k_ ≠ ((.slice o5 q3.length k5) : Value).ownBlock) (.slice q5 s3.length m5) s3) ∧ Aside0 (Kd.R (Kd.int .i64) 3 w' w.heap.size (fun k_ => some k_ ≠ ((.slice q5 s3.length m5) : Value).ownBlock) (.slice o5 q3.length k5) q3) ∧ Aside0 (Kd.R k50 50 w' w.heap.size (fun k_ => k_ ≠ o1) s0 z0) ∧ Aside0 (w'.heap[s2]? = some (.cells #[(.slice j5 b3.length d5), (.slice g5 z2.length b5), (.slice o6 q0.length a5)] 29 (0, 0))) ∧ Aside0 (w'.heap[o1]? = some (.cells #[.int .i64 a1_0, .int .i64 a1_1] 50 (0, 0))) ∧ Aside0 (w'.heap[v4]? = some (.cells #[(.slice none 0 0), (.slice none 0 0), (.slice none 0 0)] 29 (0, 0))) ∧ Aside0 (w'.heap[m1]? = some (.cells #[(.slice q5 s3.length m5), (.slice o5 q3.length k5), s0] 29 (0, 0))) ∧ Aside0 (Below w.heap.size w w'))
 case atStart => exact ⟨(false), (0), (za6), (.slice dc2 za6.length bc1), (by first | rfl | (simp; done) | (simp [*]; done)), (by first | rfl | (simp; done) | (simp [*]; done)), H', ⟨Nat.le_refl _⟩, ⟨(by exact rm (rs1 g6 j0))⟩, ⟨(by exact rm (rs1 d6 j0))⟩, ⟨(by exact rm (rs1 oa2 j0))⟩, ⟨bq⟩, ⟨bq⟩, ⟨bq⟩, ⟨bq⟩, ⟨bl⟩⟩
 case round =>
  clear H'
  try clear c1
  try clear c2
  try clear p2
  try clear c7
  try clear c8
  try clear c13
  try clear c14
  try clear c15
  try clear ka0
  try clear ja0
  try clear ga0
  try clear da0
  try clear ba0
  try clear aa0
  try clear ma1
  try clear ka1
  try clear ja1
  try clear q8
  try clear o8
  try clear m8
  try clear k8
  try clear j8
  try clear g8
  try clear ga1
  try clear da1
  try clear ba1
  obtain ⟨sa0, v0, z0, s0, rfl, rfl, HA, HK1, g0, d0, b0, k0, m0, o0, j0, HB⟩ := hrel
  cases gk with
  | zero => exact absurd HA.out (by simp [spec_AddPivot.l0])
  | succ k1 =>
   have H := HA.out
   clear HA
   simp only [spec_AddPivot.l0] at H
   revert H; refine ci (fun c23 H => ?_) fun c23 H => ?_
   ·have qa1 : decide (v0 < (q0.length : Int)) = true := decide_eq_true c23
    clear c23
    by_cases c24 : sa0 = true
    ·subst c24
     rw [if_pos rfl] at H
     revert H; refine ca fun c25 H => ?_
     have kc1 : decide (0 ≤ v0) = true := decide_eq_true c25
     clear c25
     revert H; refine ca fun c26 H => ?_
     have LMc26 := mk c26
     clear c26
     obtain ⟨ya6, hy_⟩ : ∃ y_ : List (S50), y_ = (z0 ++ [(⟨(rd_T50 q0 v0).f0, (rd_T50 q0 v0).f1⟩ : S50)]) := ⟨_, rfl⟩
     replace H : (spec_AddPivot.l0 k1 true (wrap64 (v0 + 1)) b3 z2 q0 a1_0 a1_1 s3 q3 ya6) = some (r1, r2, r3, r4) := hw
     have kb2 := mk hy_
     clear hy_
     have H' := mk H
     clear H
     have qb9 := z1.out
     have mb7 := v1.out
     have ob9 := j2.out
     have kb7 := d2.out
     have mb9 := d1.out
     have jb7 := b1.out
     obtain ⟨vb0, sb0, qb0, aa9, za8, ya8⟩ := bz3 k0
     try go_wp2
     replace g0 := mk (Kd.R_drew g0.out)
     replace d0 := mk (Kd.R_drew d0.out)
     replace b0 := mk (Kd.R_drew b0.out)
     replace k0 := wd k0
     replace m0 := wd m0
     replace o0 := wd o0
     replace j0 := wd j0
     replace HB := mk (below_drew1 HB.out)
     refine start_ (n := 13) (S := fun w' => True) (ds := []) #[F_, F_, F_, F_, F_, F_, F_, F_, F_, F_, F_, F_, F_] (by kernel_rfl) rfl rfl trivial (fun hHeld => ?_); refine with_tabW spec_AddPivot.tab7 spec_AddPivot.bits7 (fun HT_ HW_ => ?_)
     generalize wr.drew = w31 at g0 d0 b0 k0 m0 o0 j0 HB hHeld ⊢
     refine pu 0 20 (tf 1 12) ?_
     refine pu 1 21 (tf 2 11) ?_
     refine pu 2 22 (tf 3 10) ?_
     refine pn 3 23 (tf 4 9) ?_
     refine pn 4 24 (tf 5 8) ?_
     refine pn 5 25 (tf 6 7) ?_
     refine pn 6 26 (tf 7 6) ?_
     refine pn 7 27 (tf 8 5) ?_
     refine pn 8 28 (tf 9 4) ?_
     refine pn 9 29 (tf 10 3) ?_
     refine pn 10 30 (tf 11 2) ?_
     refine pn 11 31 (tf 12 1) ?_
     refine pu 12 32 (tf 13 0) ?_
     refine done_ (done_of HT_.out (by kernel_rfl)) ?_
     try go_wp2
     replace g0 := mk (Kd.R_drew g0.out)
     replace d0 := mk (Kd.R_drew d0.out)
     replace b0 := mk (Kd.R_drew b0.out)
     replace k0 := wd k0
     replace m0 := wd m0
     replace o0 := wd o0
     replace j0 := wd j0
     replace HB := mk (below_drew1 HB.out)
     have ga7 : 0 ≤ (v0 : Int) := dt
     have da7 : v0 < (q0.length : Int) := dt
     obtain ⟨s6, qc0, s4, o4⟩ := at_T50 z4.out v0 ga7 da7
     have hw476_1 := o4
     have hw476_0 := s4
     cases qc0
     replace s4 := (HB.out.cell (World.block_lt_of_cell? w _ s4)).trans s4
     replace o4 := (HB.out.cell (World.block_lt_of_cell? w _ o4)).trans o4
     replace ga7 := eq_true ga7
     replace da7 := eq_true da7
     refine start_ (n := 11) (S := fun w' => w'.cell? ⟨m1, 0, none⟩ = some (.slice q5 s3.length m5) ∧ w'.cell? ⟨m1, 1, none⟩ = some (.slice o5 q3.length k5) ∧ w'.cell? ⟨m1, 2, none⟩ = some (s0) ∧ w'.cell? ⟨s2, 0, none⟩ = some (.slice j5 b3.length d5) ∧ w'.cell? ⟨s2, 1, none⟩ = some (.slice g5 z2.length b5) ∧ w'.cell? ⟨s2, 2, none⟩ = some (.slice (some s6) q0.length a5) ∧ w'.cell? (s6.add ((v0).toNat * 2)) = some (.int .i64 ((rd_T50 q0 v0).f0)) ∧ w'.cell? ⟨(s6.add ((v0).toNat * 2)).block, (s6.add ((v0).toNat * 2)).off + 1, none⟩ = some (.int .i64 ((rd_T50 q0 v0).f1))) (ds := [10]) #[F_, F_, F_, F_, F_, F_, F_, F_, F_, F_, F_] (by kernel_rfl) rfl rfl ⟨bc j0 0, bc j0 1, bc j0 2, bc k0 0, bc k0 1, bc k0 2, ((HB.out.cell (World.block_lt_of_cell? w _ hw476_0)).trans hw476_0), ((HB.out.cell (World.block_lt_of_cell? w _ hw476_1)).trans hw476_1)⟩ (fun hHeld => ?_); refine with_tabW spec_AddPivot.tab10 spec_AddPivot.bits10 (fun HT_ HW_ => ?_)
     generalize w31.drew = w32 at g0 d0 b0 k0 m0 o0 j0 HB s4 o4 hHeld ⊢
     refine pu 0 39 (tf 1 10) ?_
     refine pu 2 41 #[T_,F_,T_,F_,F_,F_,F_,F_,F_,F_,F_] ?_
     refine pu 4 43 #[T_,F_,T_,F_,T_,F_,F_,F_,F_,F_,F_] ?_
     refine tk 1 40 #[T_,T_,T_,F_,T_,F_,F_,F_,F_,F_,F_] hHeld ?_
     refine tk 3 42 (tf 5 6) hHeld ?_
     refine pu 5 44 (tf 6 5) ?_
     refine tk 6 45 (tf 7 4) hHeld ?_
     refine on 7 46 (tf 8 3) (fun K hK => ?_)
     refine value_ (w1 := ?_) (v := ?_) (by rfl) rfl ?_ ?_
     rotate_left 2
     ·go_simp
      constructor
      ·rfl
      ·rfl
     refine hK.out _ _ ⟨(blk_cell (blk_alloc j0.out _) 0).trans rfl, (blk_cell (blk_alloc j0.out _) 1).trans rfl, (blk_cell (blk_alloc j0.out _) 2).trans rfl, (blk_cell (blk_alloc k0.out _) 0).trans rfl, (blk_cell (blk_alloc k0.out _) 1).trans rfl, (blk_cell (blk_alloc k0.out _) 2).trans rfl, (World.cell?_alloc_lt _ _ _ (World.block_lt_of_cell? _ _ (((HB.out.cell (World.block_lt_of_cell? w _ hw476_0)).trans hw476_0)))).trans (((HB.out.cell (World.block_lt_of_cell? w _ hw476_0)).trans hw476_0)), (World.cell?_alloc_lt _ _ _ (World.block_lt_of_cell? _ _ (((HB.out.cell (World.block_lt_of_cell? w _ hw476_1)).trans hw476_1)))).trans (((HB.out.cell (World.block_lt_of_cell? w _ hw476_1)).trans hw476_1))⟩ (fun hHeld => ?_)
     clear hK K
     refine nm 46 ?_
     refine on 8 47 (tf 9 2) (fun K hK => ?_)
     refine Kd.R_append_step k50 (w0 := w) w.heap.size (by rfl) (.tmp 40) (.tmp 46) 27 50 (.agg #[(.int .i64 0), (.int .i64 0)]) 16 rfl Try.underlying27 info50 rfl (by decide) (by omega) s0 z0 (⟨(rd_T50 q0 v0).f0, (rd_T50 q0 v0).f1⟩ : S50) [.int .i64 ((rd_T50 q0 v0).f0), .int .i64 ((rd_T50 q0 v0).f1)] (fun k_ => k_ ≠ o1) (fun _ => False) rfl rfl ?aP (fun _ hk => hk.elim) ?aF ?aO ?aB ?aS ?aL ?_
     (case aP => exact k50_mkM _ _ _ (⟨(rd_T50 q0 v0).f0, (rd_T50 q0 v0).f1⟩ : S50))
     (case aB => exact bl)
     (case aF => exact (fun k_ hk => Kd.freshB (g := o1) (o := .cells #[.int .i64 a1_0, .int .i64 a1_1] 50 (0, 0)) (ub m0.out) k_ hk))
     (case aO => exact (up b0.out))
     (case aS => exact (below_size bl))
     (case aL => have := LMc26.out; omega)
     intro sc3 w33 ho hb hg hat
     rw [← kb2.out] at ho
     replace g0 := mk (Kd.R_over' (up g0.out) (Kd.R_typed (up b0.out)) (by decide) hg)
     replace d0 := mk (Kd.R_over' (up d0.out) (Kd.R_typed (up b0.out)) (by decide) hg)
     replace k0 := mk (blk_grown (g := s2) (o := .cells #[.slice j5 b3.length d5, .slice g5 z2.length b5, .slice (some s6) q0.length a5] 29 (0, 0)) (ub k0.out) hg (Kd.R_ne b0.out k0.out (by decide)))
     replace m0 := mk (blk_grown (g := o1) (o := .cells #[.int .i64 a1_0, .int .i64 a1_1] 50 (0, 0)) (ub m0.out) hg (Kd.R_away b0.out (fun _ hk => hk)))
     replace o0 := mk (blk_grown (g := v4) (o := .cells #[.slice none 0 0, .slice none 0 0, .slice none 0 0] 29 (0, 0)) (ub o0.out) hg (Kd.R_ne b0.out o0.out (by decide)))
     replace j0 := mk (blk_grown (g := m1) (o := .cells #[.slice q5 s3.length m5, .slice o5 q3.length k5, s0] 29 (0, 0)) (ub j0.out) hg (Kd.R_ne b0.out j0.out (by decide)))
     replace HB := mk hb
     have ma2 := mk ho
     clear b0
     clear ho hb hg hat
     obtain ⟨bc2, ac1, ob5⟩ := Kd.R_slice ma2.out
     (first | subst ob5 | (injection ob5 with f1_ f2_ f3_; have f4_ := f1_.symm; have f5_ := f3_.symm; clear f1_ f2_ f3_; subst f4_; subst f5_))
     refine hK.out _ _ ⟨bc j0 0, bc j0 1, bc j0 2, bc k0 0, bc k0 1, bc k0 2, ((HB.out.cell (World.block_lt_of_cell? w _ hw476_0)).trans hw476_0), ((HB.out.cell (World.block_lt_of_cell? w _ hw476_1)).trans hw476_1)⟩ (fun hHeld => ?_)
     clear hK K
     refine nm 47 ?_
     refine pu 9 48 (tf 10 1) ?_
     refine last_ (i := 10) (N := none) #[T_, T_, T_, T_, T_, T_, T_, T_, T_, T_, T_] rfl rfl (one_of HT_.out (by kernel_rfl)) (by decide) (fun K hK => ?_)
     have hs35 : w33.cell? ⟨m1, 2, none⟩ = some (s0) := (blk_cell j0.out 2).trans rfl
     have hfs35 := blk_frozen j0.out 2
     have hns35_0 := d1.out
     have hns35_1 := g2.out
     have hns35_2 := s1.out
     have hms35_0 := b1.out
     have hms35_1 := b2.out
     have hms35_2 := q1.out
     refine skip_ (w1 := ?_) (by rfl) rfl ?_ ?_
     rotate_left
     ·go_simp
      rfl
     refine hK.out _ _ ?_
     clear hK K
     refine done_ (done_of HT_.out (by kernel_rfl)) ?_
     try go_wp2
     go_roundg k1
     case measure => have := HK1.out; omega
     case rel => exact ⟨(true), (wrap64 (v0 + 1)), (ya6), (.slice bc2 ya6.length ac1), (by first | rfl | (simp; done) | (simp [*]; done)), (by first | rfl | (simp; done) | (simp [*]; done)), H', ⟨by have := HK1.out; omega⟩, ⟨(by exact rm (rs1 g0 j0))⟩, ⟨(by exact rm (rs1 d0 j0))⟩, ⟨(by exact rm (rs1 ma2 j0))⟩, ⟨bq⟩, ⟨bq⟩, ⟨bq⟩, ⟨bq⟩, ⟨bl⟩⟩
    ·replace c24 := Bool.eq_false_iff.mpr c24
     subst c24
     rw [if_neg nf] at H
     revert H; refine ca fun c36 H => ?_
     have jc1 : decide (0 ≤ v0) = true := decide_eq_true c36
     clear c36
     revert H; refine ci (fun c37 H => ?_) fun c37 H => ?_
     ·have oa1 : decide (a1_0 < ((rd_T50 q0 v0).f0)) = true := decide_eq_true c37
      clear c37
      revert H; refine ca fun c38 H => ?_
      have LMc38 := mk c38
      clear c38
      obtain ⟨k4, hy_⟩ : ∃ y_ : List (S50), y_ = (z0 ++ [(⟨a1_0, a1_1⟩ : S50)]) := ⟨_, rfl⟩
      replace H : (if k4.length < 8796093022208 then (spec_AddPivot.l0 k1 true (wrap64 (v0 + 1)) b3 z2 q0 a1_0 a1_1 s3 q3 (k4 ++ [(⟨(rd_T50 q0 v0).f0, (rd_T50 q0 v0).f1⟩ : S50)])) else (none)) = some (r1, r2, r3, r4) := hw
      have jb2 := mk hy_
      clear hy_
      revert H; refine ca fun c39 H => ?_
      have LMc39 := mk c39
      clear c39
      obtain ⟨va6, hy_⟩ : ∃ y_ : List (S50), y_ = (k4 ++ [(⟨(rd_T50 q0 v0).f0, (rd_T50 q0 v0).f1⟩ : S50)]) := ⟨_, rfl⟩
      replace H : (spec_AddPivot.l0 k1 true (wrap64 (v0 + 1)) b3 z2 q0 a1_0 a1_1 s3 q3 va6) = some (r1, r2, r3, r4) := hw
      have gb2 := mk hy_
      clear hy_
      have H' := mk H
      clear H
      have kb9 := z1.out
      have gb7 := v1.out
      have jb9 := j2.out
      have db7 := d2.out
      have gb9 := d1.out
      have bb7 := b1.out
      obtain ⟨ob0, mb0, kb0, va8, sa8, qa8⟩ := bz3 k0
      try go_wp2
      replace g0 := mk (Kd.R_drew g0.out)
      replace d0 := mk (Kd.R_drew d0.out)
      replace b0 := mk (Kd.R_drew b0.out)
      replace k0 := wd k0
      replace m0 := wd m0
      replace o0 := wd o0
      replace j0 := wd j0
      replace HB := mk (below_drew1 HB.out)
      have z6 : 0 ≤ (v0 : Int) := dt
      have v6 : v0 < (q0.length : Int) := dt
      obtain ⟨v2, kb1, o2, m2⟩ := at_T50 z4.out v0 z6 v6
      have hw480_1 := m2
      have hw480_0 := o2
      cases kb1
      replace o2 := (HB.out.cell (World.block_lt_of_cell? w _ o2)).trans o2
      replace m2 := (HB.out.cell (World.block_lt_of_cell? w _ m2)).trans m2
      replace z6 := eq_true z6
      replace v6 := eq_true v6
      refine start_ (n := 13) (S := fun w' => w'.cell? ⟨s2, 0, none⟩ = some (.slice j5 b3.length d5) ∧ w'.cell? ⟨s2, 1, none⟩ = some (.slice g5 z2.length b5) ∧ w'.cell? ⟨s2, 2, none⟩ = some (.slice (some v2) q0.length a5) ∧ w'.cell? ⟨o1, 0, none⟩ = some (.int .i64 a1_0) ∧ w'.cell? ⟨o1, 1, none⟩ = some (.int .i64 a1_1) ∧ w'.cell? (v2.add ((v0).toNat * 2)) = some (.int .i64 ((rd_T50 q0 v0).f0)) ∧ w'.cell? ⟨(v2.add ((v0).toNat * 2)).block, (v2.add ((v0).toNat * 2)).off + 1, none⟩ = some (.int .i64 ((rd_T50 q0 v0).f1))) (ds := []) #[F_, F_, F_, F_, F_, F_, F_, F_, F_, F_, F_, F_, F_] (by kernel_rfl) rfl rfl ⟨bc k0 0, bc k0 1, bc k0 2, bc m0 0, bc m0 1, ((HB.out.cell (World.block_lt_of_cell? w _ hw480_0)).trans hw480_0), ((HB.out.cell (World.block_lt_of_cell? w _ hw480_1)).trans hw480_1)⟩ (fun hHeld => ?_); refine with_tabW spec_AddPivot.tab7 spec_AddPivot.bits7 (fun HT_ HW_ => ?_)
      generalize wr.drew = w44 at g0 d0 b0 k0 m0 o0 j0 HB o2 m2 hHeld ⊢
      refine pu 0 20 (tf 1 12) ?_
      refine pu 1 21 (tf 2 11) ?_
      refine pu 2 22 (tf 3 10) ?_
      refine pu 3 23 (tf 4 9) ?_
      refine pu 5 25 #[T_,T_,T_,T_,F_,T_,F_,F_,F_,F_,F_,F_,F_] ?_
      refine pu 9 29 #[T_,T_,T_,T_,F_,T_,F_,F_,F_,T_,F_,F_,F_] ?_
      refine tk 4 24 #[T_,T_,T_,T_,T_,T_,F_,F_,F_,T_,F_,F_,F_] hHeld ?_
      refine pu 6 26 #[T_,T_,T_,T_,T_,T_,T_,F_,F_,T_,F_,F_,F_] ?_
      refine pu 7 27 #[T_,T_,T_,T_,T_,T_,T_,T_,F_,T_,F_,F_,F_] ?_
      refine tk 8 28 (tf 10 3) hHeld ?_
      refine tk 10 30 (tf 11 2) hHeld ?_
      refine pu 11 31 (tf 12 1) ?_
      refine pu 12 32 (tf 13 0) ?_
      refine done_ (done_of HT_.out (by kernel_rfl)) ?_
      have db9 := b2.out
      have ab7 := g2.out
      have bb9 := q1.out
      have zb6 := s1.out
      obtain ⟨jb0, gb0, db0, oa8, ma8, ka8⟩ := bz3 j0
      have ab9 := o3.out
      have yb6 := m3.out
      obtain ⟨bb0, ab0, ja8, ga8⟩ := bz2 m0
      try go_wp2_with (first | ((with_reducible refine gate_builtin (b := .append) (xs := #[.tmp 34, .tmp 36]) rfl ?_); at_builtin; refine Kd.R_append k50 (w0 := w) w.heap.size rfl (.tmp 34) (.tmp 36) 27 50 (.agg #[(.int .i64 0), (.int .i64 0)]) 16 rfl Try.underlying27 info50 rfl (by decide) (by omega) s0 z0 (⟨a1_0, a1_1⟩ : S50) [.int .i64 a1_0, .int .i64 a1_1] (fun k_ => k_ ≠ o1) (fun _ => False) rfl rfl ?aP (fun _ hk => hk.elim) ?aF ?aO ?aB ?aS ?aL ?_; (case aP => exact k50_mkM _ _ _ (⟨a1_0, a1_1⟩ : S50)); (case aB => exact bl); (case aF => exact (fun k_ hk => Kd.freshB (g := o1) (o := .cells #[.int .i64 a1_0, .int .i64 a1_1] 50 (0, 0)) (ub m0.out) k_ hk)); (case aO => exact (up b0.out)); (case aS => exact (below_size bl)); (case aL => have := LMc38.out; omega); intro qc3 w50 ho hb hg hat; rw [← jb2.out] at ho; replace g0 := mk (Kd.R_over' (up g0.out) (Kd.R_typed (up b0.out)) (by decide) hg); replace d0 := mk (Kd.R_over' (up d0.out) (Kd.R_typed (up b0.out)) (by decide) hg); replace k0 := mk (blk_grown (g := s2) (o := .cells #[.slice j5 b3.length d5, .slice g5 z2.length b5, .slice (some v2) q0.length a5] 29 (0, 0)) (ub k0.out) hg (Kd.R_ne b0.out k0.out (by decide))); replace m0 := mk (blk_grown (g := o1) (o := .cells #[.int .i64 a1_0, .int .i64 a1_1] 50 (0, 0)) (ub m0.out) hg (Kd.R_away b0.out (fun _ hk => hk))); replace o0 := mk (blk_grown (g := v4) (o := .cells #[.slice none 0 0, .slice none 0 0, .slice none 0 0] 29 (0, 0)) (ub o0.out) hg (Kd.R_ne b0.out o0.out (by decide))); replace j0 := mk (blk_grown (g := m1) (o := .cells #[.slice q5 s3.length m5, .slice o5 q3.length k5, s0] 29 (0, 0)) (ub j0.out) hg (Kd.R_ne b0.out j0.out (by decide))); replace HB := mk hb; have v3 := mk ho; clear b0; clear ho hb hg hat; obtain ⟨v5, s5, bc0⟩ := Kd.R_slice v3.out; subst bc0; obtain ⟨za9, ya9, va9, da8, ba8, aa8⟩ := bz3 j0))
      have n0_ : Aside0 (Kd.R (Kd.int .i64) 3 (w50.setCell ⟨m1, 2, none⟩ (.slice v5 k4.length s5)) w.heap.size (fun k_ => some k_ ≠ (.slice o5 q3.length k5 : Value).ownBlock) (.slice q5 s3.length m5) s3) := ⟨(by exact rm (rs1 g0 j0))⟩
      have n1_ : Aside0 (Kd.R (Kd.int .i64) 3 (w50.setCell ⟨m1, 2, none⟩ (.slice v5 k4.length s5)) w.heap.size (fun k_ => some k_ ≠ (.slice q5 s3.length m5 : Value).ownBlock) (.slice o5 q3.length k5) q3) := ⟨(by exact rm (rs1 d0 j0))⟩
      have n2_ : Aside0 (Kd.R k50 50 (w50.setCell ⟨m1, 2, none⟩ (.slice v5 k4.length s5)) w.heap.size (fun k_ => k_ ≠ o1) (.slice v5 k4.length s5) k4) := ⟨(by exact rm (rs1 v3 j0))⟩
      have n3_ : Aside0 ((w50.setCell ⟨m1, 2, none⟩ (.slice v5 k4.length s5)).heap[s2]? = some (.cells #[.slice j5 b3.length d5, .slice g5 z2.length b5, .slice (some v2) q0.length a5] 29 (0, 0))) := ⟨bq⟩
      have n4_ : Aside0 ((w50.setCell ⟨m1, 2, none⟩ (.slice v5 k4.length s5)).heap[o1]? = some (.cells #[.int .i64 a1_0, .int .i64 a1_1] 50 (0, 0))) := ⟨bq⟩
      have n5_ : Aside0 ((w50.setCell ⟨m1, 2, none⟩ (.slice v5 k4.length s5)).heap[v4]? = some (.cells #[.slice none 0 0, .slice none 0 0, .slice none 0 0] 29 (0, 0))) := ⟨bq⟩
      have n6_ : Aside0 ((w50.setCell ⟨m1, 2, none⟩ (.slice v5 k4.length s5)).heap[m1]? = some (.cells #[.slice q5 s3.length m5, .slice o5 q3.length k5, .slice v5 k4.length s5] 29 (0, 0))) := ⟨bq⟩
      have n7_ : Aside0 (Below w.heap.size w (w50.setCell ⟨m1, 2, none⟩ (.slice v5 k4.length s5))) := ⟨bl⟩
      (try clear g0)
      (try clear d0)
      (try clear v3)
      (try clear k0)
      (try clear m0)
      (try clear o0)
      (try clear j0)
      (try clear HB)
      generalize (w50.setCell ⟨m1, 2, none⟩ (.slice v5 k4.length s5)) = w53 at n0_ n1_ n2_ n3_ n4_ n5_ n6_ n7_ ⊢
      have g0 := n0_
      have d0 := n1_
      have v3 := n2_
      have k0 := n3_
      have m0 := n4_
      have o0 := n5_
      have j0 := n6_
      have HB := n7_
      clear n0_ n1_ n2_ n3_ n4_ n5_ n6_ n7_
      replace g0 := mk (Kd.R_drew g0.out)
      replace d0 := mk (Kd.R_drew d0.out)
      replace v3 := mk (Kd.R_drew v3.out)
      replace k0 := wd k0
      replace m0 := wd m0
      replace o0 := wd o0
      replace j0 := wd j0
      replace HB := mk (below_drew1 HB.out)
      have ya2 : 0 ≤ (v0 : Int) := dt
      have sa2 : v0 < (q0.length : Int) := dt
      obtain ⟨ab2, oc0, j4, g4⟩ := at_T50 z4.out v0 ya2 sa2
      have hw484_1 := g4
      have hw484_0 := j4
      obtain rfl : v2 = ab2 := (by injection oc0)
      replace j4 := (HB.out.cell (World.block_lt_of_cell? w _ j4)).trans j4
      replace g4 := (HB.out.cell (World.block_lt_of_cell? w _ g4)).trans g4
      replace ya2 := eq_true ya2
      replace sa2 := eq_true sa2
      refine start_ (n := 11) (S := fun w' => w'.cell? ⟨m1, 0, none⟩ = some (.slice q5 s3.length m5) ∧ w'.cell? ⟨m1, 1, none⟩ = some (.slice o5 q3.length k5) ∧ w'.cell? ⟨m1, 2, none⟩ = some (.slice v5 k4.length s5) ∧ w'.cell? ⟨s2, 0, none⟩ = some (.slice j5 b3.length d5) ∧ w'.cell? ⟨s2, 1, none⟩ = some (.slice g5 z2.length b5) ∧ w'.cell? ⟨s2, 2, none⟩ = some (.slice (some v2) q0.length a5) ∧ w'.cell? (v2.add ((v0).toNat * 2)) = some (.int .i64 ((rd_T50 q0 v0).f0)) ∧ w'.cell? ⟨(v2.add ((v0).toNat * 2)).block, (v2.add ((v0).toNat * 2)).off + 1, none⟩ = some (.int .i64 ((rd_T50 q0 v0).f1))) (ds := [10]) #[F_, F_, F_, F_, F_, F_, F_, F_, F_, F_, F_] (by kernel_rfl) rfl rfl ⟨bc j0 0, bc j0 1, bc j0 2, bc k0 0, bc k0 1, bc k0 2, ((HB.out.cell (World.block_lt_of_cell? w _ hw484_0)).trans hw484_0), ((HB.out.cell (World.block_lt_of_cell? w _ hw484_1)).trans hw484_1)⟩ (fun hHeld => ?_); refine with_tabW spec_AddPivot.tab10 spec_AddPivot.bits10 (fun HT_ HW_ => ?_)
      generalize w53.drew = w54 at g0 d0 v3 k0 m0 o0 j0 HB j4 g4 hHeld ⊢
      refine pu 0 39 (tf 1 10) ?_
      refine pu 2 41 #[T_,F_,T_,F_,F_,F_,F_,F_,F_,F_,F_] ?_
      refine pu 4 43 #[T_,F_,T_,F_,T_,F_,F_,F_,F_,F_,F_] ?_
      refine tk 1 40 #[T_,T_,T_,F_,T_,F_,F_,F_,F_,F_,F_] hHeld ?_
      refine tk 3 42 (tf 5 6) hHeld ?_
      refine pu 5 44 (tf 6 5) ?_
      refine tk 6 45 (tf 7 4) hHeld ?_
      refine on 7 46 (tf 8 3) (fun K hK => ?_)
      refine value_ (w1 := ?_) (v := ?_) (by rfl) rfl ?_ ?_
      rotate_left 2
      ·go_simp
       constructor
       ·rfl
       ·rfl
      refine hK.out _ _ ⟨(blk_cell (blk_alloc j0.out _) 0).trans rfl, (blk_cell (blk_alloc j0.out _) 1).trans rfl, (blk_cell (blk_alloc j0.out _) 2).trans rfl, (blk_cell (blk_alloc k0.out _) 0).trans rfl, (blk_cell (blk_alloc k0.out _) 1).trans rfl, (blk_cell (blk_alloc k0.out _) 2).trans rfl, (World.cell?_alloc_lt _ _ _ (World.block_lt_of_cell? _ _ (((HB.out.cell (World.block_lt_of_cell? w _ hw484_0)).trans hw484_0)))).trans (((HB.out.cell (World.block_lt_of_cell? w _ hw484_0)).trans hw484_0)), (World.cell?_alloc_lt _ _ _ (World.block_lt_of_cell? _ _ (((HB.out.cell (World.block_lt_of_cell? w _ hw484_1)).trans hw484_1)))).trans (((HB.out.cell (World.block_lt_of_cell? w _ hw484_1)).trans hw484_1))⟩ (fun hHeld => ?_)
      clear hK K
      refine nm 46 ?_
      refine on 8 47 (tf 9 2) (fun K hK => ?_)
      refine Kd.R_append_step k50 (w0 := w) w.heap.size (by rfl) (.tmp 40) (.tmp 46) 27 50 (.agg #[(.int .i64 0), (.int .i64 0)]) 16 rfl Try.underlying27 info50 rfl (by decide) (by omega) (.slice v5 k4.length s5) k4 (⟨(rd_T50 q0 v0).f0, (rd_T50 q0 v0).f1⟩ : S50) [.int .i64 ((rd_T50 q0 v0).f0), .int .i64 ((rd_T50 q0 v0).f1)] (fun k_ => k_ ≠ o1) (fun _ => False) rfl rfl ?aP (fun _ hk => hk.elim) ?aF ?aO ?aB ?aS ?aL ?_
      (case aP => exact k50_mkM _ _ _ (⟨(rd_T50 q0 v0).f0, (rd_T50 q0 v0).f1⟩ : S50))
      (case aB => exact bl)
      (case aF => exact (fun k_ hk => Kd.freshB (g := o1) (o := .cells #[.int .i64 a1_0, .int .i64 a1_1] 50 (0, 0)) (ub m0.out) k_ hk))
      (case aO => exact (up v3.out))
      (case aS => exact (below_size bl))
      (case aL => have := LMc39.out; omega)
      intro oc3 w55 ho hb hg hat
      rw [← gb2.out] at ho
      replace g0 := mk (Kd.R_over' (up g0.out) (Kd.R_typed (up v3.out)) (by decide) hg)
      replace d0 := mk (Kd.R_over' (up d0.out) (Kd.R_typed (up v3.out)) (by decide) hg)
      replace k0 := mk (blk_grown (g := s2) (o := .cells #[.slice j5 b3.length d5, .slice g5 z2.length b5, .slice (some v2) q0.length a5] 29 (0, 0)) (ub k0.out) hg (Kd.R_ne v3.out k0.out (by decide)))
      replace m0 := mk (blk_grown (g := o1) (o := .cells #[.int .i64 a1_0, .int .i64 a1_1] 50 (0, 0)) (ub m0.out) hg (Kd.R_away v3.out (fun _ hk => hk)))
      replace o0 := mk (blk_grown (g := v4) (o := .cells #[.slice none 0 0, .slice none 0 0, .slice none 0 0] 29 (0, 0)) (ub o0.out) hg (Kd.R_ne v3.out o0.out (by decide)))
      replace j0 := mk (blk_grown (g := m1) (o := .cells #[.slice q5 s3.length m5, .slice o5 q3.length k5, .slice v5 k4.length s5] 29 (0, 0)) (ub j0.out) hg (Kd.R_ne v3.out j0.out (by decide)))
      replace HB := mk hb
      have ka2 := mk ho
      clear v3
      clear ho hb hg hat
      obtain ⟨ac2, zc0, mb5⟩ := Kd.R_slice ka2.out
      (first | subst mb5 | (injection mb5 with f1_ f2_ f3_; have f4_ := f1_.symm; have f5_ := f3_.symm; clear f1_ f2_ f3_; subst f4_; subst f5_))
      refine hK.out _ _ ⟨bc j0 0, bc j0 1, bc j0 2, bc k0 0, bc k0 1, bc k0 2, ((HB.out.cell (World.block_lt_of_cell? w _ hw484_0)).trans hw484_0), ((HB.out.cell (World.block_lt_of_cell? w _ hw484_1)).trans hw484_1)⟩ (fun hHeld => ?_)
      clear hK K
      refine nm 47 ?_
      refine pu 9 48 (tf 10 1) ?_
      refine last_ (i := 10) (N := none) #[T_, T_, T_, T_, T_, T_, T_, T_, T_, T_, T_] rfl rfl (one_of HT_.out (by kernel_rfl)) (by decide) (fun K hK => ?_)
      have hs57 : w55.cell? ⟨m1, 2, none⟩ = some (.slice v5 k4.length s5) := (blk_cell j0.out 2).trans rfl
      have hfs57 := blk_frozen j0.out 2
      have hns57_0 := d1.out
      have hns57_1 := g2.out
      have hns57_2 := s1.out
      have hms57_0 := b1.out
      have hms57_1 := b2.out
      have hms57_2 := q1.out
      refine skip_ (w1 := ?_) (by rfl) rfl ?_ ?_
      rotate_left
      ·go_simp
       rfl
      refine hK.out _ _ ?_
      clear hK K
      refine done_ (done_of HT_.out (by kernel_rfl)) ?_
      try go_wp2
      go_roundg k1
      case measure => have := HK1.out; omega
      case rel => exact ⟨(true), (wrap64 (v0 + 1)), (va6), (.slice ac2 va6.length zc0), (by first | rfl | (simp; done) | (simp [*]; done)), (by first | rfl | (simp; done) | (simp [*]; done)), H', ⟨by have := HK1.out; omega⟩, ⟨(by exact rm (rs1 g0 j0))⟩, ⟨(by exact rm (rs1 d0 j0))⟩, ⟨(by exact rm (rs1 ka2 j0))⟩, ⟨bq⟩, ⟨bq⟩, ⟨bq⟩, ⟨bq⟩, ⟨bl⟩⟩
     ·have oa1 : decide (a1_0 < ((rd_T50 q0 v0).f0)) = false := decide_eq_false c37
      clear c37
      revert H; refine ca fun c58 H => ?_
      have LMc58 := mk c58
      clear c58
      obtain ⟨sa6, hy_⟩ : ∃ y_ : List (S50), y_ = (z0 ++ [(⟨(rd_T50 q0 v0).f0, (rd_T50 q0 v0).f1⟩ : S50)]) := ⟨_, rfl⟩
      replace H : (spec_AddPivot.l0 k1 false (wrap64 (v0 + 1)) b3 z2 q0 a1_0 a1_1 s3 q3 sa6) = some (r1, r2, r3, r4) := hw
      have db2 := mk hy_
      clear hy_
      have H' := mk H
      clear H
      have zb8 := z1.out
      have vb6 := v1.out
      have yb8 := j2.out
      have sb6 := d2.out
      have vb8 := d1.out
      have qb6 := b1.out
      obtain ⟨z9, v9, s9, d8, b8, a8⟩ := bz3 k0
      try go_wp2
      replace g0 := mk (Kd.R_drew g0.out)
      replace d0 := mk (Kd.R_drew d0.out)
      replace b0 := mk (Kd.R_drew b0.out)
      replace k0 := wd k0
      replace m0 := wd m0
      replace o0 := wd o0
      replace j0 := wd j0
      replace HB := mk (below_drew1 HB.out)
      have z6 : 0 ≤ (v0 : Int) := dt
      have v6 : v0 < (q0.length : Int) := dt
      obtain ⟨v2, kb1, o2, m2⟩ := at_T50 z4.out v0 z6 v6
      have hw480_1 := m2
      have hw480_0 := o2
      cases kb1
      replace o2 := (HB.out.cell (World.block_lt_of_cell? w _ o2)).trans o2
      replace m2 := (HB.out.cell (World.block_lt_of_cell? w _ m2)).trans m2
      replace z6 := eq_true z6
      replace v6 := eq_true v6
      refine start_ (n := 13) (S := fun w' => w'.cell? ⟨s2, 0, none⟩ = some (.slice j5 b3.length d5) ∧ w'.cell? ⟨s2, 1, none⟩ = some (.slice g5 z2.length b5) ∧ w'.cell? ⟨s2, 2, none⟩ = some (.slice (some v2) q0.length a5) ∧ w'.cell? ⟨o1, 0, none⟩ = some (.int .i64 a1_0) ∧ w'.cell? ⟨o1, 1, none⟩ = some (.int .i64 a1_1) ∧ w'.cell? (v2.add ((v0).toNat * 2)) = some (.int .i64 ((rd_T50 q0 v0).f0)) ∧ w'.cell? ⟨(v2.add ((v0).toNat * 2)).block, (v2.add ((v0).toNat * 2)).off + 1, none⟩ = some (.int .i64 ((rd_T50 q0 v0).f1))) (ds := []) #[F_, F_, F_, F_, F_, F_, F_, F_, F_, F_, F_, F_, F_] (by kernel_rfl) rfl rfl ⟨bc k0 0, bc k0 1, bc k0 2, bc m0 0, bc m0 1, ((HB.out.cell (World.block_lt_of_cell? w _ hw480_0)).trans hw480_0), ((HB.out.cell (World.block_lt_of_cell? w _ hw480_1)).trans hw480_1)⟩ (fun hHeld => ?_); refine with_tabW spec_AddPivot.tab7 spec_AddPivot.bits7 (fun HT_ HW_ => ?_)
      generalize wr.drew = w63 at g0 d0 b0 k0 m0 o0 j0 HB o2 m2 hHeld ⊢
      refine pu 0 20 (tf 1 12) ?_
      refine pu 1 21 (tf 2 11) ?_
      refine pu 2 22 (tf 3 10) ?_
      refine pu 3 23 (tf 4 9) ?_
      refine pu 5 25 #[T_,T_,T_,T_,F_,T_,F_,F_,F_,F_,F_,F_,F_] ?_
      refine pu 9 29 #[T_,T_,T_,T_,F_,T_,F_,F_,F_,T_,F_,F_,F_] ?_
      refine tk 4 24 #[T_,T_,T_,T_,T_,T_,F_,F_,F_,T_,F_,F_,F_] hHeld ?_
      refine pu 6 26 #[T_,T_,T_,T_,T_,T_,T_,F_,F_,T_,F_,F_,F_] ?_
      refine pu 7 27 #[T_,T_,T_,T_,T_,T_,T_,T_,F_,T_,F_,F_,F_] ?_
      refine tk 8 28 (tf 10 3) hHeld ?_
      refine tk 10 30 (tf 11 2) hHeld ?_
      refine pu 11 31 (tf 12 1) ?_
      refine pu 12 32 (tf 13 0) ?_
      refine done_ (done_of HT_.out (by kernel_rfl)) ?_
      try go_wp2
      replace g0 := mk (Kd.R_drew g0.out)
      replace d0 := mk (Kd.R_drew d0.out)
      replace b0 := mk (Kd.R_drew b0.out)
      replace k0 := wd k0
      replace m0 := wd m0
      replace o0 := wd o0
      replace j0 := wd j0
      replace HB := mk (below_drew1 HB.out)
      have va2 : 0 ≤ (v0 : Int) := dt
      have qa2 : v0 < (q0.length : Int) := dt
      obtain ⟨zb1, mc0, d4, b4⟩ := at_T50 z4.out v0 va2 qa2
      have hw488_1 := b4
      have hw488_0 := d4
      obtain rfl : v2 = zb1 := (by injection mc0)
      replace d4 := (HB.out.cell (World.block_lt_of_cell? w _ d4)).trans d4
      replace b4 := (HB.out.cell (World.block_lt_of_cell? w _ b4)).trans b4
      replace va2 := eq_true va2
      replace qa2 := eq_true qa2
      refine start_ (n := 11) (S := fun w' => w'.cell? ⟨m1, 0, none⟩ = some (.slice q5 s3.length m5) ∧ w'.cell? ⟨m1, 1, none⟩ = some (.slice o5 q3.length k5) ∧ w'.cell? ⟨m1, 2, none⟩ = some (s0) ∧ w'.cell? ⟨s2, 0, none⟩ = some (.slice j5 b3.length d5) ∧ w'.cell? ⟨s2, 1, none⟩ = some (.slice g5 z2.length b5) ∧ w'.cell? ⟨s2, 2, none⟩ = some (.slice (some v2) q0.length a5) ∧ w'.cell? (v2.add ((v0).toNat * 2)) = some (.int .i64 ((rd_T50 q0 v0).f0)) ∧ w'.cell? ⟨(v2.add ((v0).toNat * 2)).block, (v2.add ((v0).toNat * 2)).off + 1, none⟩ = some (.int .i64 ((rd_T50 q0 v0).f1))) (ds := [10]) #[F_, F_, F_, F_, F_, F_, F_, F_, F_, F_, F_] (by kernel_rfl) rfl rfl ⟨bc j0 0, bc j0 1, bc j0 2, bc k0 0, bc k0 1, bc k0 2, ((HB.out.cell (World.block_lt_of_cell? w _ hw488_0)).trans hw488_0), ((HB.out.cell (World.block_lt_of_cell? w _ hw488_1)).trans hw488_1)⟩ (fun hHeld => ?_); refine with_tabW spec_AddPivot.tab10 spec_AddPivot.bits10 (fun HT_ HW_ => ?_)
      generalize w63.drew = w64 at g0 d0 b0 k0 m0 o0 j0 HB d4 b4 hHeld ⊢
      refine pu 0 39 (tf 1 10) ?_
      refine pu 2 41 #[T_,F_,T_,F_,F_,F_,F_,F_,F_,F_,F_] ?_
      refine pu 4 43 #[T_,F_,T_,F_,T_,F_,F_,F_,F_,F_,F_] ?_
      refine tk 1 40 #[T_,T_,T_,F_,T_,F_,F_,F_,F_,F_,F_] hHeld ?_
      refine tk 3 42 (tf 5 6) hHeld ?_
      refine pu 5 44 (tf 6 5) ?_
      refine tk 6 45 (tf 7 4) hHeld ?_
      refine on 7 46 (tf 8 3) (fun K hK => ?_)
      refine value_ (w1 := ?_) (v := ?_) (by rfl) rfl ?_ ?_
      rotate_left 2
      ·go_simp
       constructor
       ·rfl
       ·rfl
      refine hK.out _ _ ⟨(blk_cell (blk_alloc j0.out _) 0).trans rfl, (blk_cell (blk_alloc j0.out _) 1).trans rfl, (blk_cell (blk_alloc j0.out _) 2).trans rfl, (blk_cell (blk_alloc k0.out _) 0).trans rfl, (blk_cell (blk_alloc k0.out _) 1).trans rfl, (blk_cell (blk_alloc k0.out _) 2).trans rfl, (World.cell?_alloc_lt _ _ _ (World.block_lt_of_cell? _ _ (((HB.out.cell (World.block_lt_of_cell? w _ hw488_0)).trans hw488_0)))).trans (((HB.out.cell (World.block_lt_of_cell? w _ hw488_0)).trans hw488_0)), (World.cell?_alloc_lt _ _ _ (World.block_lt_of_cell? _ _ (((HB.out.cell (World.block_lt_of_cell? w _ hw488_1)).trans hw488_1)))).trans (((HB.out.cell (World.block_lt_of_cell? w _ hw488_1)).trans hw488_1))⟩ (fun hHeld => ?_)
      clear hK K
      refine nm 46 ?_
      refine on 8 47 (tf 9 2) (fun K hK => ?_)
      refine Kd.R_append_step k50 (w0 := w) w.heap.size (by rfl) (.tmp 40) (.tmp 46) 27 50 (.agg #[(.int .i64 0), (.int .i64 0)]) 16 rfl Try.underlying27 info50 rfl (by decide) (by omega) s0 z0 (⟨(rd_T50 q0 v0).f0, (rd_T50 q0 v0).f1⟩ : S50) [.int .i64 ((rd_T50 q0 v0).f0), .int .i64 ((rd_T50 q0 v0).f1)] (fun k_ => k_ ≠ o1) (fun _ => False) rfl rfl ?aP (fun _ hk => hk.elim) ?aF ?aO ?aB ?aS ?aL ?_
      (case aP => exact k50_mkM _ _ _ (⟨(rd_T50 q0 v0).f0, (rd_T50 q0 v0).f1⟩ : S50))
      (case aB => exact bl)
      (case aF => exact (fun k_ hk => Kd.freshB (g := o1) (o := .cells #[.int .i64 a1_0, .int .i64 a1_1] 50 (0, 0)) (ub m0.out) k_ hk))
      (case aO => exact (up b0.out))
      (case aS => exact (below_size bl))
      (case aL => have := LMc58.out; omega)
      intro mc3 w65 ho hb hg hat
      rw [← db2.out] at ho
      replace g0 := mk (Kd.R_over' (up g0.out) (Kd.R_typed (up b0.out)) (by decide) hg)
      replace d0 := mk (Kd.R_over' (up d0.out) (Kd.R_typed (up b0.out)) (by decide) hg)
      replace k0 := mk (blk_grown (g := s2) (o := .cells #[.slice j5 b3.length d5, .slice g5 z2.length b5, .slice (some v2) q0.length a5] 29 (0, 0)) (ub k0.out) hg (Kd.R_ne b0.out k0.out (by decide)))
      replace m0 := mk (blk_grown (g := o1) (o := .cells #[.int .i64 a1_0, .int .i64 a1_1] 50 (0, 0)) (ub m0.out) hg (Kd.R_away b0.out (fun _ hk => hk)))
      replace o0 := mk (blk_grown (g := v4) (o := .cells #[.slice none 0 0, .slice none 0 0, .slice none 0 0] 29 (0, 0)) (ub o0.out) hg (Kd.R_ne b0.out o0.out (by decide)))
      replace j0 := mk (blk_grown (g := m1) (o := .cells #[.slice q5 s3.length m5, .slice o5 q3.length k5, s0] 29 (0, 0)) (ub j0.out) hg (Kd.R_ne b0.out j0.out (by decide)))
      replace HB := mk hb
      have ja2 := mk ho
      clear b0
      clear ho hb hg hat
      obtain ⟨zc1, yc0, kb5⟩ := Kd.R_slice ja2.out
      (first | subst kb5 | (injection kb5 with f1_ f2_ f3_; have f4_ := f1_.symm; have f5_ := f3_.symm; clear f1_ f2_ f3_; subst f4_; subst f5_))
      refine hK.out _ _ ⟨bc j0 0, bc j0 1, bc j0 2, bc k0 0, bc k0 1, bc k0 2, ((HB.out.cell (World.block_lt_of_cell? w _ hw488_0)).trans hw488_0), ((HB.out.cell (World.block_lt_of_cell? w _ hw488_1)).trans hw488_1)⟩ (fun hHeld => ?_)
      clear hK K
      refine nm 47 ?_
      refine pu 9 48 (tf 10 1) ?_
      refine last_ (i := 10) (N := none) #[T_, T_, T_, T_, T_, T_, T_, T_, T_, T_, T_] rfl rfl (one_of HT_.out (by kernel_rfl)) (by decide) (fun K hK => ?_)
      have hs67 : w65.cell? ⟨m1, 2, none⟩ = some (s0) := (blk_cell j0.out 2).trans rfl
      have hfs67 := blk_frozen j0.out 2
      have hns67_0 := d1.out
      have hns67_1 := g2.out
      have hns67_2 := s1.out
      have hms67_0 := b1.out
      have hms67_1 := b2.out
      have hms67_2 := q1.out
      refine skip_ (w1 := ?_) (by rfl) rfl ?_ ?_
      rotate_left
      ·go_simp
       rfl
      refine hK.out _ _ ?_
      clear hK K
      refine done_ (done_of HT_.out (by kernel_rfl)) ?_
      try go_wp2
      go_roundg k1
      case measure => have := HK1.out; omega
      case rel => exact ⟨(false), (wrap64 (v0 + 1)), (sa6), (.slice zc1 sa6.length yc0), (by first | rfl | (simp; done) | (simp [*]; done)), (by first | rfl | (simp; done) | (simp [*]; done)), H', ⟨by have := HK1.out; omega⟩, ⟨(by exact rm (rs1 g0 j0))⟩, ⟨(by exact rm (rs1 d0 j0))⟩, ⟨(by exact rm (rs1 ja2 j0))⟩, ⟨bq⟩, ⟨bq⟩, ⟨bq⟩, ⟨bq⟩, ⟨bl⟩⟩
   ·have qa1 : decide (v0 < (q0.length : Int)) = false := decide_eq_false c23
    clear c23
    have mb2 := mk H
    clear H
    have sb8 := z1.out
    have ob6 := v1.out
    have qb8 := j2.out
    have mb6 := d2.out
    have ob8 := d1.out
    have kb6 := b1.out
    obtain ⟨q9, o9, m9, z7, s7, q7⟩ := bz3 k0
    go_upto_if 50 with (fail)
    go_cut [] (fun wc => ∃ (kq : Nat) (q2 : List (S50)) (s0 : Value), Aside0 (spec_AddPivot.j1 kq b3 z2 q0 s3 q3 q2 = some (r1, r2, r3, r4)) ∧ Aside0 (kq ≤ k1) ∧ Aside0 (Kd.R (Kd.int .i64) 3 wc w.heap.size (fun k_ => some k_ ≠ ((.slice o5 q3.length k5) : Value).ownBlock) (.slice q5 s3.length m5) s3) ∧ Aside0 (Kd.R (Kd.int .i64) 3 wc w.heap.size (fun k_ => some k_ ≠ ((.slice q5 s3.length m5) : Value).ownBlock) (.slice o5 q3.length k5) q3) ∧ Aside0 (Kd.R k50 50 wc w.heap.size (fun k_ => k_ ≠ o1) s0 q2) ∧ Aside0 (wc.heap[s2]? = some (.cells #[(.slice j5 b3.length d5), (.slice g5 z2.length b5), (.slice o6 q0.length a5)] 29 (0, 0))) ∧ Aside0 (wc.heap[o1]? = some (.cells #[.int .i64 a1_0, .int .i64 a1_1] 50 (0, 0))) ∧ Aside0 (wc.heap[v4]? = some (.cells #[(.slice none 0 0), (.slice none 0 0), (.slice none 0 0)] 29 (0, 0))) ∧ Aside0 (wc.heap[m1]? = some (.cells #[(.slice q5 s3.length m5), (.slice o5 q3.length k5), s0] 29 (0, 0))) ∧ Aside0 (Below w.heap.size w wc))
    case first =>
     have H := mb2.out
     clear mb2
     by_cases c73 : sa0 = true
     ·subst c73
      rw [if_pos rfl] at H
      have H' := mk H
      clear H
      go_wp2
      go_meet
      case rel => exact ⟨_, (z0), (s0), H', ⟨by have := HK1.out; first | omega | exact Nat.le_refl _⟩, ⟨up g0.out⟩, ⟨up d0.out⟩, ⟨up b0.out⟩, ⟨ub k0.out⟩, ⟨ub m0.out⟩, ⟨ub o0.out⟩, ⟨ub j0.out⟩, ⟨bl⟩⟩
     ·replace c73 := Bool.eq_false_iff.mpr c73
      subst c73
      rw [if_neg nf] at H
      revert H; refine ca fun c74 H => ?_
      have LMc74 := mk c74
      clear c74
      obtain ⟨qa6, hy_⟩ : ∃ y_ : List (S50), y_ = (z0 ++ [(⟨a1_0, a1_1⟩ : S50)]) := ⟨_, rfl⟩
      replace H : (spec_AddPivot.j1 k1 b3 z2 q0 s3 q3 qa6) = some (r1, r2, r3, r4) := hw
      have bb2 := mk hy_
      clear hy_
      have H' := mk H
      clear H
      have mb8 := b1.out
      have jb6 := d1.out
      have kb8 := b2.out
      have gb6 := g2.out
      have jb8 := q1.out
      have db6 := s1.out
      obtain ⟨k9, j9, g9, o7, m7, k7⟩ := bz3 j0
      have gb8 := v1.out
      have bb6 := z1.out
      have db8 := o3.out
      have ab6 := m3.out
      obtain ⟨d9, b9, j7, g7⟩ := bz2 m0
      go_wp2_with (first | ((with_reducible refine gate_builtin (b := .append) (xs := #[.tmp 52, .tmp 54]) rfl ?_); at_builtin; refine Kd.R_append k50 (w0 := w) w.heap.size rfl (.tmp 52) (.tmp 54) 27 50 (.agg #[(.int .i64 0), (.int .i64 0)]) 16 rfl Try.underlying27 info50 rfl (by decide) (by omega) s0 z0 (⟨a1_0, a1_1⟩ : S50) [.int .i64 a1_0, .int .i64 a1_1] (fun k_ => k_ ≠ o1) (fun _ => False) rfl rfl ?aP (fun _ hk => hk.elim) ?aF ?aO ?aB ?aS ?aL ?_; (case aP => exact k50_mkM _ _ _ (⟨a1_0, a1_1⟩ : S50)); (case aB => exact bl); (case aF => exact (fun k_ hk => Kd.freshB (g := o1) (o := .cells #[.int .i64 a1_0, .int .i64 a1_1] 50 (0, 0)) (ub m0.out) k_ hk)); (case aO => exact (up b0.out)); (case aS => exact (below_size bl)); (case aL => have := LMc74.out; omega); intro kc3 w82 ho hb hg hat; rw [← bb2.out] at ho; replace g0 := mk (Kd.R_over' (up g0.out) (Kd.R_typed (up b0.out)) (by decide) hg); replace d0 := mk (Kd.R_over' (up d0.out) (Kd.R_typed (up b0.out)) (by decide) hg); replace k0 := mk (blk_grown (g := s2) (o := .cells #[.slice j5 b3.length d5, .slice g5 z2.length b5, .slice o6 q0.length a5] 29 (0, 0)) (ub k0.out) hg (Kd.R_ne b0.out k0.out (by decide))); replace m0 := mk (blk_grown (g := o1) (o := .cells #[.int .i64 a1_0, .int .i64 a1_1] 50 (0, 0)) (ub m0.out) hg (Kd.R_away b0.out (fun _ hk => hk))); replace o0 := mk (blk_grown (g := v4) (o := .cells #[.slice none 0 0, .slice none 0 0, .slice none 0 0] 29 (0, 0)) (ub o0.out) hg (Kd.R_ne b0.out o0.out (by decide))); replace j0 := mk (blk_grown (g := m1) (o := .cells #[.slice q5 s3.length m5, .slice o5 q3.length k5, s0] 29 (0, 0)) (ub j0.out) hg (Kd.R_ne b0.out j0.out (by decide))); replace HB := mk hb; have ga2 := mk ho; clear b0; clear ho hb hg hat; obtain ⟨yc1, vc0, ac0⟩ := Kd.R_slice ga2.out; subst ac0; obtain ⟨a9, z8, s8, d7, b7, a7⟩ := bz3 j0))
      go_meet
      case rel => exact ⟨_, (qa6), (.slice yc1 qa6.length vc0), H', ⟨by have := HK1.out; first | omega | exact Nat.le_refl _⟩, ⟨(by exact rm (rs1 g0 j0))⟩, ⟨(by exact rm (rs1 d0 j0))⟩, ⟨(by exact rm (rs1 ga2 j0))⟩, ⟨bq⟩, ⟨bq⟩, ⟨bq⟩, ⟨bq⟩, ⟨bl⟩⟩
    case rest =>
     clear mb2
     try clear c2
     try clear p2
     try clear c3
     try clear p4
     try clear q4
     try clear hx4
     try clear c5
     try clear c6
     try clear p6
     try clear c7
     try clear c8
     try clear c23
     try clear qa1
     try clear c36
     try clear c37
     try clear oa1
     try clear c38
     try clear c39
     try clear p48
     try clear q48
     try clear bc4
     try clear c58
     try clear c59
     try clear c60
     try clear c61
     try clear p64
     try clear c69
     try clear c70
     try clear c71
     try clear c73
     try clear c74
     try clear c75
     try clear c76
     try clear c77
     try clear c79
     try clear c80
     try clear z9
     try clear v9
     try clear s9
     try clear q9
     try clear o9
     try clear m9
     try clear k9
     try clear j9
     try clear g9
     try clear d9
     try clear b9
     try clear a9
     try clear z8
     try clear s8
     try clear d8
     try clear b8
     try clear a8
     try clear z7
     try clear s7
     try clear q7
     try clear o7
     try clear m7
     try clear k7
     try clear j7
     try clear g7
     try clear d7
     try clear b7
     try clear a7
     try clear o2
     try clear m2
     try clear j4
     try clear g4
     try clear d4
     try clear b4
     try clear z6
     try clear ya2
     try clear va2
     try clear v6
     try clear sa2
     try clear qa2
     obtain ⟨kq, q2, s0, HA, mc4, g0, d0, b0, k0, m0, o0, j0, HB⟩ := hcut
     cases kq with
     | zero => exact absurd HA.out (by simp [spec_AddPivot.j1])
     | succ va0 =>
      have H := HA.out
      clear HA
      simp only [spec_AddPivot.j1] at H
      revert H; refine bo ?_; rintro ba7 A85 H
      by_cases c86 : ba7 = true
      ·subst c86
       rw [if_pos rfl] at H
       revert H; refine bo ?_; rintro aa7 A87 H
       by_cases c88 : aa7 = true
       ·subst c88
        rw [if_pos rfl] at H
        simp only [Option.some.injEq, Prod.mk.injEq] at H
        obtain ⟨rfl, rfl, rfl, rfl⟩ := H
        have bb8 := z1.out
        have zb5 := v1.out
        have ab8 := j2.out
        have yb5 := d2.out
        have zb7 := d1.out
        have vb5 := b1.out
        obtain ⟨sa9, qa9, oa9, za7, ya7, va7⟩ := bz3 k0
        go_wp2_with (first | ((with_reducible refine gate_callee (f := 23) rfl ?_); refine gl (some 58) rfl Try.func23 #[.agg #[.slice j5 b3.length d5, .slice g5 z2.length b5, .slice o6 q0.length a5]] ?_; (with_reducible refine (spec_IsCracker.calls va0 _ _ b3 _ _ z2 _ _ q0 true _ ?side1 ?side2 ?side3 ?side4 ?side5 ?side6 A85.out).mono ?_); (case side1 => exact cb a6 HB); (case side2 => exact m6.out); (case side3 => exact cb z5 HB); (case side4 => exact k6.out); (case side5 => exact cb z4 HB); (case side6 => exact j6.out); rintro e w93 ⟨rfl, hb⟩; refine ⟨_, rfl, ?_⟩; replace g0 := ro g0 hb; replace d0 := ro d0 hb; replace b0 := ro b0 hb; replace k0 := wb k0 hb; replace m0 := wb m0 hb; replace o0 := wb o0 hb; replace j0 := wb j0 hb; replace HB := wh hb; (try clear hb); have yb7 := b2.out; have sb5 := g2.out; have vb7 := q1.out; have qb5 := s1.out; obtain ⟨ma9, ka9, ja9, sa7, qa7, oa7⟩ := bz3 j0; obtain ⟨vc1, sc0, zb9⟩ := Kd.R_slice b0.out; subst zb9) | (go_at_call 23; (with_reducible refine (spec_IsCracker.calls va0 _ _ s3 _ _ q3 _ _ q2 true _ ?side1 ?side2 ?side3 ?side4 ?side5 ?side6 A87.out).mono ?_); (case side1 => exact ra g0); (case side2 => exact rb g0); (case side3 => exact ra d0); (case side4 => exact rb d0); (case side5 => exact ra b0); (case side6 => exact rb b0); rintro e w98 ⟨rfl, hb⟩; replace g0 := ro g0 hb; replace d0 := ro d0 hb; replace b0 := ro b0 hb; replace k0 := wb k0 hb; replace m0 := wb m0 hb; replace o0 := wb o0 hb; replace j0 := wb j0 hb; replace HB := wh hb; (try clear hb); obtain ⟨ga9, da9, ba9, ma7, ka7, ja7⟩ := bz3 j0; have jb5 := m3.out; have kb4 := o3.out; obtain ⟨oa6, ma6, ka6, sa4, qa4, oa4⟩ := bz3 o0))
        refine bodyPost_ret (results_ct rfl _ _ v4 29 #[.slice q5 s3.length m5, .slice o5 q3.length k5, .slice vc1 q2.length sc0] (0, 0) _ rfl bq Try.underlying29 rfl (by kernel_rfl)) rfl ?_
        exact ⟨_, _, _, rx, (by exact rm (rs1 g0 o0)), (by exact rm (rs1 d0 o0)), (by exact rm (rs1 b0 o0)), bl⟩
       ·replace c88 := Bool.eq_false_iff.mpr c88
        subst c88
        rw [if_neg nf] at H
        revert H; refine bo ?_; rintro ⟨kb3, jb3, gb3⟩ mc2 H
        dsimp only at H
        simp only [Option.some.injEq, Prod.mk.injEq] at H
        obtain ⟨rfl, rfl, rfl, rfl⟩ := H
        have gb5 := z1.out
        have jb4 := v1.out
        have db5 := j2.out
        have gb4 := d2.out
        have bb5 := d1.out
        have db4 := b1.out
        obtain ⟨ja6, ga6, da6, ma4, ka4, ja4⟩ := bz3 k0
        go_wp2_with (first | ((with_reducible refine gate_callee (f := 23) rfl ?_); refine gl (some 58) rfl Try.func23 #[.agg #[.slice j5 b3.length d5, .slice g5 z2.length b5, .slice o6 q0.length a5]] ?_; (with_reducible refine (spec_IsCracker.calls va0 _ _ b3 _ _ z2 _ _ q0 true _ ?side1 ?side2 ?side3 ?side4 ?side5 ?side6 A85.out).mono ?_); (case side1 => exact cb a6 HB); (case side2 => exact m6.out); (case side3 => exact cb z5 HB); (case side4 => exact k6.out); (case side5 => exact cb z4 HB); (case side6 => exact j6.out); rintro e yc2 ⟨rfl, hb⟩; refine ⟨_, rfl, ?_⟩; replace g0 := ro g0 hb; replace d0 := ro d0 hb; replace b0 := ro b0 hb; replace k0 := wb k0 hb; replace m0 := wb m0 hb; replace o0 := wb o0 hb; replace j0 := wb j0 hb; replace HB := wh hb; (try clear hb); have ab5 := b2.out; have bb4 := g2.out; have zb4 := q1.out; have ab4 := s1.out; obtain ⟨ba6, aa6, za5, ga4, da4, ba4⟩ := bz3 j0; obtain ⟨jc2, gc1, jb1⟩ := Kd.R_slice b0.out; subst jb1) | (go_at_call 23; (with_reducible refine (spec_IsCracker.calls va0 _ _ s3 _ _ q3 _ _ q2 false _ ?side1 ?side2 ?side3 ?side4 ?side5 ?side6 A87.out).mono ?_); (case side1 => exact ra g0); (case side2 => exact rb g0); (case side3 => exact ra d0); (case side4 => exact rb d0); (case side5 => exact ra b0); (case side6 => exact rb b0); rintro e vc2 ⟨rfl, hb⟩; replace g0 := ro g0 hb; replace d0 := ro d0 hb; replace b0 := ro b0 hb; replace k0 := wb k0 hb; replace m0 := wb m0 hb; replace o0 := wb o0 hb; replace j0 := wb j0 hb; replace HB := wh hb; (try clear hb); obtain ⟨ya5, va5, sa5, aa4, za3, ya3⟩ := bz3 k0) | ((with_reducible refine gate_callee (f := 28) rfl ?_); refine gl (some 66) rfl Try.func28 #[.agg #[.slice j5 b3.length d5, .slice g5 z2.length b5, .slice o6 q0.length a5]] ?_; (with_reducible refine (spec_l4Copy.calls _ _ b3 _ _ z2 _ _ q0 kb3 jb3 gb3 _ ?side1 ?side2 ?side3 ?side4 ?side5 ?side6 mc2.out).mono ?_); (case side1 => exact cb a6 HB); (case side2 => exact m6.out); (case side3 => exact cb z5 HB); (case side4 => exact k6.out); (case side5 => exact cb z4 HB); (case side6 => exact j6.out); rintro e sc2 ⟨jc3, gc3, dc3, rfl, ho0, ho1, ho2, hb⟩; refine ⟨_, rfl, ?_⟩; have da2 := lo (nw (nw ho0 g0) d0); have ba2 := lo (nw (nw ho1 g0) d0); replace g0 := td2 g0 hb ho0 ho1; replace d0 := td2 d0 hb ho0 ho1; have aa2 := lo (Kd.R_newB (Kd.R_new' ho2 (Kd.R_lt (up b0.out))) (g := o1) (o := .cells #[.int .i64 a1_0, .int .i64 a1_1] 50 (0, 0)) (ub m0.out)); replace b0 := el b0 ho2 hb; replace k0 := wb k0 hb; replace m0 := wb m0 hb; replace o0 := wb o0 hb; replace j0 := wb j0 hb; replace HB := wh hb; (try clear hb ho0 ho1 ho2); obtain ⟨zb2, yb1, gb1⟩ := Kd.R_slice da2.out; subst gb1; have yb4 := m3.out; have zb3 := o3.out; obtain ⟨qa5, oa5, ma5, va3, sa3, qa3⟩ := bz3 o0; obtain ⟨yb2, vb1, db1⟩ := Kd.R_slice ba2.out; subst db1; obtain ⟨vb2, sb1, bb1⟩ := Kd.R_slice aa2.out; subst bb1))
        refine bodyPost_ret (results_ct rfl _ _ v4 29 #[.slice zb2 kb3.length yb1, .slice yb2 jb3.length vb1, .slice vb2 gb3.length sb1] (0, 0) _ rfl bq Try.underlying29 rfl (by kernel_rfl)) rfl ?_
        exact ⟨_, _, _, rx, (by exact rm (rs1 da2 o0)), (by exact rm (rs1 ba2 o0)), (by exact rm (rs1 aa2 o0)), bl⟩
      ·replace c86 := Bool.eq_false_iff.mpr c86
       subst c86
       rw [if_neg nf] at H
       revert H; refine bo ?_; rintro ⟨db3, bb3, ab3⟩ kc2 H
       dsimp only at H
       simp only [Option.some.injEq, Prod.mk.injEq] at H
       obtain ⟨rfl, rfl, rfl, rfl⟩ := H
       have vb4 := z1.out
       have yb3 := v1.out
       have sb4 := j2.out
       have vb3 := d2.out
       have qb4 := d1.out
       have sb3 := b1.out
       obtain ⟨ka5, ja5, ga5, oa3, ma3, ka3⟩ := bz3 k0
       go_wp2_with (first | ((with_reducible refine gate_callee (f := 23) rfl ?_); refine gl (some 58) rfl Try.func23 #[.agg #[.slice j5 b3.length d5, .slice g5 z2.length b5, .slice o6 q0.length a5]] ?_; (with_reducible refine (spec_IsCracker.calls va0 _ _ b3 _ _ z2 _ _ q0 false _ ?side1 ?side2 ?side3 ?side4 ?side5 ?side6 A85.out).mono ?_); (case side1 => exact cb a6 HB); (case side2 => exact m6.out); (case side3 => exact cb z5 HB); (case side4 => exact k6.out); (case side5 => exact cb z4 HB); (case side6 => exact j6.out); rintro e qc2 ⟨rfl, hb⟩; refine ⟨_, rfl, ?_⟩; replace g0 := ro g0 hb; replace d0 := ro d0 hb; replace b0 := ro b0 hb; replace k0 := wb k0 hb; replace m0 := wb m0 hb; replace o0 := wb o0 hb; replace j0 := wb j0 hb; replace HB := wh hb; (try clear hb); obtain ⟨da5, ba5, aa5, ja3, ga3, da3⟩ := bz3 k0) | ((with_reducible refine gate_callee (f := 28) rfl ?_); refine gl (some 66) rfl Try.func28 #[.agg #[.slice j5 b3.length d5, .slice g5 z2.length b5, .slice o6 q0.length a5]] ?_; (with_reducible refine (spec_l4Copy.calls _ _ b3 _ _ z2 _ _ q0 db3 bb3 ab3 _ ?side1 ?side2 ?side3 ?side4 ?side5 ?side6 kc2.out).mono ?_); (case side1 => exact cb a6 HB); (case side2 => exact m6.out); (case side3 => exact cb z5 HB); (case side4 => exact k6.out); (case side5 => exact cb z4 HB); (case side6 => exact j6.out); rintro e oc2 ⟨bc3, ac3, zc2, rfl, ho0, ho1, ho2, hb⟩; refine ⟨_, rfl, ?_⟩; have za1 := lo (nw (nw ho0 g0) d0); have ya1 := lo (nw (nw ho1 g0) d0); replace g0 := td2 g0 hb ho0 ho1; replace d0 := td2 d0 hb ho0 ho1; have va1 := lo (Kd.R_newB (Kd.R_new' ho2 (Kd.R_lt (up b0.out))) (g := o1) (o := .cells #[.int .i64 a1_0, .int .i64 a1_1] 50 (0, 0)) (ub m0.out)); replace b0 := el b0 ho2 hb; replace k0 := wb k0 hb; replace m0 := wb m0 hb; replace o0 := wb o0 hb; replace j0 := wb j0 hb; replace HB := wh hb; (try clear hb ho0 ho1 ho2); obtain ⟨sb2, qb1, ab1⟩ := Kd.R_slice za1.out; subst ab1; have ob4 := m3.out; have qb3 := o3.out; have mb4 := s1.out; have ob3 := q1.out; obtain ⟨za4, ya4, va4, ba3, aa3, za2⟩ := bz3 o0; obtain ⟨qb2, ob1, zb0⟩ := Kd.R_slice ya1.out; subst zb0; obtain ⟨ob2, mb1, yb0⟩ := Kd.R_slice va1.out; subst yb0))
       refine bodyPost_ret (results_ct rfl _ _ v4 29 #[.slice sb2 db3.length qb1, .slice qb2 bb3.length ob1, .slice ob2 ab3.length mb1] (0, 0) _ rfl bq Try.underlying29 rfl (by kernel_rfl)) rfl ?_
       exact ⟨_, _, _, rx, (by exact rm (rs1 za1 o0)), (by exact rm (rs1 ya1 o0)), (by exact rm (rs1 va1 o0)), bl⟩

end Go.Proofs.Ytlikcmonejefoab.PFnRipples
