-- printed by a program of this session, a turned copy of the print of the kit
import Derived.Test.YtlikcmonejefoabSr
import Derived.Test.YtlikcmonejefoabPFnRipplesx0
import Derived.Test.YtlikcmonejefoabPFnRipplesx2
import Derived.Test.YtlikcmonejefoabPFnRipplesx4
import Derived.Test.YtlikcmonejefoabPFnRipplesx13
namespace Go.Proofs.Ytlikcmonejefoab.PFnRipples
open Go.RowKit Go.Proofs.YtlikcmonejefoabW.PrintWords Go.Proofs.YtlikcmonejefoabW.PrintLast Go.Proofs.YtlikcmonejefoabW.PrintMore Go.Proofs.Ytlikcmonejefoab.Sq
attribute [local go_sem] max2_int min2_int max_two min_two max_three min_three max_four min_four Giv.cell_twice   -- for this text's walks alone
set_option linter.unusedVariables false
set_option linter.unusedSimpArgs false

/-! ### spec_NewCracker: function 69 -/
def spec_NewCracker.l0 : Nat → List Int → Int → List Int → List Int → Option (List Int × List Int × (List (S50)))
 | 0, _, _, _, _ => none
 | k + 1, x0, x4, s3, s2 => if x4 < (x0.length : Int) then (if s2.length < 17592186044416 then (spec_NewCracker.l0 k x0 (wrap64 (x4 + 1)) s3 (s2 ++ [x4])) else (none)) else (some (s3, s2, ([] : List (S50))))
def spec_NewCracker.f (k : Nat) (l0 : List Int) : Option (List Int × List Int × (List (S50))) := (spec_AreValues.f k l0).bind fun j8 => (if j8 = true then ((some (([] : List Int) : List Int)).bind fun m4 => (if m4.length + l0.length < 17592186044416 then (spec_NewCracker.l0 k l0 0 (m4 ++ l0) ([] : List Int)) else (none))) else (some (([] : List Int), ([] : List Int), ([] : List (S50)))))
theorem spec_NewCracker.mono_l : ∀ k, (∀ y0 y1 y2 y3, LeO (spec_NewCracker.l0 k y0 y1 y2 y3) (spec_NewCracker.l0 (k + 1) y0 y1 y2 y3))
 | 0 => fun _ _ _ _ r h => by simp [spec_NewCracker.l0] at h
 | k + 1 => by
  have ih0 := spec_NewCracker.mono_l k
  ·intro y0 y1 y2 y3
   unfold spec_NewCracker.l0
   exact mo
theorem spec_NewCracker.mono : ∀ a0 k, LeO (spec_NewCracker.f k a0) (spec_NewCracker.f (k + 1) a0) := by
 intro a0 k
 have ih0 := spec_NewCracker.mono_l k
 unfold spec_NewCracker.f
 exact mo
instance spec_NewCracker.mi (a0 k) : LeC (spec_NewCracker.f k a0) (spec_NewCracker.f (k + 1) a0) := ⟨spec_NewCracker.mono a0 k⟩
set_option maxHeartbeats 8000000 in
set_option maxRecDepth 100000 in
theorem spec_NewCracker.calls (k : Nat) (A0 : Option Addr) (c0 : Nat) (l0 : List Int) (r1 : List Int) (r2 : List Int) (r3 : List (S50)) (w : World) (hr0 : Kd.C (Kd.int .i64) w A0 l0.length l0) (hc0 : l0.length ≤ c0) (h : spec_NewCracker.f k l0 = some (r1, r2, r3)) :
  Calls Try.prog 69 #[.slice A0 l0.length c0] w fun e w' => ∃ v0_ v1_ v2_ : Value, e = .returned (.agg #[v0_, v1_, v2_]) ∧ Kd.R (Kd.int .i64) 3 w' w.heap.size (fun k_ => some k_ ≠ (v1_ : Value).ownBlock) v0_ r1 ∧ Kd.R (Kd.int .i64) 3 w' w.heap.size (fun k_ => some k_ ≠ (v0_ : Value).ownBlock) v1_ r2 ∧ Kd.R k50 50 w' w.heap.size (fun _ => True) v2_ r3 ∧ Below w.heap.size w w' := by
 have hu29 := Try.underlying29
 have HR0 := mk hr0
 have HC0 := mk hc0
 clear hr0 hc0
 have HB := mk (Below.refl w.heap.size w)
 have H : ((spec_AreValues.f k l0).bind fun j8 => (if j8 = true then ((some (([] : List Int) : List Int)).bind fun m4 => (if m4.length + l0.length < 17592186044416 then (spec_NewCracker.l0 k l0 0 (m4 ++ l0) ([] : List Int)) else (none))) else (some (([] : List Int), ([] : List Int), ([] : List (S50)))))) = some (r1, r2, r3) := h
 clear h
 revert H; refine bo ?_; rintro j8 A2 H
 by_cases c3 : j8 = true
 ·subst c3
  rw [if_pos rfl] at H
  obtain ⟨m4, hy_⟩ : ∃ y_ : List Int, y_ = (([] : List Int)) := ⟨_, rfl⟩
  replace H : (if m4.length + l0.length < 17592186044416 then (spec_NewCracker.l0 k l0 0 (m4 ++ l0) ([] : List Int)) else (none)) = some (r1, r2, r3) := hw
  have k9 := mk hy_
  clear hy_
  revert H; refine ca fun c4 H => ?_
  have LMc4 := mk c4
  clear c4
  obtain ⟨q3, hy_⟩ : ∃ y_ : List Int, y_ = (m4 ++ l0) := ⟨_, rfl⟩
  replace H : (spec_NewCracker.l0 k l0 0 q3 ([] : List Int)) = some (r1, r2, r3) := hw
  have za4 := mk hy_
  clear hy_
  have H' := mk H
  clear H
  go_enter Try.func69, Try.ntmps69
  go_wp2_with (first | ((with_reducible refine gate_dst (N := 2) rfl ?_); refine bx 2 #[.slice none 0 0, .slice none 0 0, .slice none 0 0] 29 ?_; intro g2 hg w5 hbox hb; have b0 := mk hbox; have ba5 := wg hg; have da5 := wg hg; replace HB := wh hb; clear hb hbox hg) | ((with_reducible refine gate_callee (f := 53) rfl ?_); refine gl (some 6) rfl Try.func53 #[.slice A0 l0.length c0] ?_; (with_reducible refine (spec_AreValues.calls k _ _ l0 true _ ?side1 ?side2 A2.out).mono ?_); (case side1 => exact cb HR0 HB); (case side2 => exact HC0.out); rintro e w' ⟨rfl, ⟨nd, rfl⟩⟩; refine ⟨_, rfl, ?_⟩; (try (rw [drewN_self w5]; generalize hq_ : World.drewN w5 _ = w5; have n0_ : Aside0 (w5.heap[g2]? = some (.cells #[.slice none 0 0, .slice none 0 0, .slice none 0 0] 29 (0, 0))) := ⟨by rw [← hq_]; exact (ub b0.out)⟩; have n1_ : Aside0 (Below w.heap.size w w5) := ⟨by rw [← hq_]; exact bl⟩; clear b0 HB hq_; have b0 := n0_; have HB := n1_; clear n0_ n1_))) | ((with_reducible refine gate_dst (N := 9) rfl ?_); refine Kd.R_lit (Kd.int .i64) _ 3 ?hg (N := 9) ?hd (xs := ([] : List Int)) (inner := []) (ok := fun _ => True) (okp := fun _ => True) ?hr ?hp (fun _ hk => hk) trivial (Below.refl _ _) (Nat.le_refl _) (by simp) ?_; (case hd => rfl); (case hg => rfl); (case hr => first | (go_simp; done) | (go_simp; rfl)); (case hp => exact (Reps.none _ _)); intro oa6 w6 ho7 hb hg_ hnew_; clear hg_ hnew_; (first | rw [← k9.out] at ho7 | (simp only [Int.reduceToNat] at ho7; rw [← k9.out] at ho7)); have q7 := lo ho7; replace b0 := wb b0 hb; replace HB := wh hb; clear hb ho7) | ((with_reducible refine gate_builtin (b := .append) (xs := #[.tmp 9, .tmp 10]) rfl ?_); at_builtin; refine Kd.R_append_rows (Kd.int .i64) (w0 := w) w.heap.size rfl (.tmp 9) (.tmp 10) 22 3 (.int .i64 0) 8 rfl Try.underlying22 info3 rfl (by decide) (by omega) oa6 m4 l0 _ _ _ (fun _ => True) (fun _ => False) rfl rfl ?aO ?aR (fun _ _ h => h) (fun _ h => h.elim) ?aF ?aB ?aS ?aL ?_; (case aR => exact uc (Kd.C_below HR0.out HB.out)); (case aB => exact bl); (case aF => exact (fun _ _ => trivial)); (case aO => exact (up q7.out)); (case aS => exact (below_size bl)); (case aL => have := LMc4.out; omega); intro oa8 w8 ho hb hg hat; rw [← za4.out] at ho; replace b0 := mk (blk_grown (g := g2) (o := .cells #[.slice none 0 0, .slice none 0 0, .slice none 0 0] 29 (0, 0)) (ub b0.out) hg (Kd.R_ne q7.out b0.out (by decide))); replace HB := mk hb; have a5 := mk ho; clear q7; clear ho hb hg hat; obtain ⟨Ao9, co9, eo9⟩ := Kd.R_slice a5.out; subst eo9) | ((with_reducible refine gate_dst (N := 3) rfl ?_); refine bx 3 #[.slice none 0 0, .slice none 0 0, .slice none 0 0] 29 ?_; intro g4 hg w10 hbox hb; replace a5 := ro a5 hb; have z1 := mk hbox; have aa8 := wg hg; replace HB := wh hb; have v1 := nl b0 hg; have s1 := nr b0 hg; replace b0 := wb b0 hb; clear hb hbox hg; have da7 := s1.out; have za6 := v1.out; obtain ⟨k7, j7, g7, z6, y6, s6⟩ := bz3 z1))
  go_loopg [4] k (fun kq v4 w' => ∃ (o4 : Int) (j0 : List Int) (g1 : Value), v4 = .int .i64 o4 ∧ Aside0 (spec_NewCracker.l0 kq l0 o4 q3 j0 = some (r1, r2, r3)) ∧ Aside0 (kq ≤ k) ∧ Aside0 (Kd.R (Kd.int .i64) 3 w' w.heap.size (fun k_ => some k_ ≠ (g1 : Value).ownBlock) (.slice Ao9 q3.length co9) q3) ∧ Aside0 (Kd.R (Kd.int .i64) 3 w' w.heap.size (fun k_ => some k_ ≠ ((.slice Ao9 q3.length co9) : Value).ownBlock) g1 j0) ∧ Aside0 (w'.heap[g2]? = some (.cells #[(.slice none 0 0), (.slice none 0 0), (.slice none 0 0)] 29 (0, 0))) ∧ Aside0 (w'.heap[g4]? = some (.cells #[(.slice Ao9 q3.length co9), g1, (.slice none 0 0)] 29 (0, 0))) ∧ Aside0 (Below w.heap.size w w'))
  case atStart => exact ⟨(0), (([] : List Int)), (.slice none 0 0), (by first | rfl | (simp; done) | (simp [*]; done)), H', ⟨Nat.le_refl _⟩, ⟨by exact up (Kd.R_mono (Kd.R_far (p := ⟨g4, 2, none⟩) (Kd.R_far (p := ⟨g4, 1, none⟩) (Kd.R_far (p := ⟨g4, 0, none⟩) (Kd.R_types a5.out z1.out (by decide)) (fun _ hk => hk.2) (.slice Ao9 q3.length co9)) (fun _ hk => hk.2) (.slice none 0 0)) (fun _ hk => hk.2) (.slice none 0 0)) (fun _ hk => (by simp [Value.ownBlock])))⟩, ⟨by first | exact Kd.R_nil _ _ _ _ _ | exact Kd.N_nil _ _ _ _ _ | exact Kd.V_nil _ _ _ _ _ | exact Kd.Q_nil _ _ _ _ _ | exact Kd.S_nil _ _ _ _ _⟩, ⟨bq⟩, ⟨bq⟩, ⟨bl⟩⟩
  case round =>
   clear H'
   try clear c1
   try clear p2
   try clear c3
   try clear c4
   try clear c5
   try clear c6
   try clear c11
   try clear k7
   try clear j7
   try clear g7
   try clear z6
   try clear y6
   try clear s6
   obtain ⟨o4, j0, g1, rfl, HA, HK1, o0, m0, b0, z1, HB⟩ := hrel
   cases gk with
   | zero => exact absurd HA.out (by simp [spec_NewCracker.l0])
   | succ k1 =>
    have H := HA.out
    clear HA
    simp only [spec_NewCracker.l0] at H
    revert H; refine ci (fun c13 H => ?_) fun c13 H => ?_
    ·have ja4 : decide (o4 < (l0.length : Int)) = true := decide_eq_true c13
     clear c13
     revert H; refine ca fun c14 H => ?_
     have LMc14 := mk c14
     clear c14
     obtain ⟨oa0, hy_⟩ : ∃ y_ : List Int, y_ = (j0 ++ [o4]) := ⟨_, rfl⟩
     replace H : (spec_NewCracker.l0 k1 l0 (wrap64 (o4 + 1)) q3 oa0) = some (r1, r2, r3) := hw
     have ya4 := mk hy_
     clear hy_
     have H' := mk H
     clear H
     have ba7 := s1.out
     have ya6 := v1.out
     obtain ⟨d7, b7, a7, q6, o6, m6⟩ := bz3 z1
     go_wp2_with (first | ((with_reducible refine gate_builtin (b := .append) (xs := #[.tmp 20, .tmp 22]) rfl ?_); at_builtin; refine Kd.R_append (Kd.int .i64) (w0 := w) w.heap.size rfl (.tmp 20) (.tmp 22) 22 3 (.int .i64 0) 8 rfl Try.underlying22 info3 rfl (by decide) (by omega) g1 j0 o4 [.int .i64 o4] (fun k_ => some k_ ≠ (.slice Ao9 q3.length co9 : Value).ownBlock) (fun _ => False) rfl rfl ?aP (fun _ hk => hk.elim) ?aF ?aO ?aB ?aS ?aL ?_; (case aP => exact rfl); (case aB => exact bl); (case aF => exact (fun k_ hk => Kd.fresh' (Kd.R_lt (up o0.out)) k_ hk)); (case aO => exact (up m0.out)); (case aS => exact (below_size bl)); (case aL => have := LMc14.out; omega); intro ma8 w17 ho hb hg hat; rw [← ya4.out] at ho; replace o0 := mk (Kd.R_after (ok := (fun _ => True)) (by exact up (Kd.R_mono o0.out (fun _ hk => ⟨trivial, hk⟩))) hg hat); replace b0 := mk (blk_grown (g := g2) (o := .cells #[.slice none 0 0, .slice none 0 0, .slice none 0 0] 29 (0, 0)) (ub b0.out) hg (Kd.R_ne m0.out b0.out (by decide))); replace z1 := mk (blk_grown (g := g4) (o := .cells #[.slice Ao9 q3.length co9, g1, .slice none 0 0] 29 (0, 0)) (ub z1.out) hg (Kd.R_ne m0.out z1.out (by decide))); replace HB := mk hb; have m9 := mk ho; clear m0; clear ho hb hg hat; obtain ⟨da8, sa7, ja7⟩ := Kd.R_slice m9.out; subst ja7; obtain ⟨ma3, ka3, ja3, ba2, aa2, za1⟩ := bz3 z1))
     go_roundg k1
     case measure => have := HK1.out; omega
     case rel => exact ⟨(wrap64 (o4 + 1)), (oa0), (.slice da8 oa0.length sa7), (by first | rfl | (simp; done) | (simp [*]; done)), H', ⟨by have := HK1.out; omega⟩, ⟨(by exact rm (rs1 o0 z1))⟩, ⟨(by exact rm (rs1 m9 z1))⟩, ⟨bq⟩, ⟨bq⟩, ⟨bl⟩⟩
    ·have ja4 : decide (o4 < (l0.length : Int)) = false := decide_eq_false c13
     clear c13
     simp only [Option.some.injEq, Prod.mk.injEq] at H
     obtain ⟨rfl, rfl, rfl⟩ := H
     have aa7 := s1.out
     have va6 := v1.out
     obtain ⟨ga3, da3, ba3, ya1, va1, sa1⟩ := bz3 z1
     obtain ⟨aa3, za2, ya2, qa1, oa1, ma1⟩ := bz3 b0
     obtain ⟨ba8, qa7, ga7⟩ := Kd.R_slice m0.out
     subst ga7
     go_wp2
     refine bodyPost_ret (results_cell_row rfl _ _ g2 29 #[.slice Ao9 q3.length co9, .slice ba8 j0.length qa7, .slice none 0 0] (0, 0) _ rfl bq Try.underlying29 rfl (by kernel_rfl)) rfl ?_
     exact ⟨_, _, _, rx, (by exact rm (rs1 o0 b0)), (by exact rm (rs1 m0 b0)), by first | exact Kd.R_nil _ _ _ _ _ | exact Kd.N_nil _ _ _ _ _ | exact Kd.V_nil _ _ _ _ _ | exact Kd.Q_nil _ _ _ _ _ | exact Kd.S_nil _ _ _ _ _, bl⟩
 ·replace c3 := Bool.eq_false_iff.mpr c3
  subst c3
  rw [if_neg nf] at H
  simp only [Option.some.injEq, Prod.mk.injEq] at H
  obtain ⟨rfl, rfl, rfl⟩ := H
  go_enter Try.func69, Try.ntmps69
  go_wp2_with (first | ((with_reducible refine gate_dst (N := 2) rfl ?_); refine bx 2 #[.slice none 0 0, .slice none 0 0, .slice none 0 0] 29 ?_; intro g2 hg w24 hbox hb; have b0 := mk hbox; have ba5 := wg hg; have da5 := wg hg; replace HB := wh hb; clear hb hbox hg) | ((with_reducible refine gate_callee (f := 53) rfl ?_); refine gl (some 6) rfl Try.func53 #[.slice A0 l0.length c0] ?_; (with_reducible refine (spec_AreValues.calls k _ _ l0 false _ ?side1 ?side2 A2.out).mono ?_); (case side1 => exact cb HR0 HB); (case side2 => exact HC0.out); rintro e w' ⟨rfl, ⟨nd, rfl⟩⟩; refine ⟨_, rfl, ?_⟩; (try (rw [drewN_self w24]; generalize hq_ : World.drewN w24 _ = w24; have n0_ : Aside0 (w24.heap[g2]? = some (.cells #[.slice none 0 0, .slice none 0 0, .slice none 0 0] 29 (0, 0))) := ⟨by rw [← hq_]; exact (ub b0.out)⟩; have n1_ : Aside0 (Below w.heap.size w w24) := ⟨by rw [← hq_]; exact bl⟩; clear b0 HB hq_; have b0 := n0_; have HB := n1_; clear n0_ n1_)); obtain ⟨va2, sa2, qa2, ka1, ja1, ga1⟩ := bz3 b0))
  refine bodyPost_ret (results_cell_row rfl _ _ g2 29 #[.slice none 0 0, .slice none 0 0, .slice none 0 0] (0, 0) _ rfl bq Try.underlying29 rfl (by kernel_rfl)) rfl ?_
  exact ⟨_, _, _, rx, by first | exact Kd.R_nil _ _ _ _ _ | exact Kd.N_nil _ _ _ _ _ | exact Kd.V_nil _ _ _ _ _ | exact Kd.Q_nil _ _ _ _ _ | exact Kd.S_nil _ _ _ _ _, by first | exact Kd.R_nil _ _ _ _ _ | exact Kd.N_nil _ _ _ _ _ | exact Kd.V_nil _ _ _ _ _ | exact Kd.Q_nil _ _ _ _ _ | exact Kd.S_nil _ _ _ _ _, by first | exact Kd.R_nil _ _ _ _ _ | exact Kd.N_nil _ _ _ _ _ | exact Kd.V_nil _ _ _ _ _ | exact Kd.Q_nil _ _ _ _ _ | exact Kd.S_nil _ _ _ _ _, bl⟩

/-! ### spec_l2Values: function 70 -/
def spec_l2Values.l0 : Nat → List Int → Int → Int → List Int → Int → Int → Option (List Int × Int × Int)
 | 0, _, _, _, _, _, _ => none
 | k + 1, x5, x6, x7, b8, a8, z7 => if x7 > 0 then ((spec_l1Below.f b8 a8 z7 x6).bind fun m7 => (if x5.length < 17592186044416 then (spec_l2Values.l0 k (x5 ++ [wrap64 (m7.1 - (wrap64 (Int.tdiv x6 3)))]) x6 (wrap64 (x7 - 1)) b8 m7.2.1 m7.2.2) else (none))) else (some (x5, a8, z7))
def spec_l2Values.f (k : Nat) (s0_0 : List Int) (s0_1 : Int) (s0_2 : Int) (a1 : Int) : Option (List Int × Int × Int) := (spec_l1PickInt.f s0_0 s0_1 s0_2 (([3, 10, 30, 1000] : List Int))).bind fun b1 => ((spec_l1Below.f s0_0 b1.2.1 b1.2.2 (wrap64 (a1 + 1))).bind fun z0 => (spec_l2Values.l0 k (([] : List Int)) b1.1 z0.1 s0_0 z0.2.1 z0.2.2))
theorem spec_l2Values.mono_l : ∀ k, (∀ y0 y1 y2 y3 y4 y5, LeO (spec_l2Values.l0 k y0 y1 y2 y3 y4 y5) (spec_l2Values.l0 (k + 1) y0 y1 y2 y3 y4 y5))
 | 0 => fun _ _ _ _ _ _ r h => by simp [spec_l2Values.l0] at h
 | k + 1 => by
  have ih0 := spec_l2Values.mono_l k
  ·intro y0 y1 y2 y3 y4 y5
   unfold spec_l2Values.l0
   exact mo
theorem spec_l2Values.mono : ∀ a0 a1 a2 a3 k, LeO (spec_l2Values.f k a0 a1 a2 a3) (spec_l2Values.f (k + 1) a0 a1 a2 a3) := by
 intro a0 a1 a2 a3 k
 have ih0 := spec_l2Values.mono_l k
 unfold spec_l2Values.f
 exact mo
instance spec_l2Values.mi (a0 a1 a2 a3 k) : LeC (spec_l2Values.f k a0 a1 a2 a3) (spec_l2Values.f (k + 1) a0 a1 a2 a3) := ⟨spec_l2Values.mono a0 a1 a2 a3 k⟩
set_option maxHeartbeats 8000000 in
set_option maxRecDepth 100000 in
theorem spec_l2Values.calls (k : Nat) (g : Nat) (s0_0 : List Int) (s0_1 : Int) (s0_2 : Int) (a1 : Int) (r1 : List Int) (r2 : Int) (r3 : Int) (w0 w : World) (hI : IsS80 w0 w g s0_0 s0_1 s0_2) (hB : Below w0.heap.size w0 w) (h : spec_l2Values.f k s0_0 s0_1 s0_2 a1 = some (r1, r2, r3)) :
  Calls Try.prog 70 #[.pointer (some ⟨g, 0, none⟩), .int .i64 a1] w fun e w' => ∃ v0_ : Value, e = .returned (v0_) ∧ Kd.R (Kd.int .i64) 3 w' w.heap.size (fun _ => True) v0_ r1 ∧ IsS80 w0 w' g s0_0 r2 r3 ∧ Below w0.heap.size w0 w' ∧ KeepBut w w' g none := by
 have HI0 := mk hI
 have HK := mk (KeepBut.refl w g none)
 have HL := mk hB.size
 clear hI
 have HW0 := mk hB.size
 have HB := mk hB
 clear hB
 have H : ((spec_l1PickInt.f s0_0 s0_1 s0_2 (([3, 10, 30, 1000] : List Int))).bind fun b1 => ((spec_l1Below.f s0_0 b1.2.1 b1.2.2 (wrap64 (a1 + 1))).bind fun z0 => (spec_l2Values.l0 k (([] : List Int)) b1.1 z0.1 s0_0 z0.2.1 z0.2.2))) = some (r1, r2, r3) := h
 clear h
 obtain ⟨ma0, hy_⟩ : ∃ y_ : List Int, y_ = (([] : List Int)) := ⟨_, rfl⟩
 replace H : ((spec_l1PickInt.f s0_0 s0_1 s0_2 (([3, 10, 30, 1000] : List Int))).bind fun b1 => ((spec_l1Below.f s0_0 b1.2.1 b1.2.2 (wrap64 (a1 + 1))).bind fun z0 => (spec_l2Values.l0 k ma0 b1.1 z0.1 s0_0 z0.2.1 z0.2.2))) = some (r1, r2, r3) := hw
 have j9 := mk hy_
 clear hy_
 obtain ⟨ka0, hy_⟩ : ∃ y_ : List Int, y_ = (([3, 10, 30, 1000] : List Int)) := ⟨_, rfl⟩
 replace H : ((spec_l1PickInt.f s0_0 s0_1 s0_2 ka0).bind fun b1 => ((spec_l1Below.f s0_0 b1.2.1 b1.2.2 (wrap64 (a1 + 1))).bind fun z0 => (spec_l2Values.l0 k ma0 b1.1 z0.1 s0_0 z0.2.1 z0.2.2))) = some (r1, r2, r3) := hw
 have g9 := mk hy_
 clear hy_
 revert H; refine bo ?_; rintro ⟨g5, aa0, z9⟩ A3 H
 dsimp only at H
 revert H; refine bo ?_; rintro ⟨ma5, ka5, ja5⟩ A4 H
 dsimp only at H
 have H' := mk H
 clear H
 go_enter Try.func70, Try.ntmps70
 go_wp2_with (first | ((with_reducible refine gate_dst (N := 9) rfl ?_); refine Kd.R_lit (Kd.int .i64) _ 3 ?hg (N := 9) ?hd (xs := ([] : List Int)) (inner := []) (ok := fun _ => True) (okp := fun _ => True) ?hr ?hp (fun _ hk => hk) trivial (Below.refl _ _) (Nat.le_refl _) (by simp) ?_; (case hd => rfl); (case hg => rfl); (case hr => first | (go_simp; done) | (go_simp; rfl)); (case hp => exact (Reps.none _ _)); intro ka8 w5 ho6 hb hg_ hnew_; clear hg_ hnew_; (first | rw [← j9.out] at ho6 | (simp only [Int.reduceToNat] at ho6; rw [← j9.out] at ho6)); have q2 := mk (Kd.R_lower ho6 (keep_size (w := w) (g := g) (row := none) ke)); replace HK := kb HK ke hb; replace HB := bstp HB hb; replace HI0 := mk (IsS80.below is0 hb); clear hb ho6) | ((with_reducible refine gate_dst (N := 11) rfl ?_); refine Kd.R_lit (Kd.int .i64) _ 3 ?hg (N := 11) ?hd (xs := ([3, 10, 30, 1000] : List Int)) (inner := [.int .i64 3, .int .i64 10, .int .i64 30, .int .i64 1000]) (ok := fun _ => True) (okp := fun _ => True) ?hr ?hp (fun _ hk => hk) trivial (Below.refl _ _) (Nat.le_refl _) (by simp) ?_; (case hd => rfl); (case hg => rfl); (case hr => first | (go_simp; done) | (go_simp; rfl)); (case hp => exact (Reps.one (show Kd.M (Kd.int .i64) _ _ _ 3 [.int .i64 3] from rfl) (Reps.one (show Kd.M (Kd.int .i64) _ _ _ 10 [.int .i64 10] from rfl) (Reps.one (show Kd.M (Kd.int .i64) _ _ _ 30 [.int .i64 30] from rfl) (Reps.one (show Kd.M (Kd.int .i64) _ _ _ 1000 [.int .i64 1000] from rfl) (Reps.none _ _)))))); intro ja8 w7 ho8 hb hg_ hnew_; clear hg_ hnew_; (first | rw [← g9.out] at ho8 | (simp only [Int.reduceToNat] at ho8; rw [← g9.out] at ho8)); have o2 := mk (Kd.R_lower (Kd.R_new' ho8 (Kd.R_lt (up q2.out))) (keep_size (w := w) (g := g) (row := none) ke)); replace q2 := el q2 ho8 hb; replace HK := kb HK ke hb; replace HB := bstp HB hb; replace HI0 := mk (IsS80.below is0 hb); clear hb ho8; obtain ⟨Ao9, co9, eo9⟩ := Kd.R_slice o2.out; subst eo9) | ((with_reducible refine gate_callee (f := 63) rfl ?_); refine gl (some 12) rfl Try.func63 #[.pointer (some ⟨g, 0, none⟩), .slice Ao9 ka0.length co9] ?_; (with_reducible refine (spec_l1PickInt.calls g s0_0 s0_1 s0_2 _ _ ka0 g5 aa0 z9 w0 _ ?side1 ?side2 ?side3 ?side4 ?side5 A3.out).mono ?_); (case side1 => exact is0); (case side2 => exact bm); (case side3 => exact ra o2); (case side4 => exact rb o2); (case side5 => exact far_slice (IsS80.own_ne HI0.out o2.out (by decide))); rintro e w10 ⟨rfl, hi, hb, hk⟩; refine ⟨_, rfl, ?_⟩; replace q2 := kp (IsS80.apart (show IsS80 w0 _ g s0_0 s0_1 s0_2 from is0) (up q2.out) (by decide)) hk; replace o2 := kp (IsS80.apart (show IsS80 w0 _ g s0_0 s0_1 s0_2 from is0) (up o2.out) (by decide)) hk; replace HK := kt HK ke hk; replace HB := mk hb; replace HI0 := mk hi; (try clear hb hk hi)) | ((with_reducible refine gate_callee (f := 52) rfl ?_); refine gl (some 16) rfl Try.func52 #[.pointer (some ⟨g, 0, none⟩), .int .i64 (wrap64 (a1 + 1))] ?_; (with_reducible refine (spec_l1Below.calls g s0_0 aa0 z9 (wrap64 (a1 + 1)) ma5 ka5 ja5 w0 _ ?side1 ?side2 A4.out).mono ?_); (case side1 => exact is0); (case side2 => exact bm); rintro e w11 ⟨rfl, hi, hb, hk⟩; refine ⟨_, rfl, ?_⟩; replace q2 := kp (IsS80.apart (show IsS80 w0 _ g s0_0 aa0 z9 from is0) (up q2.out) (by decide)) hk; replace o2 := kp (IsS80.apart (show IsS80 w0 _ g s0_0 aa0 z9 from is0) (up o2.out) (by decide)) hk; replace HK := kt HK ke hk; replace HB := mk hb; replace HI0 := mk hi; (try clear hb hk hi)))
 go_loopg [5, 7] k (fun kq v5 v7 w' => ∃ (y7 : List Int) (m5 : Int) (q1 : Int) (o1 : Int), v7 = .int .i64 m5 ∧ Aside0 (spec_l2Values.l0 kq y7 g5 m5 s0_0 q1 o1 = some (r1, r2, r3)) ∧ Aside0 (kq ≤ k) ∧ Aside0 (Kd.R (Kd.int .i64) 3 w' w.heap.size (fun _ => True) v5 y7) ∧ Aside0 (IsS80 w0 w' g s0_0 q1 o1) ∧ Aside0 (KeepBut w w' g none) ∧ Aside0 (Below w0.heap.size w0 w'))
 case atStart => exact ⟨(ma0), (ma5), (ka5), (ja5), (by first | rfl | (simp; done) | (simp [*]; done)), H', ⟨Nat.le_refl _⟩, ⟨by exact up (Kd.R_mono q2.out (fun _ hk => trivial))⟩, ⟨is0⟩, ⟨ke⟩, ⟨bm⟩⟩
 case round =>
  clear H'
  try clear p2
  try clear c5
  try clear c6
  try clear p6
  try clear c7
  obtain ⟨y7, m5, q1, o1, rfl, HA, HK1, o7, HI0, HK, HB⟩ := hrel
  cases gk with
  | zero => exact absurd HA.out (by simp [spec_l2Values.l0])
  | succ k1 =>
   have H := HA.out
   clear HA
   simp only [spec_l2Values.l0] at H
   revert H; refine ci (fun c12 H => ?_) fun c12 H => ?_
   ·have ka4 : decide (0 < m5) = true := decide_eq_true c12
    clear c12
    revert H; refine bo ?_; rintro ⟨y9, sa0, qa0⟩ A13 H
    dsimp only at H
    revert H; refine ca fun c14 H => ?_
    have LMc14 := mk c14
    clear c14
    obtain ⟨ga5, hy_⟩ : ∃ y_ : List Int, y_ = (y7 ++ [wrap64 (y9 - (wrap64 (Int.tdiv g5 3)))]) := ⟨_, rfl⟩
    replace H : (spec_l2Values.l0 k1 ga5 g5 (wrap64 (m5 - 1)) s0_0 sa0 qa0) = some (r1, r2, r3) := hw
    have va4 := mk hy_
    clear hy_
    have H' := mk H
    clear H
    go_wp2_with (first | ((with_reducible refine gate_callee (f := 52) rfl ?_); refine gl (some 23) rfl Try.func52 #[.pointer (some ⟨g, 0, none⟩), .int .i64 g5] ?_; (with_reducible refine (spec_l1Below.calls g s0_0 q1 o1 g5 y9 sa0 qa0 w0 _ ?side1 ?side2 A13.out).mono ?_); (case side1 => exact is0); (case side2 => exact bm); rintro e w15 ⟨rfl, hi, hb, hk⟩; refine ⟨_, rfl, ?_⟩; replace o7 := kp (IsS80.apart (show IsS80 w0 _ g s0_0 q1 o1 from is0) (up o7.out) (by decide)) hk; replace HK := kt HK ke hk; replace HB := mk hb; replace HI0 := mk hi; (try clear hb hk hi)) | ((with_reducible refine gate_builtin (b := .append) (xs := #[.tmp 27, .tmp 29]) rfl ?_); at_builtin; refine Kd.R_append (Kd.int .i64) w.heap.size rfl (.tmp 27) (.tmp 29) 22 3 (.int .i64 0) 8 rfl Try.underlying22 info3 rfl (by decide) (by omega) u5 y7 (wrap64 (y9 - (wrap64 (Int.tdiv g5 3)))) [.int .i64 (wrap64 (y9 - (wrap64 (Int.tdiv g5 3))))] (fun _ => True) (fun _ => False) rfl rfl ?aP (fun _ hk => hk.elim) ?aF ?aO (Below.refl _ _) ?aS ?aL ?_; (case aP => exact rfl); (case aF => exact (fun _ _ => trivial)); (case aO => exact (up o7.out)); (case aS => exact (keep_size (w := w) (g := g) (row := none) ke)); (case aL => have := LMc14.out; omega); intro ga8 w16 ho hb hg hat; rw [← va4.out] at ho; replace HB := mk (below_weaken bm HL.out hb); replace HI0 := mk (IsS80.grown is0 hg (IsS80.own_ne HI0.out o7.out (by decide))); replace HK := mk (kq HK ke (KeepBut.of_grown hg g) (Kd.R_base2 o7.out)); have aa5 := mk ho; clear o7; clear ho hb hg hat))
    go_roundg k1
    case measure => have := HK1.out; omega
    case rel => exact ⟨(ga5), (wrap64 (m5 - 1)), (sa0), (qa0), (by first | rfl | (simp; done) | (simp [*]; done)), H', ⟨by have := HK1.out; omega⟩, ⟨up aa5.out⟩, ⟨is0⟩, ⟨ke⟩, ⟨bm⟩⟩
   ·have ka4 : decide (0 < m5) = false := decide_eq_false c12
    clear c12
    simp only [Option.some.injEq, Prod.mk.injEq] at H
    obtain ⟨rfl, rfl, rfl⟩ := H
    go_wp2
    go_ret
    exact ⟨_, rx, up o7.out, is0, bm, ke⟩

/-! ### spec_FindPivot: function 74 -/
def spec_FindPivot.l0 : Nat → Int → Int → List Int → List Int → List (S50) → Option (Int × Bool)
 | 0, _, _, _, _, _ => none
 | k + 1, x1, x6, q5, o5, d2 => if x6 < (d2.length : Int) then (if 0 ≤ x6 then (if ((rd_T50 d2 x6).f0) = x1 then (some ((rd_T50 d2 x6).f1, true)) else (spec_FindPivot.l0 k x1 (wrap64 (x6 + 1)) q5 o5 d2)) else (none)) else (some (0, false))
def spec_FindPivot.f (k : Nat) (q0 : List Int) (d1 : List Int) (g0 : List (S50)) (a1 : Int) : Option (Int × Bool) := spec_FindPivot.l0 k a1 0 q0 d1 g0
theorem spec_FindPivot.mono_l : ∀ k, (∀ y0 y1 y2 y3 y4, LeO (spec_FindPivot.l0 k y0 y1 y2 y3 y4) (spec_FindPivot.l0 (k + 1) y0 y1 y2 y3 y4))
 | 0 => fun _ _ _ _ _ r h => by simp [spec_FindPivot.l0] at h
 | k + 1 => by
  have ih0 := spec_FindPivot.mono_l k
  ·intro y0 y1 y2 y3 y4
   unfold spec_FindPivot.l0
   exact mo
theorem spec_FindPivot.mono : ∀ a0 a1 a2 a3 k, LeO (spec_FindPivot.f k a0 a1 a2 a3) (spec_FindPivot.f (k + 1) a0 a1 a2 a3) := by
 intro a0 a1 a2 a3 k
 have ih0 := spec_FindPivot.mono_l k
 unfold spec_FindPivot.f
 exact mo
instance spec_FindPivot.mi (a0 a1 a2 a3 k) : LeC (spec_FindPivot.f k a0 a1 a2 a3) (spec_FindPivot.f (k + 1) a0 a1 a2 a3) := ⟨spec_FindPivot.mono a0 a1 a2 a3 k⟩
set_option maxHeartbeats 8000000 in
set_option maxRecDepth 100000 in
theorem spec_FindPivot.calls (k : Nat) (o3 : Option Addr) (j3 : Nat) (q0 : List Int) (m3 : Option Addr) (g3 : Nat) (d1 : List Int) (d3 : Option Addr) (b3 : Nat) (g0 : List (S50)) (a1 : Int) (r1 : Int) (r2 : Bool) (w : World) (d4 : Kd.C (Kd.int .i64) w o3 q0.length q0) (hc0_0 : q0.length ≤ j3) (b4 : Kd.C (Kd.int .i64) w m3 d1.length d1) (hc0_1 : d1.length ≤ g3) (a4 : Kd.C k50 w d3 g0.length g0) (hc0_2 : g0.length ≤ b3) (h : spec_FindPivot.f k q0 d1 g0 a1 = some (r1, r2)) :
  Calls Try.prog 74 #[.agg #[.slice o3 q0.length j3, .slice m3 d1.length g3, .slice d3 g0.length b3], .int .i64 a1] w fun e w' => e = .returned (.tuple #[.int .i64 r1, .bool r2]) ∧ Below w.heap.size w w' := by
 have hu29 := Try.underlying29
 have z4 := mk d4
 have d5 := mk hc0_0
 clear d4 hc0_0
 have s4 := mk b4
 have b5 := mk hc0_1
 clear b4 hc0_1
 have j2 := mk a4
 have k4 := mk hc0_2
 clear a4 hc0_2
 have HB := mk (Below.refl w.heap.size w)
 have H : (spec_FindPivot.l0 k a1 0 q0 d1 g0) = some (r1, r2) := h
 clear h
 have H' := mk H
 clear H
 go_enter Try.func74, Try.ntmps74
 go_wp2_with (first | ((with_reducible refine gate_dst (N := 2) rfl ?_); refine bx 2 #[.slice o3 q0.length j3, .slice m3 d1.length g3, .slice d3 g0.length b3] 29 ?_; intro aa4 hg w3 hbox hb; have k3 := mk hbox; have za7 := wg hg; replace HB := wh hb; clear hb hbox hg))
 go_loopg [6] k (fun kq v6 w' => ∃ (b2 : Int), v6 = .int .i64 b2 ∧ Aside0 (spec_FindPivot.l0 kq a1 b2 q0 d1 g0 = some (r1, r2)) ∧ Aside0 (kq ≤ k) ∧ Aside0 (w'.heap[aa4]? = some (.cells #[(.slice o3 q0.length j3), (.slice m3 d1.length g3), (.slice d3 g0.length b3)] 29 (0, 0))) ∧ Aside0 (Below w.heap.size w w'))
 case atStart => exact ⟨(0), (by first | rfl | (simp; done) | (simp [*]; done)), H', ⟨Nat.le_refl _⟩, ⟨ub k3.out⟩, ⟨bl⟩⟩
 case round =>
  clear H'
  try clear p2
  obtain ⟨b2, rfl, HA, HK1, k3, HB⟩ := hrel
  cases gk with
  | zero => exact absurd HA.out (by simp [spec_FindPivot.l0])
  | succ k1 =>
   have H := HA.out
   clear HA
   simp only [spec_FindPivot.l0] at H
   revert H; refine ci (fun c4 H => ?_) fun c4 H => ?_
   ·have ja0 : decide (b2 < (g0.length : Int)) = true := decide_eq_true c4
    clear c4
    revert H; refine ca fun c5 H => ?_
    have ma6 : decide (0 ≤ b2) = true := decide_eq_true c5
    clear c5
    revert H; refine ci (fun c6 H => ?_) fun c6 H => ?_
    ·have ga0 : (((rd_T50 g0 b2).f0) == a1) = true := beq_iff_eq.mpr c6
     have ya7 : (((rd_T50 g0 b2).f0) != a1) = false := bne_eq_false_iff_eq.mpr c6
     clear c6
     simp only [Option.some.injEq, Prod.mk.injEq] at H
     obtain ⟨rfl, rfl⟩ := H
     obtain ⟨ka6, ja6, ga6, za5, ya5, va5⟩ := bz3 k3
     have b6 : 0 ≤ (b2 : Int) := dt
     have z5 : b2 < (g0.length : Int) := dt
     obtain ⟨d9, ga4, v0, s0⟩ := at_T50 j2.out b2 b6 z5
     cases ga4
     replace v0 := (HB.out.cell (World.block_lt_of_cell? w _ v0)).trans v0
     replace s0 := (HB.out.cell (World.block_lt_of_cell? w _ s0)).trans s0
     replace b6 := eq_true b6
     replace z5 := eq_true z5
     have aa1 : 0 ≤ (b2 : Int) := dt
     have ya0 : b2 < (g0.length : Int) := dt
     obtain ⟨sa4, oa7, z2, v2⟩ := at_T50 j2.out b2 aa1 ya0
     obtain rfl : d9 = sa4 := (by injection oa7)
     replace z2 := (HB.out.cell (World.block_lt_of_cell? w _ z2)).trans z2
     replace v2 := (HB.out.cell (World.block_lt_of_cell? w _ v2)).trans v2
     replace aa1 := eq_true aa1
     replace ya0 := eq_true ya0
     go_wp2
     go_ret2
     exact ⟨rx, bl⟩
    ·have ga0 : (((rd_T50 g0 b2).f0) == a1) = false := beq_eq_false_iff_ne.mpr c6
     have ya7 : (((rd_T50 g0 b2).f0) != a1) = true := bne_iff_ne.mpr c6
     have H' := mk H
     clear H
     obtain ⟨da6, ba6, aa6, sa5, qa5, oa5⟩ := bz3 k3
     have b6 : 0 ≤ (b2 : Int) := dt
     have z5 : b2 < (g0.length : Int) := dt
     obtain ⟨d9, ga4, v0, s0⟩ := at_T50 j2.out b2 b6 z5
     cases ga4
     replace v0 := (HB.out.cell (World.block_lt_of_cell? w _ v0)).trans v0
     replace s0 := (HB.out.cell (World.block_lt_of_cell? w _ s0)).trans s0
     replace b6 := eq_true b6
     replace z5 := eq_true z5
     go_wp2
     go_roundg k1
     case measure => have := HK1.out; omega
     case rel => exact ⟨(wrap64 (b2 + 1)), (by first | rfl | (simp; done) | (simp [*]; done)), H', ⟨by have := HK1.out; omega⟩, ⟨ub k3.out⟩, ⟨bl⟩⟩
   ·have ja0 : decide (b2 < (g0.length : Int)) = false := decide_eq_false c4
    clear c4
    simp only [Option.some.injEq, Prod.mk.injEq] at H
    obtain ⟨rfl, rfl⟩ := H
    obtain ⟨y8, s8, q8, o8, m8, k8⟩ := bz3 k3
    go_wp2
    go_ret2
    exact ⟨rx, bl⟩

/-! ### spec_l4Piece: function 79 -/
mutual
def spec_l4Piece.l0 : Nat → List (S50) → Int → Int → Int → Int → Option (Int × Int)
 | 0, _, _, _, _, _ => none
 | k + 1, x1, x2, x8, x9, x10 => if x10 < (x1.length : Int) then (if 0 ≤ x10 then (if ((rd_T50 x1 x10).f0) ≤ x2 then (spec_l4Piece.l0 k x1 x2 ((rd_T50 x1 x10).f1) x9 (wrap64 (x10 + 1))) else (spec_l4Piece.l0 k x1 x2 x8 x9 (wrap64 (x10 + 1)))) else (none)) else (spec_l4Piece.l1 k x1 x2 x8 x9 (wrap64 ((x1.length : Int) - 1)))
def spec_l4Piece.l1 : Nat → List (S50) → Int → Int → Int → Int → Option (Int × Int)
 | 0, _, _, _, _, _ => none
 | k + 1, x1, x2, x8, x9, x11 => if x11 ≥ 0 then (if 0 ≤ x11 then (if x11 < (x1.length : Int) then (if ((rd_T50 x1 x11).f0) ≥ x2 then (spec_l4Piece.l1 k x1 x2 x8 ((rd_T50 x1 x11).f1) (wrap64 (x11 - 1))) else (spec_l4Piece.l1 k x1 x2 x8 x9 (wrap64 (x11 - 1)))) else (none)) else (none)) else (some (x8, x9))
end
def spec_l4Piece.f (k : Nat) (a0 : Int) (l1 : List (S50)) (a2 : Int) : Option (Int × Int) := spec_l4Piece.l0 k l1 a2 0 a0 0
theorem spec_l4Piece.mono_l : ∀ k, (∀ y0 y1 y2 y3 y4, LeO (spec_l4Piece.l0 k y0 y1 y2 y3 y4) (spec_l4Piece.l0 (k + 1) y0 y1 y2 y3 y4)) ∧ (∀ y0 y1 y2 y3 y4, LeO (spec_l4Piece.l1 k y0 y1 y2 y3 y4) (spec_l4Piece.l1 (k + 1) y0 y1 y2 y3 y4))
 | 0 => ⟨fun _ _ _ _ _ r h => by simp [spec_l4Piece.l0] at h, fun _ _ _ _ _ r h => by simp [spec_l4Piece.l1] at h⟩
 | k + 1 => by
  obtain ⟨ih0, ih1⟩ := spec_l4Piece.mono_l k
  refine ⟨?_, ?_⟩
  ·intro y0 y1 y2 y3 y4
   unfold spec_l4Piece.l0
   exact mo
  ·intro y0 y1 y2 y3 y4
   unfold spec_l4Piece.l1
   exact mo
theorem spec_l4Piece.mono : ∀ a0 a1 a2 k, LeO (spec_l4Piece.f k a0 a1 a2) (spec_l4Piece.f (k + 1) a0 a1 a2) := by
 intro a0 a1 a2 k
 obtain ⟨ih0, ih1⟩ := spec_l4Piece.mono_l k
 unfold spec_l4Piece.f
 exact mo
instance spec_l4Piece.mi (a0 a1 a2 k) : LeC (spec_l4Piece.f k a0 a1 a2) (spec_l4Piece.f (k + 1) a0 a1 a2) := ⟨spec_l4Piece.mono a0 a1 a2 k⟩
set_option maxHeartbeats 8000000 in
set_option maxRecDepth 100000 in
theorem spec_l4Piece.calls (k : Nat) (a0 : Int) (A1 : Option Addr) (c1 : Nat) (l1 : List (S50)) (a2 : Int) (r1 : Int) (r2 : Int) (w : World) (hr1 : Kd.C k50 w A1 l1.length l1) (hc1 : l1.length ≤ c1) (h : spec_l4Piece.f k a0 l1 a2 = some (r1, r2)) :
  Calls Try.prog 79 #[.int .i64 a0, .slice A1 l1.length c1, .int .i64 a2] w fun e w' => e = .returned (.tuple #[.int .i64 r1, .int .i64 r2]) ∧ Drawn0 w w' := by
 have HR1 := mk hr1
 have HC1 := mk hc1
 clear hr1 hc1
 have H : (spec_l4Piece.l0 k l1 a2 0 a0 0) = some (r1, r2) := h
 clear h
 have H' := mk H
 clear H
 go_enter Try.func79, Try.ntmps79
 go_wp2
 go_loopg [8, 10] k (fun kq v8 v10 w' => ∃ (s7 : Int) (k0 : Int), v8 = .int .i64 s7 ∧ v10 = .int .i64 k0 ∧ Aside0 (spec_l4Piece.l0 kq l1 a2 s7 a0 k0 = some (r1, r2)) ∧ Aside0 (kq ≤ k) ∧ Drawn0 w w')
 case atStart => exact ⟨(0), (0), (by first | rfl | (simp; done) | (simp [*]; done)), (by first | rfl | (simp; done) | (simp [*]; done)), H', ⟨Nat.le_refl _⟩, by repeat (first | exact Drawn0.refl _ | apply Drawn0.step)⟩
 case round =>
  clear H'
  try clear c1
  try clear p2
  obtain ⟨s7, k0, rfl, rfl, HA, HK1, ⟨m1, rfl⟩⟩ := hrel
  cases gk with
  | zero => exact absurd HA.out (by simp [spec_l4Piece.l0])
  | succ k1 =>
   have H := HA.out
   clear HA
   simp only [spec_l4Piece.l0] at H
   revert H; refine ci (fun c4 H => ?_) fun c4 H => ?_
   ·have ja0 : decide (k0 < (l1.length : Int)) = true := decide_eq_true c4
    clear c4
    revert H; refine ca fun c5 H => ?_
    have ma6 : decide (0 ≤ k0) = true := decide_eq_true c5
    clear c5
    revert H; refine ci (fun c6 H => ?_) fun c6 H => ?_
    ·have ga0 : decide (((rd_T50 l1 k0).f0) ≤ a2) = true := decide_eq_true c6
     clear c6
     have H' := mk H
     clear H
     have k5 : 0 ≤ (k0 : Int) := dt
     have j5 : k0 < (l1.length : Int) := dt
     obtain ⟨b9, da4, z3, v3⟩ := at_T50 HR1.out k0 k5 j5
     cases da4
     replace k5 := eq_true k5
     replace j5 := eq_true j5
     have da0 : 0 ≤ (k0 : Int) := dt
     have ba0 : k0 < (l1.length : Int) := dt
     obtain ⟨qa4, ma7, k6, j6⟩ := at_T50 HR1.out k0 da0 ba0
     obtain rfl : b9 = qa4 := (by injection ma7)
     replace da0 := eq_true da0
     replace ba0 := eq_true ba0
     go_wp2
     go_roundg k1
     case measure => have := HK1.out; omega
     case rel => exact ⟨((rd_T50 l1 k0).f1), (wrap64 (k0 + 1)), (by first | rfl | (simp; done) | (simp [*]; done)), (by first | rfl | (simp; done) | (simp [*]; done)), H', ⟨by have := HK1.out; omega⟩, by repeat (first | exact Drawn0.refl _ | apply Drawn0.step)⟩
    ·have ga0 : decide (((rd_T50 l1 k0).f0) ≤ a2) = false := decide_eq_false c6
     clear c6
     have H' := mk H
     clear H
     have k5 : 0 ≤ (k0 : Int) := dt
     have j5 : k0 < (l1.length : Int) := dt
     obtain ⟨b9, da4, z3, v3⟩ := at_T50 HR1.out k0 k5 j5
     cases da4
     replace k5 := eq_true k5
     replace j5 := eq_true j5
     go_wp2
     go_roundg k1
     case measure => have := HK1.out; omega
     case rel => exact ⟨(s7), (wrap64 (k0 + 1)), (by first | rfl | (simp; done) | (simp [*]; done)), (by first | rfl | (simp; done) | (simp [*]; done)), H', ⟨by have := HK1.out; omega⟩, by repeat (first | exact Drawn0.refl _ | apply Drawn0.step)⟩
   ·have ja0 : decide (k0 < (l1.length : Int)) = false := decide_eq_false c4
    clear c4
    have H' := mk H
    clear H
    go_wp2
    go_loopg [9, 11] k1 (fun kq v9 v11 w' => ∃ (s9 : Int) (d0 : Int), v9 = .int .i64 s9 ∧ v11 = .int .i64 d0 ∧ Aside0 (spec_l4Piece.l1 kq l1 a2 s7 s9 d0 = some (r1, r2)) ∧ Aside0 (kq ≤ k1) ∧ Drawn0 w w')
    case atStart => exact ⟨(a0), (wrap64 ((l1.length : Int) - 1)), (by first | rfl | (simp; done) | (simp [*]; done)), (by first | rfl | (simp; done) | (simp [*]; done)), H', ⟨Nat.le_refl _⟩, by repeat (first | exact Drawn0.refl _ | apply Drawn0.step)⟩
    case round =>
     clear H'
     try clear c1
     try clear p2
     try clear c4
     try clear ja0
     try clear p4
     try clear q4
     try clear hx4
     try clear c5
     try clear ma6
     try clear c6
     try clear ga0
     try clear p6
     try clear z3
     try clear v3
     try clear k6
     try clear j6
     try clear p2
     try clear k5
     try clear da0
     try clear j5
     try clear ba0
     obtain ⟨s9, d0, rfl, rfl, HA, HK2, ⟨m2, rfl⟩⟩ := hrel
     cases gk with
     | zero => exact absurd HA.out (by simp [spec_l4Piece.l1])
     | succ k2 =>
      have H := HA.out
      clear HA
      simp only [spec_l4Piece.l1] at H
      revert H; refine ci (fun c7 H => ?_) fun c7 H => ?_
      ·have va7 : decide (0 ≤ d0) = true := decide_eq_true c7
       clear c7
       revert H; refine ca fun c8 H => ?_
       have sa8 : decide (0 ≤ d0) = true := decide_eq_true c8
       clear c8
       revert H; refine ca fun c9 H => ?_
       have qa8 : decide (d0 < (l1.length : Int)) = true := decide_eq_true c9
       clear c9
       revert H; refine ci (fun c10 H => ?_) fun c10 H => ?_
       ·have ma4 : decide (a2 ≤ ((rd_T50 l1 d0).f0)) = true := decide_eq_true c10
        clear c10
        have H' := mk H
        clear H
        have a6 : 0 ≤ (d0 : Int) := dt
        have s5 : d0 < (l1.length : Int) := dt
        obtain ⟨a9, ba4, g6, d6⟩ := at_T50 HR1.out d0 a6 s5
        cases ba4
        replace a6 := eq_true a6
        replace s5 := eq_true s5
        have za0 : 0 ≤ (d0 : Int) := dt
        have va0 : d0 < (l1.length : Int) := dt
        obtain ⟨oa4, ka7, da1, ba1⟩ := at_T50 HR1.out d0 za0 va0
        obtain rfl : a9 = oa4 := (by injection ka7)
        replace za0 := eq_true za0
        replace va0 := eq_true va0
        go_wp2
        go_roundg k2
        case measure => have := HK1.out; have := HK2.out; omega
        case rel => exact ⟨((rd_T50 l1 d0).f1), (wrap64 (d0 - 1)), (by first | rfl | (simp; done) | (simp [*]; done)), (by first | rfl | (simp; done) | (simp [*]; done)), H', ⟨by have := HK1.out; have := HK2.out; omega⟩, by repeat (first | exact Drawn0.refl _ | apply Drawn0.step)⟩
       ·have ma4 : decide (a2 ≤ ((rd_T50 l1 d0).f0)) = false := decide_eq_false c10
        clear c10
        have H' := mk H
        clear H
        have a6 : 0 ≤ (d0 : Int) := dt
        have s5 : d0 < (l1.length : Int) := dt
        obtain ⟨a9, ba4, g6, d6⟩ := at_T50 HR1.out d0 a6 s5
        cases ba4
        replace a6 := eq_true a6
        replace s5 := eq_true s5
        go_wp2
        go_roundg k2
        case measure => have := HK1.out; have := HK2.out; omega
        case rel => exact ⟨(s9), (wrap64 (d0 - 1)), (by first | rfl | (simp; done) | (simp [*]; done)), (by first | rfl | (simp; done) | (simp [*]; done)), H', ⟨by have := HK1.out; have := HK2.out; omega⟩, by repeat (first | exact Drawn0.refl _ | apply Drawn0.step)⟩
      ·have va7 : decide (0 ≤ d0) = false := decide_eq_false c7
       clear c7
       simp only [Option.some.injEq, Prod.mk.injEq] at H
       obtain ⟨rfl, rfl⟩ := H
       go_wp2
       go_ret2
       exact ⟨by first | rfl | (simp; done) | (simp [*]; done), by repeat (first | exact Drawn0.refl _ | apply Drawn0.step)⟩

/-! ### spec_PieceOf: function 75 -/
def spec_PieceOf.f (k : Nat) (q0 : List Int) (d1 : List Int) (g0 : List (S50)) (a1 : Int) : Option (Int × Int) := (spec_IsCracker.f k q0 d1 g0).bind fun g8 => (if g8 = true then ((spec_l1In.f a1 (-1000) 1000).bind fun d8 => (if d8 = true then ((spec_l4Piece.f k (q0.length : Int) g0 a1).bind fun j4 => (some (j4.1, j4.2))) else (some (0, 0)))) else (some (0, 0)))
theorem spec_PieceOf.mono : ∀ a0 a1 a2 a3 k, LeO (spec_PieceOf.f k a0 a1 a2 a3) (spec_PieceOf.f (k + 1) a0 a1 a2 a3) := by
 intro a0 a1 a2 a3 k
 unfold spec_PieceOf.f
 exact mo
instance spec_PieceOf.mi (a0 a1 a2 a3 k) : LeC (spec_PieceOf.f k a0 a1 a2 a3) (spec_PieceOf.f (k + 1) a0 a1 a2 a3) := ⟨spec_PieceOf.mono a0 a1 a2 a3 k⟩
set_option maxHeartbeats 8000000 in
set_option maxRecDepth 100000 in
theorem spec_PieceOf.calls (k : Nat) (o3 : Option Addr) (j3 : Nat) (q0 : List Int) (m3 : Option Addr) (g3 : Nat) (d1 : List Int) (d3 : Option Addr) (b3 : Nat) (g0 : List (S50)) (a1 : Int) (r1 : Int) (r2 : Int) (w : World) (d4 : Kd.C (Kd.int .i64) w o3 q0.length q0) (hc0_0 : q0.length ≤ j3) (b4 : Kd.C (Kd.int .i64) w m3 d1.length d1) (hc0_1 : d1.length ≤ g3) (a4 : Kd.C k50 w d3 g0.length g0) (hc0_2 : g0.length ≤ b3) (h : spec_PieceOf.f k q0 d1 g0 a1 = some (r1, r2)) :
  Calls Try.prog 75 #[.agg #[.slice o3 q0.length j3, .slice m3 d1.length g3, .slice d3 g0.length b3], .int .i64 a1] w fun e w' => e = .returned (.tuple #[.int .i64 r1, .int .i64 r2]) ∧ Below w.heap.size w w' := by
 have hu29 := Try.underlying29
 have z4 := mk d4
 have d5 := mk hc0_0
 clear d4 hc0_0
 have s4 := mk b4
 have b5 := mk hc0_1
 clear b4 hc0_1
 have j2 := mk a4
 have k4 := mk hc0_2
 clear a4 hc0_2
 have HB := mk (Below.refl w.heap.size w)
 have H : ((spec_IsCracker.f k q0 d1 g0).bind fun g8 => (if g8 = true then ((spec_l1In.f a1 (-1000) 1000).bind fun d8 => (if d8 = true then ((spec_l4Piece.f k (q0.length : Int) g0 a1).bind fun j4 => (some (j4.1, j4.2))) else (some (0, 0)))) else (some (0, 0)))) = some (r1, r2) := h
 clear h
 revert H; refine bo ?_; rintro g8 A3 H
 by_cases c4 : g8 = true
 ·subst c4
  rw [if_pos rfl] at H
  revert H; refine bo ?_; rintro d8 A5 H
  by_cases c6 : d8 = true
  ·subst c6
   rw [if_pos rfl] at H
   revert H; refine bo ?_; rintro ⟨sa6, qa6⟩ A7 H
   dsimp only at H
   simp only [Option.some.injEq, Prod.mk.injEq] at H
   obtain ⟨rfl, rfl⟩ := H
   go_enter Try.func75, Try.ntmps75
   go_wp2_with (first | ((with_reducible refine gate_dst (N := 2) rfl ?_); refine bx 2 #[.slice o3 q0.length j3, .slice m3 d1.length g3, .slice d3 g0.length b3] 29 ?_; intro z8 hg w8 hbox hb; have j1 := mk hbox; have o9 := wg hg; have q9 := wg hg; replace HB := wh hb; clear hb hbox hg; obtain ⟨y8, s8, q8, o8, m8, k8⟩ := bz3 j1) | ((with_reducible refine gate_callee (f := 23) rfl ?_); refine gl (some 7) rfl Try.func23 #[.agg #[.slice o3 q0.length j3, .slice m3 d1.length g3, .slice d3 g0.length b3]] ?_; (with_reducible refine (spec_IsCracker.calls k _ _ q0 _ _ d1 _ _ g0 true _ ?side1 ?side2 ?side3 ?side4 ?side5 ?side6 A3.out).mono ?_); (case side1 => exact cb z4 HB); (case side2 => exact d5.out); (case side3 => exact cb s4 HB); (case side4 => exact b5.out); (case side5 => exact cb j2 HB); (case side6 => exact k4.out); rintro e w10 ⟨rfl, hb⟩; refine ⟨_, rfl, ?_⟩; replace j1 := wb j1 hb; replace HB := wh hb; (try clear hb)) | (go_at_call 54; (with_reducible refine (spec_l1In.calls a1 (-1000) 1000 true _ A5.out).mono ?_); rintro e w' ⟨rfl, ⟨nd, rfl⟩⟩; obtain ⟨za3, ya3, va3, oa2, ma2, ka2⟩ := bz3 j1) | ((with_reducible refine gate_callee (f := 79) rfl ?_); refine gl (some 20) rfl Try.func79 #[.int .i64 (q0.length : Int), .slice d3 g0.length b3, .int .i64 a1] ?_; (with_reducible refine (spec_l4Piece.calls k (q0.length : Int) _ _ g0 a1 sa6 qa6 _ ?side1 ?side2 A7.out).mono ?_); (case side1 => exact uc (Kd.C_below j2.out bl)); (case side2 => exact k4.out); rintro e w' ⟨rfl, ⟨nd, rfl⟩⟩; refine ⟨_, rfl, ?_⟩))
   go_ret2
   exact ⟨rx, bl⟩
  ·replace c6 := Bool.eq_false_iff.mpr c6
   subst c6
   rw [if_neg nf] at H
   simp only [Option.some.injEq, Prod.mk.injEq] at H
   obtain ⟨rfl, rfl⟩ := H
   go_enter Try.func75, Try.ntmps75
   go_wp2_with (first | ((with_reducible refine gate_dst (N := 2) rfl ?_); refine bx 2 #[.slice o3 q0.length j3, .slice m3 d1.length g3, .slice d3 g0.length b3] 29 ?_; intro z8 hg w12 hbox hb; have j1 := mk hbox; have o9 := wg hg; have q9 := wg hg; replace HB := wh hb; clear hb hbox hg; obtain ⟨sa3, qa3, oa3, ja2, ga2, da2⟩ := bz3 j1) | ((with_reducible refine gate_callee (f := 23) rfl ?_); refine gl (some 7) rfl Try.func23 #[.agg #[.slice o3 q0.length j3, .slice m3 d1.length g3, .slice d3 g0.length b3]] ?_; (with_reducible refine (spec_IsCracker.calls k _ _ q0 _ _ d1 _ _ g0 true _ ?side1 ?side2 ?side3 ?side4 ?side5 ?side6 A3.out).mono ?_); (case side1 => exact cb z4 HB); (case side2 => exact d5.out); (case side3 => exact cb s4 HB); (case side4 => exact b5.out); (case side5 => exact cb j2 HB); (case side6 => exact k4.out); rintro e w14 ⟨rfl, hb⟩; refine ⟨_, rfl, ?_⟩; replace j1 := wb j1 hb; replace HB := wh hb; (try clear hb)) | (go_at_call 54; (with_reducible refine (spec_l1In.calls a1 (-1000) 1000 false _ A5.out).mono ?_); rintro e w' ⟨rfl, ⟨nd, rfl⟩⟩))
   go_ret2
   exact ⟨rx, bl⟩
 ·replace c4 := Bool.eq_false_iff.mpr c4
  subst c4
  rw [if_neg nf] at H
  simp only [Option.some.injEq, Prod.mk.injEq] at H
  obtain ⟨rfl, rfl⟩ := H
  go_enter Try.func75, Try.ntmps75
  go_wp2_with (first | ((with_reducible refine gate_dst (N := 2) rfl ?_); refine bx 2 #[.slice o3 q0.length j3, .slice m3 d1.length g3, .slice d3 g0.length b3] 29 ?_; intro z8 hg w15 hbox hb; have j1 := mk hbox; have o9 := wg hg; have q9 := wg hg; replace HB := wh hb; clear hb hbox hg; obtain ⟨d7, b7, a7, q6, o6, m6⟩ := bz3 j1) | ((with_reducible refine gate_callee (f := 23) rfl ?_); refine gl (some 7) rfl Try.func23 #[.agg #[.slice o3 q0.length j3, .slice m3 d1.length g3, .slice d3 g0.length b3]] ?_; (with_reducible refine (spec_IsCracker.calls k _ _ q0 _ _ d1 _ _ g0 false _ ?side1 ?side2 ?side3 ?side4 ?side5 ?side6 A3.out).mono ?_); (case side1 => exact cb z4 HB); (case side2 => exact d5.out); (case side3 => exact cb s4 HB); (case side4 => exact b5.out); (case side5 => exact cb j2 HB); (case side6 => exact k4.out); rintro e w17 ⟨rfl, hb⟩; refine ⟨_, rfl, ?_⟩; replace j1 := wb j1 hb; replace HB := wh hb; (try clear hb)))
  go_ret2
  exact ⟨rx, bl⟩

end Go.Proofs.Ytlikcmonejefoab.PFnRipples
