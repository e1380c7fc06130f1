-- printed by a program of this session, a turned copy of the print of the kit
import Derived.Test.YtlikcmonejefoabSr
import Derived.Test.YtlikcmonejefoabPFnRipplesx0
import Derived.Test.YtlikcmonejefoabPFnRipplesx13
import Derived.Test.YtlikcmonejefoabPFnRipplesx15
import Derived.Test.YtlikcmonejefoabPFnRipplesx19
namespace Go.Proofs.Ytlikcmonejefoab.PFnRipples
open Go.RowKit Go.Proofs.YtlikcmonejefoabW.PrintWords Go.Proofs.YtlikcmonejefoabW.PrintLast Go.Proofs.YtlikcmonejefoabW.PrintMore Go.Proofs.Ytlikcmonejefoab.Sq
attribute [local go_sem] max2_int min2_int max_two min_two max_three min_three max_four min_four Giv.cell_twice   -- for this text's walks alone
set_option linter.unusedVariables false
set_option linter.unusedSimpArgs false

/-! ### spec_SortInts: function 51 -/
mutual
def spec_SortInts.l0 : Nat → List Int → Int → Option (List Int)
 | 0, _, _ => none
 | k + 1, x3, x4 => if x4 < (x3.length : Int) then (spec_SortInts.l1 k x3 x4 x4) else (some x3)
def spec_SortInts.l1 : Nat → List Int → Int → Int → Option (List Int)
 | 0, _, _, _ => none
 | k + 1, x3, x4, x5 => if x5 > 0 then (if 0 ≤ (wrap64 (x5 - 1)) then (if (wrap64 (x5 - 1)) < (x3.length : Int) then (if 0 ≤ x5 then (if x5 < (x3.length : Int) then (if (rd x3 (wrap64 (x5 - 1))) > (rd x3 x5) then ((spec_l5Swap.f x3 (wrap64 (x5 - 1)) x5).bind fun z3 => (spec_SortInts.l1 k z3 x4 (wrap64 (x5 - 1)))) else (spec_SortInts.l0 k x3 (wrap64 (x4 + 1)))) else (none)) else (none)) else (none)) else (none)) else (spec_SortInts.l0 k x3 (wrap64 (x4 + 1)))
end
def spec_SortInts.f (k : Nat) (l0 : List Int) : Option (List Int) := (some (([] : List Int) : List Int)).bind fun k3 => (if k3.length + l0.length < 17592186044416 then (spec_SortInts.l0 k (k3 ++ l0) 1) else (none))
theorem spec_SortInts.mono_l : ∀ k, (∀ y0 y1, LeO (spec_SortInts.l0 k y0 y1) (spec_SortInts.l0 (k + 1) y0 y1)) ∧ (∀ y0 y1 y2, LeO (spec_SortInts.l1 k y0 y1 y2) (spec_SortInts.l1 (k + 1) y0 y1 y2))
 | 0 => ⟨fun _ _ r h => by simp [spec_SortInts.l0] at h, fun _ _ _ r h => by simp [spec_SortInts.l1] at h⟩
 | k + 1 => by
  obtain ⟨ih0, ih1⟩ := spec_SortInts.mono_l k
  refine ⟨?_, ?_⟩
  ·intro y0 y1
   unfold spec_SortInts.l0
   exact mo
  ·intro y0 y1 y2
   unfold spec_SortInts.l1
   exact mo
theorem spec_SortInts.mono : ∀ a0 k, LeO (spec_SortInts.f k a0) (spec_SortInts.f (k + 1) a0) := by
 intro a0 k
 obtain ⟨ih0, ih1⟩ := spec_SortInts.mono_l k
 unfold spec_SortInts.f
 exact mo
instance spec_SortInts.mi (a0 k) : LeC (spec_SortInts.f k a0) (spec_SortInts.f (k + 1) a0) := ⟨spec_SortInts.mono a0 k⟩
set_option maxHeartbeats 8000000 in
set_option maxRecDepth 100000 in
theorem spec_SortInts.calls (k : Nat) (A0 : Option Addr) (c0 : Nat) (l0 : List Int) (r : List Int) (w : World) (hr0 : Kd.C (Kd.int .i64) w A0 l0.length l0) (hc0 : l0.length ≤ c0) (h : spec_SortInts.f k l0 = some r) :
  Calls Try.prog 51 #[.slice A0 l0.length c0] w fun e w' => ∃ v0_ : Value, e = .returned (v0_) ∧ Kd.R (Kd.int .i64) 3 w' w.heap.size (fun _ => True) v0_ r ∧ Below w.heap.size w w' := by
 have HR0 := mk hr0
 have HC0 := mk hc0
 clear hr0 hc0
 have HB := mk (Below.refl w.heap.size w)
 have H : ((some (([] : List Int) : List Int)).bind fun k3 => (if k3.length + l0.length < 17592186044416 then (spec_SortInts.l0 k (k3 ++ l0) 1) else (none))) = some r := h
 clear h
 obtain ⟨k3, hy_⟩ : ∃ y_ : List Int, y_ = (([] : List Int)) := ⟨_, rfl⟩
 replace H : (if k3.length + l0.length < 17592186044416 then (spec_SortInts.l0 k (k3 ++ l0) 1) else (none)) = some r := hw
 have o5 := mk hy_
 clear hy_
 revert H; refine ca fun c2 H => ?_
 have LMc2 := mk c2
 clear c2
 obtain ⟨d9, hy_⟩ : ∃ y_ : List Int, y_ = (k3 ++ l0) := ⟨_, rfl⟩
 replace H : (spec_SortInts.l0 k d9 1) = some r := hw
 have k8 := mk hy_
 clear hy_
 have H' := mk H
 clear H
 go_enter Try.func51, Try.ntmps51
 iterate 3 ((try go_quiet (fail)); (try go_wp2_with (first | ((with_reducible refine gate_dst (N := 6) rfl ?_); refine Kd.R_lit (Kd.int .i64) _ 3 ?hg (N := 6) ?hd (xs := ([] : List Int)) (inner := []) (ok := fun _ => True) (okp := fun _ => True) ?hr ?hp (fun _ hk => hk) trivial (Below.refl _ _) (Nat.le_refl _) (by simp) ?_; (case hd => rfl); (case hg => rfl); (case hr => first | (go_simp; done) | (go_simp; rfl)); (case hp => exact (Reps.none _ _)); intro z9 w3 ho4 hb hg_ hnew_; clear hg_ hnew_; (first | rw [← o5.out] at ho4 | (simp only [Int.reduceToNat] at ho4; rw [← o5.out] at ho4)); have s5 := lo ho4; replace HB := wh hb; clear hb ho4) | ((with_reducible refine gate_builtin (b := .append) (xs := #[.tmp 6, .tmp 7]) rfl ?_); at_builtin; refine Kd.R_append_rows (Kd.int .i64) (w0 := w) w.heap.size rfl (.tmp 6) (.tmp 7) 22 3 (.int .i64 0) 8 rfl Try.underlying22 info3 rfl (by decide) (by omega) z9 k3 l0 _ _ _ (fun _ => True) (fun _ => False) rfl rfl ?aO ?aR (fun _ _ h => h) (fun _ h => h.elim) ?aF ?aB ?aS ?aL ?_; (case aR => exact uc (Kd.C_below HR0.out HB.out)); (case aB => exact bl); (case aF => exact (fun _ _ => trivial)); (case aO => exact (up s5.out)); (case aS => exact (below_size bl)); (case aL => have := LMc2.out; omega); intro y9 w5 ho hb hg hat; rw [← k8.out] at ho; replace HB := mk hb; have z8 := mk ho; clear s5; clear ho hb hg hat))))
 go_loopg [4] k (fun kq v4 w' => ∃ (z1 : List Int) (o0 : Int), v4 = .int .i64 o0 ∧ Aside0 (spec_SortInts.l0 kq z1 o0 = some r) ∧ Aside0 (kq ≤ k) ∧ Aside0 (Kd.R (Kd.int .i64) 3 w' w.heap.size (fun _ => True) y9 z1) ∧ Aside0 (Below w.heap.size w w'))
 case atStart => exact ⟨(d9), (1), (by first | rfl | (simp; done) | (simp [*]; done)), H', ⟨Nat.le_refl _⟩, ⟨up z8.out⟩, ⟨bl⟩⟩
 case round =>
  clear H'
  try clear c2
  try clear p2
  try clear c5
  obtain ⟨z1, o0, rfl, HA, HK1, m0, HB⟩ := hrel
  cases gk with
  | zero => exact absurd HA.out (by simp [spec_SortInts.l0])
  | succ k1 =>
   have H := HA.out
   clear HA
   simp only [spec_SortInts.l0] at H
   revert H; refine ci (fun c6 H => ?_) fun c6 H => ?_
   ·have z5 : decide (o0 < (z1.length : Int)) = true := decide_eq_true c6
    clear c6
    have H' := mk H
    clear H
    obtain ⟨Ao7, co7, eo7⟩ := Kd.R_slice m0.out
    subst eo7
    go_wp2
    repeat (go_quiet (fail); try go_wp2)
    go_loopg [5] k1 (fun kq v5 w' => ∃ (v0 : List Int) (g1 : Int), v5 = .int .i64 g1 ∧ Aside0 (spec_SortInts.l1 kq v0 o0 g1 = some r) ∧ Aside0 (kq ≤ k1) ∧ Aside0 (Kd.R (Kd.int .i64) 3 w' w.heap.size (fun _ => True) (.slice Ao7 z1.length co7) v0) ∧ Aside0 (Below w.heap.size w w'))
    case atStart => exact ⟨(z1), (o0), (by first | rfl | (simp; done) | (simp [*]; done)), H', ⟨Nat.le_refl _⟩, ⟨up m0.out⟩, ⟨bl⟩⟩
    case round =>
     clear H'
     try clear c2
     try clear p2
     try clear c5
     try clear c6
     try clear z5
     try clear p2
     obtain ⟨v0, g1, rfl, HA, HK2, m0, HB⟩ := hrel
     have hl3_2 := (Kd.R_reads' m0.out).1
     rw [hl3_2] at m0
     (try simp only [hl3_2])
     cases gk with
     | zero => exact absurd HA.out (by simp [spec_SortInts.l1])
     | succ k2 =>
      have H := HA.out
      clear HA
      simp only [spec_SortInts.l1] at H
      revert H; refine ci (fun c8 H => ?_) fun c8 H => ?_
      ·have ba1 : decide (0 < g1) = true := decide_eq_true c8
       clear c8
       obtain ⟨ji9, y5⟩ : ∃ j_ : Int, (wrap64 (g1 - 1)) = j_ := ⟨_, rfl⟩
       replace H : (if 0 ≤ (ji9) then (if (ji9) < (v0.length : Int) then (if 0 ≤ g1 then (if g1 < (v0.length : Int) then (if (rd v0 (ji9)) > (rd v0 g1) then ((spec_l5Swap.f v0 (ji9) g1).bind fun z3 => (spec_SortInts.l1 k2 z3 o0 ji9)) else (spec_SortInts.l0 k2 v0 (wrap64 (o0 + 1)))) else (none)) else (none)) else (none)) else (none)) = some r := by first | (rw [y5] at H; exact H) | (simp only [y5] at H ⊢; exact H)
       have oa0 : (IntKind.i64.wrap (g1 - 1)) = ji9 := (i64_w _).trans y5
       revert H; refine ca fun c10 H => ?_
       have ma1 : decide (0 ≤ (ji9)) = true := decide_eq_true c10
       clear c10
       revert H; refine ca fun c11 H => ?_
       have ka1 : decide ((ji9) < (v0.length : Int)) = true := decide_eq_true c11
       clear c11
       revert H; refine ca fun c12 H => ?_
       have ja1 : decide (0 ≤ g1) = true := decide_eq_true c12
       clear c12
       revert H; refine ca fun c13 H => ?_
       have ga1 : decide (g1 < (v0.length : Int)) = true := decide_eq_true c13
       clear c13
       revert H; refine ci (fun c14 H => ?_) fun c14 H => ?_
       ·have g8 : decide ((rd v0 g1) < (rd v0 (ji9))) = true := decide_eq_true c14
        clear c14
        revert H; refine bo ?_; rintro z3 A15 H
        have H' := mk H
        clear H
        have g4 : 0 ≤ ((ji9) : Int) := dt
        have b4 : (ji9) < (v0.length : Int) := dt
        obtain ⟨z2, d8, k4⟩ := Kd.at_int (Kd.R_reads' m0.out).2.2 (ji9) g4 b4
        cases d8
        replace g4 := eq_true g4
        replace b4 := eq_true b4
        have d4 : 0 ≤ (g1 : Int) := dt
        have a4 : g1 < (v0.length : Int) := dt
        obtain ⟨s4, b8, j4⟩ := Kd.at_int (Kd.R_reads' m0.out).2.2 g1 d4 a4
        obtain rfl : z2 = s4 := (by injection b8)
        replace d4 := eq_true d4
        replace a4 := eq_true a4
        iterate 3 ((try go_quiet (first | (go_at_call 67; (with_reducible refine (spec_l5Swap.calls (fun k_ => some k_ = (.slice (some z2) v0.length co7 : Value).ownBlock) (.slice (some z2) v0.length co7) v0 ji9 g1 z3 w _ ?side1 ?side2 A15.out).mono ?_); (case side1 => exact bl); (case side2 => exact Kd.R_tight rfl m0.out); rintro e w16 ⟨rfl, hy0, hb, hkp⟩; replace m0 := mk (Kd.R_reok rfl hy0 (fun k_ e_ => m0.out.1 k_ e_)); replace HB := mk hb; (try clear hb hkp hy0)))); (try go_wp2_with (first | (go_at_call 67; (with_reducible refine (spec_l5Swap.calls (fun k_ => some k_ = (.slice (some z2) v0.length co7 : Value).ownBlock) (.slice (some z2) v0.length co7) v0 ji9 g1 z3 w _ ?side1 ?side2 A15.out).mono ?_); (case side1 => exact bl); (case side2 => exact Kd.R_tight rfl m0.out); rintro e w16 ⟨rfl, hy0, hb, hkp⟩; replace m0 := mk (Kd.R_reok rfl hy0 (fun k_ e_ => m0.out.1 k_ e_)); replace HB := mk hb; (try clear hb hkp hy0)))))
        (try simp only [← hl3_2])
        go_roundg k2
        case measure => have := HK1.out; have := HK2.out; omega
        case rel => exact ⟨(z3), (ji9), (by first | rfl | (simp; done) | (simp only [← y5] <;> (first | rfl | simp)) | (simp [*]; done)), H', ⟨by have := HK1.out; have := HK2.out; omega⟩, ⟨by (try simp only [hl3_2]); (with_reducible repeat (first | apply Kd.R_alloc | apply Kd.R_drewN | apply Kd.R_drew)); exact m0.out⟩, ⟨bl⟩⟩
       ·have g8 : decide ((rd v0 g1) < (rd v0 (ji9))) = false := decide_eq_false c14
        clear c14
        have H' := mk H
        clear H
        have g4 : 0 ≤ ((ji9) : Int) := dt
        have b4 : (ji9) < (v0.length : Int) := dt
        obtain ⟨z2, d8, k4⟩ := Kd.at_int (Kd.R_reads' m0.out).2.2 (ji9) g4 b4
        cases d8
        replace g4 := eq_true g4
        replace b4 := eq_true b4
        have d4 : 0 ≤ (g1 : Int) := dt
        have a4 : g1 < (v0.length : Int) := dt
        obtain ⟨s4, b8, j4⟩ := Kd.at_int (Kd.R_reads' m0.out).2.2 g1 d4 a4
        obtain rfl : z2 = s4 := (by injection b8)
        replace d4 := eq_true d4
        replace a4 := eq_true a4
        go_wp2
        repeat (go_quiet (fail); try go_wp2)
        (try simp only [← hl3_2])
        go_roundg k2
        case measure => have := HK1.out; have := HK2.out; omega
        case rel => exact ⟨(v0), (wrap64 (o0 + 1)), (by first | rfl | (simp; done) | (simp [*]; done)), H', ⟨by have := HK1.out; have := HK2.out; omega⟩, ⟨by (try simp only [hl3_2]); (with_reducible repeat (first | apply Kd.R_alloc | apply Kd.R_drewN | apply Kd.R_drew)); exact m0.out⟩, ⟨bl⟩⟩
      ·have ba1 : decide (0 < g1) = false := decide_eq_false c8
       clear c8
       have H' := mk H
       clear H
       go_wp2
       repeat (go_quiet (fail); try go_wp2)
       (try simp only [← hl3_2])
       go_roundg k2
       case measure => have := HK1.out; have := HK2.out; omega
       case rel => exact ⟨(v0), (wrap64 (o0 + 1)), (by first | rfl | (simp; done) | (simp [*]; done)), H', ⟨by have := HK1.out; have := HK2.out; omega⟩, ⟨by (try simp only [hl3_2]); (with_reducible repeat (first | apply Kd.R_alloc | apply Kd.R_drewN | apply Kd.R_drew)); exact m0.out⟩, ⟨bl⟩⟩
   ·have z5 : decide (o0 < (z1.length : Int)) = false := decide_eq_false c6
    clear c6
    obtain rfl := Option.some.inj H
    obtain ⟨za2, va2, sa0⟩ := Kd.R_slice m0.out
    subst sa0
    go_wp2
    repeat (go_quiet (fail); try go_wp2)
    go_ret
    exact ⟨_, rx, up m0.out, bl⟩

/-! ### laws_pairsOf: function 21 -/
def laws_pairsOf.l0 : Nat → List Int → Int → List Int → List Int → List (S50) → Option (List Int)
 | 0, _, _, _, _, _ => none
 | k + 1, x3, x4, o2, m2, s3 => if x4 < (o2.length : Int) then (if x4 < (m2.length : Int) then (if 0 ≤ x4 then (if x3.length < 17592186044416 then (laws_pairsOf.l0 k (x3 ++ [wrap64 ((wrap64 ((rd o2 x4) * 1000)) + (rd m2 x4))]) (wrap64 (x4 + 1)) o2 m2 s3) else (none)) else (none)) else ((spec_SortInts.f k x3).bind fun g6 => (some g6))) else ((spec_SortInts.f k x3).bind fun d6 => (some d6))
def laws_pairsOf.f (k : Nat) (s1 : List Int) (q1 : List Int) (s2 : List (S50)) : Option (List Int) := laws_pairsOf.l0 k (([] : List Int)) 0 s1 q1 s2
theorem laws_pairsOf.mono_l : ∀ k, (∀ y0 y1 y2 y3 y4, LeO (laws_pairsOf.l0 k y0 y1 y2 y3 y4) (laws_pairsOf.l0 (k + 1) y0 y1 y2 y3 y4))
 | 0 => fun _ _ _ _ _ r h => by simp [laws_pairsOf.l0] at h
 | k + 1 => by
  have ih0 := laws_pairsOf.mono_l k
  ·intro y0 y1 y2 y3 y4
   unfold laws_pairsOf.l0
   exact mo
theorem laws_pairsOf.mono : ∀ a0 a1 a2 k, LeO (laws_pairsOf.f k a0 a1 a2) (laws_pairsOf.f (k + 1) a0 a1 a2) := by
 intro a0 a1 a2 k
 have ih0 := laws_pairsOf.mono_l k
 unfold laws_pairsOf.f
 exact mo
instance laws_pairsOf.mi (a0 a1 a2 k) : LeC (laws_pairsOf.f k a0 a1 a2) (laws_pairsOf.f (k + 1) a0 a1 a2) := ⟨laws_pairsOf.mono a0 a1 a2 k⟩
def laws_pairsOf.T5 : Bool × List (List Nat × List Nat) := (true, [([], []), ([], []), ([1], [1]), ([], []), ([2, 3], [2, 3]), ([4], [4]), ([5], [5]), ([], []), ([7], [7]), ([], []), ([8, 9], [8, 9]), ([10], [10]), ([6, 11], [6, 11]), ([12], [12]), ([0, 13], [0, 13]), ([14, 14, 0, 1, 2, 3, 4, 5, 6, 7, 8, 9, 10, 11, 12, 13, 14], [0, 14])])
def laws_pairsOf.B5 : List Nat := [0, 0, 2, 0, 14, 30, 62, 0, 128, 0, 896, 1920, 4094, 8190, 16383, 32767]
theorem laws_pairsOf.tab5 : rtab .any (opsOf Try.f21 5) = laws_pairsOf.T5 := by kernel_rfl
theorem laws_pairsOf.bits5 : waitsOk laws_pairsOf.T5.2 laws_pairsOf.B5 = true := by kernel_rfl
set_option maxHeartbeats 8000000 in
set_option maxRecDepth 100000 in
theorem laws_pairsOf.calls (k : Nat) (b6 : Option Addr) (b5 : Nat) (s1 : List Int) (a6 : Option Addr) (a5 : Nat) (q1 : List Int) (d5 : Option Addr) (z4 : Nat) (s2 : List (S50)) (r : List Int) (w : World) (k5 : Kd.C (Kd.int .i64) w b6 s1.length s1) (hc0_0 : s1.length ≤ b5) (j5 : Kd.C (Kd.int .i64) w a6 q1.length q1) (hc0_1 : q1.length ≤ a5) (g5 : Kd.C k50 w d5 s2.length s2) (hc0_2 : s2.length ≤ z4) (h : laws_pairsOf.f k s1 q1 s2 = some r) :
  Calls Try.prog 21 #[.agg #[.slice b6 s1.length b5, .slice a6 q1.length a5, .slice d5 s2.length z4]] w fun e w' => ∃ v0_ : Value, e = .returned (v0_) ∧ Kd.R (Kd.int .i64) 3 w' w.heap.size (fun _ => True) v0_ r ∧ Below w.heap.size w w' := by
 have hu29 := Try.underlying29
 have o8 := mk k5
 have va1 := mk hc0_0
 clear k5 hc0_0
 have m8 := mk j5
 have sa1 := mk hc0_1
 clear j5 hc0_1
 have oa1 := mk g5
 have qa1 := mk hc0_2
 clear g5 hc0_2
 have HB := mk (Below.refl w.heap.size w)
 have H : (laws_pairsOf.l0 k (([] : List Int)) 0 s1 q1 s2) = some r := h
 clear h
 obtain ⟨b9, hy_⟩ : ∃ y_ : List Int, y_ = (([] : List Int)) := ⟨_, rfl⟩
 replace H : (laws_pairsOf.l0 k b9 0 s1 q1 s2) = some r := hw
 have m5 := mk hy_
 clear hy_
 have H' := mk H
 clear H
 go_enter Try.func21, Try.ntmps21
 go_wp2_with (first | ((with_reducible refine gate_dst (N := 1) rfl ?_); (try (refine gate_guard (by rfl) ?_; dsimp only)); refine bx 1 #[.slice b6 s1.length b5, .slice a6 q1.length a5, .slice d5 s2.length z4] 29 ?_; intro g3 hg w2 hbox hb; have g0 := mk hbox; have ba2 := wg hg; replace HB := wh hb; clear hb hbox hg) | ((with_reducible refine gate_dst (N := 5) rfl ?_); (try (refine gate_guard (by rfl) ?_; dsimp only)); refine Kd.R_lit (Kd.int .i64) _ 3 ?hg (N := 5) ?hd (xs := ([] : List Int)) (inner := []) (ok := fun _ => True) (okp := fun _ => True) ?hr ?hp (fun _ hk => hk) trivial (Below.refl _ _) (Nat.le_refl _) (by simp) ?_; (case hd => rfl); (case hg => rfl); (case hr => first | (go_simp; done) | (go_simp; rfl)); (case hp => exact (Reps.none _ _)); intro sa2 w3 ho4 hb hg_ hnew_; clear hg_ hnew_; (first | rw [← m5.out] at ho4 | (simp only [Int.reduceToNat] at ho4; rw [← m5.out] at ho4)); have y8 := lo ho4; replace g0 := wb g0 hb; replace HB := wh hb; clear hb ho4))
 go_loopg [3, 4] k (fun kq v3 v4 w' => ∃ (z1 : List Int) (o0 : Int), v4 = .int .i64 o0 ∧ Aside0 (laws_pairsOf.l0 kq z1 o0 s1 q1 s2 = some r) ∧ Aside0 (kq ≤ k) ∧ Aside0 (Kd.R (Kd.int .i64) 3 w' w.heap.size (fun _ => True) v3 z1) ∧ Aside0 (w'.heap[g3]? = some (.cells #[(.slice b6 s1.length b5), (.slice a6 q1.length a5), (.slice d5 s2.length z4)] 29 (0, 0))) ∧ Aside0 (Below w.heap.size w w'))
 case atStart => exact ⟨(b9), (0), (by first | rfl | (simp; done) | (simp [*]; done)), H', ⟨Nat.le_refl _⟩, ⟨up y8.out⟩, ⟨ub g0.out⟩, ⟨bl⟩⟩
 case round =>
  clear H'
  try clear c2
  try clear p2
  obtain ⟨z1, o0, rfl, HA, HK1, m0, g0, HB⟩ := hrel
  cases gk with
  | zero => exact absurd HA.out (by simp [laws_pairsOf.l0])
  | succ k1 =>
   have H := HA.out
   clear HA
   simp only [laws_pairsOf.l0] at H
   revert H; refine ci (fun c5 H => ?_) fun c5 H => ?_
   ·have da1 : decide (o0 < (s1.length : Int)) = true := decide_eq_true c5
    clear c5
    revert H; refine ci (fun c6 H => ?_) fun c6 H => ?_
    ·have z5 : decide (o0 < (q1.length : Int)) = true := decide_eq_true c6
     clear c6
     revert H; refine ca fun c7 H => ?_
     have ya2 : decide (0 ≤ o0) = true := decide_eq_true c7
     clear c7
     revert H; refine ca fun c8 H => ?_
     have LMc8 := mk c8
     clear c8
     obtain ⟨a9, hy_⟩ : ∃ y_ : List Int, y_ = (z1 ++ [wrap64 ((wrap64 ((rd s1 o0) * 1000)) + (rd q1 o0))]) := ⟨_, rfl⟩
     replace H : (laws_pairsOf.l0 k1 a9 (wrap64 (o0 + 1)) s1 q1 s2) = some r := hw
     have j8 := mk hy_
     clear hy_
     have H' := mk H
     clear H
     obtain ⟨v9, s9, q9, o9, m9, k9⟩ := bz3 g0
     try go_wp2
     replace m0 := mk (Kd.R_drew m0.out)
     replace g0 := wd g0
     replace HB := mk (below_drew1 HB.out)
     have o6 : 0 ≤ (o0 : Int) := dt
     have k6 : o0 < (s1.length : Int) := dt
     obtain ⟨q4, za0, m1⟩ := Kd.at_int o8.out o0 o6 k6
     have hw701_0 := m1
     cases za0
     replace m1 := (HB.out.cell (World.block_lt_of_cell? w _ m1)).trans m1
     replace o6 := eq_true o6
     replace k6 := eq_true k6
     have m6 : 0 ≤ (o0 : Int) := dt
     have j6 : o0 < (q1.length : Int) := dt
     obtain ⟨o4, ya0, j1⟩ := Kd.at_int m8.out o0 m6 j6
     have hw702_0 := j1
     cases ya0
     replace j1 := (HB.out.cell (World.block_lt_of_cell? w _ j1)).trans j1
     replace m6 := eq_true m6
     replace j6 := eq_true j6
     refine start_ (n := 16) (S := fun w' => w'.cell? ⟨g3, 0, none⟩ = some (.slice (some q4) s1.length b5) ∧ w'.cell? ⟨g3, 1, none⟩ = some (.slice (some o4) q1.length a5) ∧ w'.cell? ⟨g3, 2, none⟩ = some (.slice d5 s2.length z4) ∧ w'.cell? (q4.add (o0).toNat) = some (.int .i64 (rd s1 o0)) ∧ w'.cell? (o4.add (o0).toNat) = some (.int .i64 (rd q1 o0))) (ds := []) #[false, false, false, false, false, false, false, false, false, false, false, false, false, false, false, false] (by kernel_rfl) rfl rfl ⟨bc g0 0, bc g0 1, bc g0 2, ((HB.out.cell (World.block_lt_of_cell? w _ hw701_0)).trans hw701_0), ((HB.out.cell (World.block_lt_of_cell? w _ hw702_0)).trans hw702_0)⟩ (fun hHeld => ?_); refine with_tabW laws_pairsOf.tab5 laws_pairsOf.bits5 (fun HT_ HW_ => ?_)
     generalize wr.drew = w10 at m0 g0 HB m1 j1 hHeld ⊢
     refine pu 0 20 (tf 1 15) ?_
     refine pu 1 21 (tf 2 14) ?_
     refine pu 3 23 #[T_,T_,F_,T_,F_,F_,F_,F_,F_,F_,F_,F_,F_,F_,F_,F_] ?_
     refine pu 7 27 #[T_,T_,F_,T_,F_,F_,F_,T_,F_,F_,F_,F_,F_,F_,F_,F_] ?_
     refine pu 9 29 #[T_,T_,F_,T_,F_,F_,F_,T_,F_,T_,F_,F_,F_,F_,F_,F_] ?_
     refine tk 2 22 #[T_,T_,T_,T_,F_,F_,F_,T_,F_,T_,F_,F_,F_,F_,F_,F_] hHeld ?_
     refine pu 4 24 #[T_,T_,T_,T_,T_,F_,F_,T_,F_,T_,F_,F_,F_,F_,F_,F_] ?_
     refine tk 5 25 #[T_,T_,T_,T_,T_,T_,F_,T_,F_,T_,F_,F_,F_,F_,F_,F_] hHeld ?_
     refine pu 6 26 #[T_,T_,T_,T_,T_,T_,T_,T_,F_,T_,F_,F_,F_,F_,F_,F_] ?_
     refine tk 8 28 (tf 10 6) hHeld ?_
     refine pu 10 30 (tf 11 5) ?_
     refine tk 11 31 (tf 12 4) hHeld ?_
     refine pu 12 32 (tf 13 3) ?_
     refine on 13 33 (tf 14 2) (fun K hK => ?_)
     refine value_ (w1 := ?_) (v := ?_) (by rfl) rfl ?_ ?_
     rotate_left 2
     ·go_simp
      constructor
      ·rfl
      ·rfl
     refine hK.out _ _ ⟨(blk_cell (blk_alloc g0.out _) 0).trans rfl, (blk_cell (blk_alloc g0.out _) 1).trans rfl, (blk_cell (blk_alloc g0.out _) 2).trans rfl, (World.cell?_alloc_lt _ _ _ (World.block_lt_of_cell? _ _ (((HB.out.cell (World.block_lt_of_cell? w _ hw701_0)).trans hw701_0)))).trans (((HB.out.cell (World.block_lt_of_cell? w _ hw701_0)).trans hw701_0)), (World.cell?_alloc_lt _ _ _ (World.block_lt_of_cell? _ _ (((HB.out.cell (World.block_lt_of_cell? w _ hw702_0)).trans hw702_0)))).trans (((HB.out.cell (World.block_lt_of_cell? w _ hw702_0)).trans hw702_0))⟩ (fun hHeld => ?_)
     clear hK K
     refine nm 33 ?_
     refine on 14 34 (tf 15 1) (fun K hK => ?_)
     refine Kd.R_append_step (Kd.int .i64) (w0 := w) w.heap.size (by rfl) (.tmp 20) (.tmp 33) 22 3 (.int .i64 0) 8 rfl Try.underlying22 info3 rfl (by decide) (by omega) u3 z1 (wrap64 ((wrap64 ((rd s1 o0) * 1000)) + (rd q1 o0))) [.int .i64 (wrap64 ((wrap64 ((rd s1 o0) * 1000)) + (rd q1 o0)))] (fun _ => True) (fun _ => False) rfl rfl ?aP (fun _ hk => hk.elim) ?aF ?aO ?aB ?aS ?aL ?_
     (case aP => exact rfl)
     (case aB => exact bl)
     (case aF => exact (fun _ _ => trivial))
     (case aO => exact (up m0.out))
     (case aS => exact (below_size bl))
     (case aL => have := LMc8.out; omega)
     intro qa2 w11 ho hb hg hat
     rw [← j8.out] at ho
     replace g0 := mk (blk_grown (g := g3) (o := .cells #[.slice (some q4) s1.length b5, .slice (some o4) q1.length a5, .slice d5 s2.length z4] 29 (0, 0)) (ub g0.out) hg (Kd.R_ne m0.out g0.out (by decide)))
     replace HB := mk hb
     have v8 := mk ho
     clear m0
     clear ho hb hg hat
     refine hK.out _ _ ⟨bc g0 0, bc g0 1, bc g0 2, ((HB.out.cell (World.block_lt_of_cell? w _ hw701_0)).trans hw701_0), ((HB.out.cell (World.block_lt_of_cell? w _ hw702_0)).trans hw702_0)⟩ (fun hHeld => ?_)
     clear hK K
     refine nm 34 ?_
     refine pu 15 3 (tf 16 0) ?_
     refine done_ (done_of HT_.out (by kernel_rfl)) ?_
     try go_wp2
     go_roundg k1
     case measure => have := HK1.out; omega
     case rel => exact ⟨(a9), (wrap64 (o0 + 1)), (by first | rfl | (simp; done) | (simp [*]; done)), H', ⟨by have := HK1.out; omega⟩, ⟨up v8.out⟩, ⟨ub g0.out⟩, ⟨bl⟩⟩
    ·have z5 : decide (o0 < (q1.length : Int)) = false := decide_eq_false c6
     clear c6
     revert H; refine bo ?_; rintro g6 A12 H
     obtain rfl := Option.some.inj H
     obtain ⟨s7, q7, o7, a7, z6, y6⟩ := bz3 g0
     obtain ⟨a3, v2, a8⟩ := Kd.R_slice m0.out
     subst a8
     go_wp2_with (first | ((with_reducible refine gate_callee (f := 51) rfl ?_); refine gl (some 36) rfl Try.func51 #[.slice a3 z1.length v2] ?_; (with_reducible refine (spec_SortInts.calls k1 _ _ z1 g6 _ ?side1 ?side2 A12.out).mono ?_); (case side1 => exact ra m0); (case side2 => exact rb m0); rintro e w15 ⟨oa2, rfl, ho0, hb⟩; refine ⟨_, rfl, ?_⟩; have s8 := lo (nw ho0 m0); replace m0 := el m0 ho0 hb; replace g0 := wb g0 hb; replace HB := wh hb; (try clear hb ho0)))
     go_ret
     exact ⟨_, rx, by exact up (Kd.R_mono s8.out (fun _ hk => trivial)), bl⟩
   ·have da1 : decide (o0 < (s1.length : Int)) = false := decide_eq_false c5
    clear c5
    revert H; refine bo ?_; rintro d6 A16 H
    obtain rfl := Option.some.inj H
    obtain ⟨m7, k7, j7, v6, s6, q6⟩ := bz3 g0
    obtain ⟨da2, aa1, qa0⟩ := Kd.R_slice m0.out
    subst qa0
    go_wp2_with (first | ((with_reducible refine gate_callee (f := 51) rfl ?_); refine gl (some 36) rfl Try.func51 #[.slice da2 z1.length aa1] ?_; (with_reducible refine (spec_SortInts.calls k1 _ _ z1 d6 _ ?side1 ?side2 A16.out).mono ?_); (case side1 => exact ra m0); (case side2 => exact rb m0); rintro e w19 ⟨ma2, rfl, ho0, hb⟩; refine ⟨_, rfl, ?_⟩; have q8 := lo (nw ho0 m0); replace m0 := el m0 ho0 hb; replace g0 := wb g0 hb; replace HB := wh hb; (try clear hb ho0)))
    go_ret
    exact ⟨_, rx, by exact up (Kd.R_mono q8.out (fun _ hk => trivial)), bl⟩

/-! ### spec_DrawRippleDelete: function 22 -/
def spec_DrawRippleDelete.f (k : Nat) (l0 : List Int) : Option (List Int × List Int × (List (S50)) × Int) := (spec_l1New.f k l0).bind fun v1 => ((spec_l4Any.f k v1.1 v1.2.1 v1.2.2).bind fun o1 => ((spec_l1Below.f v1.1 o1.2.2.2.1 o1.2.2.2.2 12).bind fun m4 => (some (o1.1, o1.2.1, o1.2.2.1, wrap64 (m4.1 - 1)))))
theorem spec_DrawRippleDelete.mono : ∀ a0 k, LeO (spec_DrawRippleDelete.f k a0) (spec_DrawRippleDelete.f (k + 1) a0) := by
 intro a0 k
 unfold spec_DrawRippleDelete.f
 exact mo
instance spec_DrawRippleDelete.mi (a0 k) : LeC (spec_DrawRippleDelete.f k a0) (spec_DrawRippleDelete.f (k + 1) a0) := ⟨spec_DrawRippleDelete.mono a0 k⟩
set_option maxHeartbeats 8000000 in
set_option maxRecDepth 100000 in
theorem spec_DrawRippleDelete.calls (k : Nat) (A0 : Option Addr) (c0 : Nat) (l0 : List Int) (r1 : List Int) (r2 : List Int) (r3 : List (S50)) (r4 : Int) (w : World) (hr0 : Kd.C (Kd.int .u8) w A0 l0.length l0) (hc0 : l0.length ≤ c0) (h : spec_DrawRippleDelete.f k l0 = some (r1, r2, r3, r4)) :
  Calls Try.prog 22 #[.slice A0 l0.length c0] w fun e w' => ∃ v0_ v1_ v2_ : Value, e = .returned (.tuple #[.agg #[v0_, v1_, v2_], .int .i64 r4]) ∧ Kd.R (Kd.int .i64) 3 w' w.heap.size (fun k_ => some k_ ≠ (v1_ : Value).ownBlock) v0_ r1 ∧ Kd.R (Kd.int .i64) 3 w' w.heap.size (fun k_ => some k_ ≠ (v0_ : Value).ownBlock) v1_ r2 ∧ Kd.R k50 50 w' w.heap.size (fun _ => True) v2_ r3 ∧ Below w.heap.size w w' := by
 have hu29 := Try.underlying29
 have HR0 := mk hr0
 have HC0 := mk hc0
 clear hr0 hc0
 have HB := mk (Below.refl w.heap.size w)
 have H : ((spec_l1New.f k l0).bind fun v1 => ((spec_l4Any.f k v1.1 v1.2.1 v1.2.2).bind fun o1 => ((spec_l1Below.f v1.1 o1.2.2.2.1 o1.2.2.2.2 12).bind fun m4 => (some (o1.1, o1.2.1, o1.2.2.1, wrap64 (m4.1 - 1)))))) = some (r1, r2, r3, r4) := h
 clear h
 revert H; refine bo ?_; rintro ⟨m3, j9, g9⟩ A2 H
 dsimp only at H
 revert H; refine bo ?_; rintro ⟨j2, g2, q2, q3, o3⟩ A3 H
 dsimp only at H
 revert H; refine bo ?_; rintro ⟨da0, ba0, aa0⟩ A4 H
 dsimp only at H
 simp only [Option.some.injEq, Prod.mk.injEq] at H
 obtain ⟨rfl, rfl, rfl, rfl⟩ := H
 go_enter Try.func22, Try.ntmps22
 try go_wp2_with (first | ((with_reducible refine gate_dst (N := 2) rfl ?_); refine bx 2 #[.slice none 0 0, .slice none 0 0, .slice none 0 0] 29 ?_; intro k0 hg w5 hbox hb; have j0 := mk hbox; have aa2 := wg hg; replace HB := wh hb; clear hb hbox hg) | ((with_reducible refine gate_callee (f := 42) rfl ?_); refine gl (some 7) rfl Try.func42 #[.slice A0 l0.length c0] ?_; (with_reducible refine (spec_l1New.calls k _ _ l0 m3 j9 g9 w _ ?side1 ?side2 ?side3 A2.out).mono ?_); (case side1 => exact bl); (case side2 => exact HR0.out); (case side3 => exact HC0.out); rintro e w6 ⟨g716, rfl, hi, hb, hb2⟩; refine ⟨_, rfl, ?_⟩; replace HB := mk hb; have HI716 := mk hi; have q5 := mk (IsS80.ne_blk hi (blk_below (g := k0) (o := .cells #[.slice none 0 0, .slice none 0 0, .slice none 0 0] 29 (0, 0)) (ub j0.out) hb2) (by decide)); have d2 := mk (Ne.symm (IsS80.ne_blk hi (blk_below (g := k0) (o := .cells #[.slice none 0 0, .slice none 0 0, .slice none 0 0] 29 (0, 0)) (ub j0.out) hb2) (by decide))); replace j0 := mk (blk_below (g := k0) (o := .cells #[.slice none 0 0, .slice none 0 0, .slice none 0 0] 29 (0, 0)) (ub j0.out) hb2); (try clear hb hb2 hi)) | ((with_reducible refine gate_callee (f := 43) rfl ?_); refine gl (some 9) rfl Try.func43 #[.pointer (some ⟨g716, 0, none⟩)] ?_; (with_reducible refine (spec_l4Any.calls k g716 m3 j9 g9 j2 g2 q2 q3 o3 w _ ?side1 ?side2 A3.out).mono ?_); (case side1 => exact is716); (case side2 => exact bm); rintro e w7 ⟨ka2, ja2, ga2, rfl, ho0, ho1, ho2, hi, hb, hk⟩; refine ⟨_, rfl, ?_⟩; replace j0 := mk (KeepBut.blk hk (g' := k0) (o := .cells #[.slice none 0 0, .slice none 0 0, .slice none 0 0] 29 (0, 0)) (ub j0.out) d2.out (by simp)); have d1 := mk (Kd.R_lower ho0 (below_size bm)); have b1 := mk (Kd.R_lower ho1 (below_size bm)); have z0 := mk (Kd.R_lower ho2 (below_size bm)); replace HB := mk hb; replace HI716 := mk hi; (try clear hb hk hi ho0 ho1 ho2)) | ((with_reducible refine gate_dst (N := 5) rfl ?_); refine bx 5 #[.slice none 0 0, .slice none 0 0, .slice none 0 0] 29 ?_; intro d0 hg w8 hbox hb; replace d1 := ro d1 hb; replace b1 := ro b1 hb; replace z0 := ro z0 hb; have q0 := mk hbox; have ya1 := mk ((by rw [hg]; exact (below_size bm) : w.heap.size ≤ d0)); have za1 := mk ((by rw [hg]; exact (below_size bm) : w.heap.size ≤ d0)); replace HB := bstp HB hb; have s0 := nl j0 hg; have b0 := nr j0 hg; replace j0 := wb j0 hb; have j3 := mk ((by rw [hg]; exact Nat.ne_of_lt (IsS80.lt (show IsS80 w _ g716 m3 q3 o3 from is716)) : g716 ≠ d0)); have b2 := mk ((by rw [hg]; exact Nat.ne_of_gt (IsS80.lt (show IsS80 w _ g716 m3 q3 o3 from is716)) : d0 ≠ g716)); replace HI716 := mk (IsS80.below is716 hb); clear hb hbox hg; obtain ⟨Ao9, co9, eo9⟩ := Kd.R_slice d1.out; subst eo9; have ma0 := b0.out; have ja0 := s0.out; have ka0 := b2.out; have ga0 := j3.out; obtain ⟨z7, y7, v7, g7, d7, b7⟩ := bz3 q0; obtain ⟨d3, b3, va0⟩ := Kd.R_slice b1.out; subst va0; obtain ⟨a3, v2, a8⟩ := Kd.R_slice z0.out; subst a8))
 have n0_ : Aside0 (Kd.R (Kd.int .i64) 3 (((w8.setCell ⟨d0, 0, none⟩ (.slice Ao9 j2.length co9)).setCell ⟨d0, 1, none⟩ (.slice d3 g2.length b3)).setCell ⟨d0, 2, none⟩ (.slice a3 q2.length v2)) w.heap.size (fun k_ => some k_ ≠ (.slice d3 g2.length b3 : Value).ownBlock) (.slice Ao9 j2.length co9) j2) := ⟨(by exact rm (rs1 d1 q0))⟩
 have n1_ : Aside0 (Kd.R (Kd.int .i64) 3 (((w8.setCell ⟨d0, 0, none⟩ (.slice Ao9 j2.length co9)).setCell ⟨d0, 1, none⟩ (.slice d3 g2.length b3)).setCell ⟨d0, 2, none⟩ (.slice a3 q2.length v2)) w.heap.size (fun k_ => some k_ ≠ (.slice Ao9 j2.length co9 : Value).ownBlock) (.slice d3 g2.length b3) g2) := ⟨(by exact rm (rs1 b1 q0))⟩
 have n2_ : Aside0 (Kd.R k50 50 (((w8.setCell ⟨d0, 0, none⟩ (.slice Ao9 j2.length co9)).setCell ⟨d0, 1, none⟩ (.slice d3 g2.length b3)).setCell ⟨d0, 2, none⟩ (.slice a3 q2.length v2)) w.heap.size (fun _ => True) (.slice a3 q2.length v2) q2) := ⟨(by exact rm (rs1 z0 q0))⟩
 have n3_ : Aside0 ((((w8.setCell ⟨d0, 0, none⟩ (.slice Ao9 j2.length co9)).setCell ⟨d0, 1, none⟩ (.slice d3 g2.length b3)).setCell ⟨d0, 2, none⟩ (.slice a3 q2.length v2)).heap[k0]? = some (.cells #[.slice none 0 0, .slice none 0 0, .slice none 0 0] 29 (0, 0))) := ⟨bq⟩
 have n4_ : Aside0 ((((w8.setCell ⟨d0, 0, none⟩ (.slice Ao9 j2.length co9)).setCell ⟨d0, 1, none⟩ (.slice d3 g2.length b3)).setCell ⟨d0, 2, none⟩ (.slice a3 q2.length v2)).heap[d0]? = some (.cells #[.slice Ao9 j2.length co9, .slice d3 g2.length b3, .slice a3 q2.length v2] 29 (0, 0))) := ⟨bq⟩
 have n5_ : Aside0 (IsS80 w (((w8.setCell ⟨d0, 0, none⟩ (.slice Ao9 j2.length co9)).setCell ⟨d0, 1, none⟩ (.slice d3 g2.length b3)).setCell ⟨d0, 2, none⟩ (.slice a3 q2.length v2)) g716 m3 q3 o3) := ⟨is716⟩
 have n6_ : Aside0 (Below w.heap.size w (((w8.setCell ⟨d0, 0, none⟩ (.slice Ao9 j2.length co9)).setCell ⟨d0, 1, none⟩ (.slice d3 g2.length b3)).setCell ⟨d0, 2, none⟩ (.slice a3 q2.length v2))) := ⟨bm⟩
 (try clear d1)
 (try clear b1)
 (try clear z0)
 (try clear j0)
 (try clear q0)
 (try clear HI716)
 (try clear HB)
 generalize (((w8.setCell ⟨d0, 0, none⟩ (.slice Ao9 j2.length co9)).setCell ⟨d0, 1, none⟩ (.slice d3 g2.length b3)).setCell ⟨d0, 2, none⟩ (.slice a3 q2.length v2)) = w15 at n0_ n1_ n2_ n3_ n4_ n5_ n6_ ⊢
 have d1 := n0_
 have b1 := n1_
 have z0 := n2_
 have j0 := n3_
 have q0 := n4_
 have HI716 := n5_
 have HB := n6_
 clear n0_ n1_ n2_ n3_ n4_ n5_ n6_
 replace d1 := mk (Kd.R_drew d1.out)
 replace b1 := mk (Kd.R_drew b1.out)
 replace z0 := mk (Kd.R_drew z0.out)
 replace j0 := wd j0
 replace q0 := wd q0
 replace HI716 := mk (IsS80.drew HI716.out)
 replace HB := mk (below_drew1 HB.out)
 refine start_ (n := 6) (S := fun w' => w'.cell? ⟨d0, 0, none⟩ = some (.slice Ao9 j2.length co9) ∧ w'.cell? ⟨d0, 1, none⟩ = some (.slice d3 g2.length b3) ∧ w'.cell? ⟨d0, 2, none⟩ = some (.slice a3 q2.length v2)) (ds := []) #[false, false, false, false, false, false] (by kernel_rfl) rfl rfl ⟨bc q0 0, bc q0 1, bc q0 2⟩ (fun hHeld => ?_)
 generalize w15.drew = w16 at d1 b1 z0 j0 q0 HI716 HB hHeld ⊢
 refine pu 1 11 #[F_,T_,F_,F_,F_,F_] ?_
 refine tk 0 10 (tf 2 4) hHeld ?_
 refine on 2 12 (tf 3 3) (fun K hK => ?_)
 refine gs Try.func52 #[.pointer (some ⟨g716, 0, none⟩), .int .i64 12] ?_
 with_reducible refine (spec_l1Below.calls g716 m3 q3 o3 12 da0 ba0 aa0 w _ ?side1 ?side2 A4.out).mono ?_
 (case side1 => exact is716)
 (case side2 => exact bm)
 rintro e w17 ⟨rfl, hi, hb, hk⟩
 refine ⟨_, rfl, ?_⟩
 replace j0 := mk (KeepBut.blk hk (g' := k0) (o := .cells #[.slice none 0 0, .slice none 0 0, .slice none 0 0] 29 (0, 0)) (ub j0.out) d2.out (by simp))
 replace d1 := kp (IsS80.apart (show IsS80 w _ g716 m3 q3 o3 from is716) (up d1.out) (by decide)) hk
 replace b1 := kp (IsS80.apart (show IsS80 w _ g716 m3 q3 o3 from is716) (up b1.out) (by decide)) hk
 replace z0 := kp (IsS80.apart (show IsS80 w _ g716 m3 q3 o3 from is716) (up z0.out) (by decide)) hk
 replace q0 := mk (KeepBut.blk hk (g' := d0) (o := .cells #[.slice Ao9 j2.length co9, .slice d3 g2.length b3, .slice a3 q2.length v2] 29 (0, 0)) (ub q0.out) b2.out (by simp))
 replace HB := mk hb
 replace HI716 := mk hi
 (try clear hb)
 (try clear hb2)
 (try clear hk)
 (try clear hi)
 refine hK.out _ _ ⟨bc q0 0, bc q0 1, bc q0 2⟩ (fun hHeld => ?_)
 clear hK K
 refine nm 12 ?_
 refine pu 3 13 (tf 4 2) ?_
 refine one_ (i := 4) (N := none) #[true, true, true, true, true, false] rfl rfl (by kernel_rfl) (by decide) (fun K hK => ?_)
 have hs18 : w17.cell? ⟨k0, 0, none⟩ = some (.slice none 0 0) := (blk_cell j0.out 0).trans rfl
 have hfs18 := blk_frozen j0.out 0
 have hns18_1 := b0.out
 have hms18_1 := s0.out
 have hs19 : w17.cell? ⟨k0, 1, none⟩ = some (.slice none 0 0) := (blk_cell j0.out 1).trans rfl
 have hfs19 := blk_frozen j0.out 1
 have hns19_1 := b0.out
 have hms19_1 := s0.out
 have hs20 : w17.cell? ⟨k0, 2, none⟩ = some (.slice none 0 0) := (blk_cell j0.out 2).trans rfl
 have hfs20 := blk_frozen j0.out 2
 have hns20_1 := b0.out
 have hms20_1 := s0.out
 refine skip_ (w1 := ?_) (by rfl) rfl ?_ ?_
 rotate_left
 ·go_simp
  rfl
 refine hK.out _ _ ⟨((cell_far (p := ⟨k0, _, none⟩) b0.out _).trans (((cell_far (p := ⟨k0, _, none⟩) b0.out _).trans (((cell_far (p := ⟨k0, _, none⟩) b0.out _).trans (hHeld.1)))))), ((cell_far (p := ⟨k0, _, none⟩) b0.out _).trans (((cell_far (p := ⟨k0, _, none⟩) b0.out _).trans (((cell_far (p := ⟨k0, _, none⟩) b0.out _).trans (hHeld.2.1)))))), ((cell_far (p := ⟨k0, _, none⟩) b0.out _).trans (((cell_far (p := ⟨k0, _, none⟩) b0.out _).trans (((cell_far (p := ⟨k0, _, none⟩) b0.out _).trans (hHeld.2.2))))))⟩ (fun hHeld => ?_)
 clear hK K
 refine pu 5 3 (tf 6 0) ?_
 refine done_ (by kernel_rfl) ?_
 try go_wp2
 refine bodyPost_ret (results_ct rfl _ _ k0 29 #[.slice Ao9 j2.length co9, .slice d3 g2.length b3, .slice a3 q2.length v2] (0, 0) _ rfl bq Try.underlying29 rfl (by kernel_rfl)) rfl ?_
 exact ⟨_, _, _, rx, (by exact rm (rs1 d1 j0)), (by exact rm (rs1 b1 j0)), (by exact rm (rs1 z0 j0)), bm⟩

end Go.Proofs.Ytlikcmonejefoab.PFnRipples
