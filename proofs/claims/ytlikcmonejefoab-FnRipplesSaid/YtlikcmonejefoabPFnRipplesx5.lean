-- printed by a program of this session, a turned copy of the print of the kit
import Derived.Test.YtlikcmonejefoabSr
import Derived.Test.YtlikcmonejefoabPFnRipplesx0
namespace Go.Proofs.Ytlikcmonejefoab.PFnRipples
open Go.RowKit Go.Proofs.YtlikcmonejefoabW.PrintWords Go.Proofs.YtlikcmonejefoabW.PrintLast Go.Proofs.YtlikcmonejefoabW.PrintMore Go.Proofs.Ytlikcmonejefoab.Sq
attribute [local go_sem] max2_int min2_int max_two min_two max_three min_three max_four min_four Giv.cell_twice   -- for this text's walks alone
set_option linter.unusedVariables false
set_option linter.unusedSimpArgs false

/-! ### spec_l4Copy: function 28 -/
def spec_l4Copy.f (v0 : List Int) (s0 : List Int) (q0 : List (S50)) : Option (List Int × List Int × (List (S50))) := (some (([] : List Int) : List Int)).bind fun g2 => (if g2.length + v0.length < 17592186044416 then ((some (([] : List Int) : List Int)).bind fun y1 => (if y1.length + s0.length < 17592186044416 then ((some (([] : List (S50)) : List (S50))).bind fun q1 => (if q1.length + q0.length < 8796093022208 then (some ((g2 ++ v0), (y1 ++ s0), (q1 ++ q0))) else (none))) else (none))) else (none))
def spec_l4Copy.T1 : Bool × List (List Nat × List Nat) := (true, [([], []), ([], []), ([1], [1]), ([0, 2], [0, 2]), ([], []), ([], []), ([5], [5]), ([4, 6, 3], [4, 6]), ([], []), ([], []), ([9], [9]), ([8, 10, 7], [8, 10]), ([3, 7, 11], [3, 7, 11]), ([12, 11, 0, 1, 2, 3, 4, 5, 6, 7, 8, 9, 10, 11, 12], [12])])
def spec_l4Copy.B1 : List Nat := [0, 0, 2, 7, 0, 0, 32, 127, 0, 0, 512, 2047, 4095, 8191]
theorem spec_l4Copy.tab1 : rtab .any (opsOf Try.f28 1) = spec_l4Copy.T1 := by kernel_rfl
theorem spec_l4Copy.bits1 : waitsOk spec_l4Copy.T1.2 spec_l4Copy.B1 = true := by kernel_rfl
set_option maxHeartbeats 8000000 in
set_option maxRecDepth 100000 in
theorem spec_l4Copy.calls (j1 : Option Addr) (b1 : Nat) (v0 : List Int) (g1 : Option Addr) (a1 : Nat) (s0 : List Int) (d1 : Option Addr) (z0 : Nat) (q0 : List (S50)) (r1 : List Int) (r2 : List Int) (r3 : List (S50)) (w : World) (d3 : Kd.C (Kd.int .i64) w j1 v0.length v0) (hc0_0 : v0.length ≤ b1) (b3 : Kd.C (Kd.int .i64) w g1 s0.length s0) (hc0_1 : s0.length ≤ a1) (a3 : Kd.C k50 w d1 q0.length q0) (hc0_2 : q0.length ≤ z0) (h : spec_l4Copy.f v0 s0 q0 = some (r1, r2, r3)) :
  Calls Try.prog 28 #[.agg #[.slice j1 v0.length b1, .slice g1 s0.length a1, .slice d1 q0.length z0]] w fun e w' => ∃ v0_ v1_ v2_ : Value, e = .returned (.agg #[v0_, v1_, v2_]) ∧ Kd.R (Kd.int .i64) 3 w' w.heap.size (fun k_ => some k_ ≠ (v1_ : Value).ownBlock) v0_ r1 ∧ Kd.R (Kd.int .i64) 3 w' w.heap.size (fun k_ => some k_ ≠ (v0_ : Value).ownBlock) v1_ r2 ∧ Kd.R k50 50 w' w.heap.size (fun _ => True) v2_ r3 ∧ Below w.heap.size w w' := by
 have hu29 := Try.underlying29
 have y2 := mk d3
 have k4 := mk hc0_0
 clear d3 hc0_0
 have k3 := mk b3
 have j4 := mk hc0_1
 clear b3 hc0_1
 have q3 := mk a3
 have g4 := mk hc0_2
 clear a3 hc0_2
 have HB := mk (Below.refl w.heap.size w)
 have H : ((some (([] : List Int) : List Int)).bind fun g2 => (if g2.length + v0.length < 17592186044416 then ((some (([] : List Int) : List Int)).bind fun y1 => (if y1.length + s0.length < 17592186044416 then ((some (([] : List (S50)) : List (S50))).bind fun q1 => (if q1.length + q0.length < 8796093022208 then (some ((g2 ++ v0), (y1 ++ s0), (q1 ++ q0))) else (none))) else (none))) else (none))) = some (r1, r2, r3) := h
 clear h
 obtain ⟨g2, hy_⟩ : ∃ y_ : List Int, y_ = (([] : List Int)) := ⟨_, rfl⟩
 replace H : (if g2.length + v0.length < 17592186044416 then ((some (([] : List Int) : List Int)).bind fun y1 => (if y1.length + s0.length < 17592186044416 then ((some (([] : List (S50)) : List (S50))).bind fun q1 => (if q1.length + q0.length < 8796093022208 then (some ((g2 ++ v0), (y1 ++ s0), (q1 ++ q0))) else (none))) else (none))) else (none)) = some (r1, r2, r3) := hw
 have m2 := mk hy_
 clear hy_
 revert H; refine ca fun c2 H => ?_
 have LMc2 := mk c2
 clear c2
 obtain ⟨k2, hy_⟩ : ∃ y_ : List Int, y_ = (g2 ++ v0) := ⟨_, rfl⟩
 replace H : ((some (([] : List Int) : List Int)).bind fun y1 => (if y1.length + s0.length < 17592186044416 then ((some (([] : List (S50)) : List (S50))).bind fun q1 => (if q1.length + q0.length < 8796093022208 then (some (k2, (y1 ++ s0), (q1 ++ q0))) else (none))) else (none))) = some (r1, r2, r3) := hw
 have v2 := mk hy_
 clear hy_
 obtain ⟨y1, hy_⟩ : ∃ y_ : List Int, y_ = (([] : List Int)) := ⟨_, rfl⟩
 replace H : (if y1.length + s0.length < 17592186044416 then ((some (([] : List (S50)) : List (S50))).bind fun q1 => (if q1.length + q0.length < 8796093022208 then (some (k2, (y1 ++ s0), (q1 ++ q0))) else (none))) else (none)) = some (r1, r2, r3) := hw
 have a2 := mk hy_
 clear hy_
 revert H; refine ca fun c3 H => ?_
 have LMc3 := mk c3
 clear c3
 obtain ⟨z2, hy_⟩ : ∃ y_ : List Int, y_ = (y1 ++ s0) := ⟨_, rfl⟩
 replace H : ((some (([] : List (S50)) : List (S50))).bind fun q1 => (if q1.length + q0.length < 8796093022208 then (some (k2, z2, (q1 ++ q0))) else (none))) = some (r1, r2, r3) := hw
 have j3 := mk hy_
 clear hy_
 obtain ⟨q1, hy_⟩ : ∃ y_ : List (S50), y_ = (([] : List (S50))) := ⟨_, rfl⟩
 replace H : (if q1.length + q0.length < 8796093022208 then (some (k2, z2, (q1 ++ q0))) else (none)) = some (r1, r2, r3) := hw
 have z1 := mk hy_
 clear hy_
 revert H; refine ca fun c4 H => ?_
 have LMc4 := mk c4
 clear c4
 obtain ⟨s3, hy_⟩ : ∃ y_ : List (S50), y_ = (q1 ++ q0) := ⟨_, rfl⟩
 replace H : (some (k2, z2, s3)) = some (r1, r2, r3) := hw
 have o3 := mk hy_
 clear hy_
 simp only [Option.some.injEq, Prod.mk.injEq] at H
 obtain ⟨rfl, rfl, rfl⟩ := H
 go_enter Try.func28, Try.ntmps28
 try go_wp2_with (first | ((with_reducible refine gate_dst (N := 1) rfl ?_); refine bx 1 #[.slice j1 v0.length b1, .slice g1 s0.length a1, .slice d1 q0.length z0] 29 ?_; intro d0 hg w5 hbox hb; have a0 := mk hbox; have o4 := wg hg; replace HB := wh hb; clear hb hbox hg) | ((with_reducible refine gate_dst (N := 2) rfl ?_); refine bx 2 #[.slice none 0 0, .slice none 0 0, .slice none 0 0] 29 ?_; intro k0 hg w6 hbox hb; have b0 := mk hbox; have m4 := wg hg; replace HB := wh hb; have y0 := nl a0 hg; have d2 := nr a0 hg; replace a0 := wb a0 hb; clear hb hbox hg))
 replace a0 := wd a0
 replace b0 := wd b0
 replace HB := mk (below_drew1 HB.out)
 refine start_ (n := 14) (S := fun w' => w'.cell? ⟨d0, 0, none⟩ = some (.slice j1 v0.length b1) ∧ w'.cell? ⟨d0, 1, none⟩ = some (.slice g1 s0.length a1) ∧ w'.cell? ⟨d0, 2, none⟩ = some (.slice d1 q0.length z0)) (ds := []) #[F_, F_, F_, F_, F_, F_, F_, F_, F_, F_, F_, F_, F_, F_] (by kernel_rfl) rfl rfl ⟨bc a0 0, bc a0 1, bc a0 2⟩ (fun hHeld => ?_); refine with_tabW spec_l4Copy.tab1 spec_l4Copy.bits1 (fun HT_ HW_ => ?_)
 generalize w6.drew = w7 at a0 b0 HB hHeld ⊢
 refine pu 1 4 #[F_,T_,F_,F_,F_,F_,F_,F_,F_,F_,F_,F_,F_,F_] ?_
 refine pu 5 8 #[F_,T_,F_,F_,F_,T_,F_,F_,F_,F_,F_,F_,F_,F_] ?_
 refine pu 9 12 #[F_,T_,F_,F_,F_,T_,F_,F_,F_,T_,F_,F_,F_,F_] ?_
 refine tk 2 5 #[F_,T_,T_,F_,F_,T_,F_,F_,F_,T_,F_,F_,F_,F_] hHeld ?_
 refine tk 6 9 #[F_,T_,T_,F_,F_,T_,T_,F_,F_,T_,F_,F_,F_,F_] hHeld ?_
 refine tk 10 13 #[F_,T_,T_,F_,F_,T_,T_,F_,F_,T_,T_,F_,F_,F_] hHeld ?_
 refine join_ (σ := Value × Value × Value × Value × Value) 3 #[T_, T_, T_, T_, T_, T_, T_, T_, T_, T_, T_, F_, F_, F_] (fun s_ => [(3, s_.1), (6, s_.2.1), (7, s_.2.2.1), (10, s_.2.2.2.1), (11, s_.2.2.2.2)]) (fun s_ w' => (w'.cell? ⟨d0, 0, none⟩ = some (.slice j1 v0.length b1) ∧ w'.cell? ⟨d0, 1, none⟩ = some (.slice g1 s0.length a1) ∧ w'.cell? ⟨d0, 2, none⟩ = some (.slice d1 q0.length z0)) ∧ (Kd.R (Kd.int .i64) 3 w' w.heap.size (fun k_ => some k_ ≠ (s_.2.2.2.1 : Value).ownBlock) s_.2.1 k2) ∧ (Kd.R (Kd.int .i64) 3 w' w.heap.size (fun k_ => some k_ ≠ (s_.2.1 : Value).ownBlock) s_.2.2.2.1 z2) ∧ (Kd.R k50 50 w' w.heap.size (fun _ => True) s_.2.2.2.2 q1) ∧ (w'.heap[d0]? = some (.cells #[.slice j1 v0.length b1, .slice g1 s0.length a1, .slice d1 q0.length z0] 29 (0, 0))) ∧ (w'.heap[k0]? = some (.cells #[.slice none 0 0, .slice none 0 0, .slice none 0 0] 29 (0, 0))) ∧ (Below w.heap.size w w')) ?_ ?_
 rotate_left
 ·intro hJ0_3_4_7_8
  refine join_ (σ := Value × Value × Value × Value) 4 #[T_, T_, T_, T_, T_, T_, T_, T_, F_, T_, T_, F_, F_, F_] (fun s_ => [(3, s_.1), (6, s_.2.1), (7, s_.2.2.1), (10, s_.2.2.2)]) (fun s_ w' => (w'.cell? ⟨d0, 0, none⟩ = some (.slice j1 v0.length b1) ∧ w'.cell? ⟨d0, 1, none⟩ = some (.slice g1 s0.length a1) ∧ w'.cell? ⟨d0, 2, none⟩ = some (.slice d1 q0.length z0)) ∧ (Kd.R (Kd.int .i64) 3 w' w.heap.size (fun k_ => some k_ ≠ (s_.2.2.2 : Value).ownBlock) s_.2.1 k2) ∧ (Kd.R (Kd.int .i64) 3 w' w.heap.size (fun k_ => some k_ ≠ (s_.2.1 : Value).ownBlock) s_.2.2.2 z2) ∧ (w'.heap[d0]? = some (.cells #[.slice j1 v0.length b1, .slice g1 s0.length a1, .slice d1 q0.length z0] 29 (0, 0))) ∧ (w'.heap[k0]? = some (.cells #[.slice none 0 0, .slice none 0 0, .slice none 0 0] 29 (0, 0))) ∧ (Below w.heap.size w w')) ?_ ?_
  rotate_left
  ·intro hJ0_3_4_7
   refine join_ (σ := Value × Value × Value × Value) 4 #[T_, T_, T_, T_, T_, T_, T_, F_, T_, T_, T_, F_, F_, F_] (fun s_ => [(3, s_.1), (6, s_.2.1), (7, s_.2.2.1), (11, s_.2.2.2)]) (fun s_ w' => (w'.cell? ⟨d0, 0, none⟩ = some (.slice j1 v0.length b1) ∧ w'.cell? ⟨d0, 1, none⟩ = some (.slice g1 s0.length a1) ∧ w'.cell? ⟨d0, 2, none⟩ = some (.slice d1 q0.length z0)) ∧ (Kd.R (Kd.int .i64) 3 w' w.heap.size (fun k_ => some k_ ≠ (s_.2.2.1 : Value).ownBlock) s_.2.1 k2) ∧ (Kd.R (Kd.int .i64) 3 w' w.heap.size (fun k_ => some k_ ≠ (s_.2.1 : Value).ownBlock) s_.2.2.1 y1) ∧ (Kd.R k50 50 w' w.heap.size (fun _ => True) s_.2.2.2 q1) ∧ (w'.heap[d0]? = some (.cells #[.slice j1 v0.length b1, .slice g1 s0.length a1, .slice d1 q0.length z0] 29 (0, 0))) ∧ (w'.heap[k0]? = some (.cells #[.slice none 0 0, .slice none 0 0, .slice none 0 0] 29 (0, 0))) ∧ (Below w.heap.size w w')) ?_ ?_
   rotate_left
   ·intro hJ0_3_4_8
    refine join_ (σ := Value × Value × Value) 5 #[T_, T_, T_, T_, T_, T_, T_, F_, F_, T_, T_, F_, F_, F_] (fun s_ => [(3, s_.1), (6, s_.2.1), (7, s_.2.2)]) (fun s_ w' => (w'.cell? ⟨d0, 0, none⟩ = some (.slice j1 v0.length b1) ∧ w'.cell? ⟨d0, 1, none⟩ = some (.slice g1 s0.length a1) ∧ w'.cell? ⟨d0, 2, none⟩ = some (.slice d1 q0.length z0)) ∧ (Kd.R (Kd.int .i64) 3 w' w.heap.size (fun k_ => some k_ ≠ (s_.2.2 : Value).ownBlock) s_.2.1 k2) ∧ (Kd.R (Kd.int .i64) 3 w' w.heap.size (fun k_ => some k_ ≠ (s_.2.1 : Value).ownBlock) s_.2.2 y1) ∧ (w'.heap[d0]? = some (.cells #[.slice j1 v0.length b1, .slice g1 s0.length a1, .slice d1 q0.length z0] 29 (0, 0))) ∧ (w'.heap[k0]? = some (.cells #[.slice none 0 0, .slice none 0 0, .slice none 0 0] 29 (0, 0))) ∧ (Below w.heap.size w w')) ?_ ?_
    rotate_left
    ·intro hJ0_3_4
     refine join_ (σ := Value × Value × Value) 5 #[T_, T_, T_, T_, F_, T_, T_, F_, T_, T_, T_, F_, F_, F_] (fun s_ => [(3, s_.1), (6, s_.2.1), (11, s_.2.2)]) (fun s_ w' => (w'.cell? ⟨d0, 0, none⟩ = some (.slice j1 v0.length b1) ∧ w'.cell? ⟨d0, 1, none⟩ = some (.slice g1 s0.length a1) ∧ w'.cell? ⟨d0, 2, none⟩ = some (.slice d1 q0.length z0)) ∧ (Kd.R (Kd.int .i64) 3 w' w.heap.size (fun _ => True) s_.2.1 k2) ∧ (Kd.R k50 50 w' w.heap.size (fun _ => True) s_.2.2 q1) ∧ (w'.heap[d0]? = some (.cells #[.slice j1 v0.length b1, .slice g1 s0.length a1, .slice d1 q0.length z0] 29 (0, 0))) ∧ (w'.heap[k0]? = some (.cells #[.slice none 0 0, .slice none 0 0, .slice none 0 0] 29 (0, 0))) ∧ (Below w.heap.size w w')) ?_ ?_
     rotate_left
     ·intro hJ0_3_8
      refine join_ (σ := Value × Value × Value) 5 #[T_, T_, T_, F_, T_, T_, T_, F_, T_, T_, T_, F_, F_, F_] (fun s_ => [(3, s_.1), (7, s_.2.1), (11, s_.2.2)]) (fun s_ w' => (w'.cell? ⟨d0, 0, none⟩ = some (.slice j1 v0.length b1) ∧ w'.cell? ⟨d0, 1, none⟩ = some (.slice g1 s0.length a1) ∧ w'.cell? ⟨d0, 2, none⟩ = some (.slice d1 q0.length z0)) ∧ (Kd.R (Kd.int .i64) 3 w' w.heap.size (fun k_ => some k_ ≠ (s_.2.1 : Value).ownBlock) s_.1 g2) ∧ (Kd.R (Kd.int .i64) 3 w' w.heap.size (fun k_ => some k_ ≠ (s_.1 : Value).ownBlock) s_.2.1 y1) ∧ (Kd.R k50 50 w' w.heap.size (fun _ => True) s_.2.2 q1) ∧ (w'.heap[d0]? = some (.cells #[.slice j1 v0.length b1, .slice g1 s0.length a1, .slice d1 q0.length z0] 29 (0, 0))) ∧ (w'.heap[k0]? = some (.cells #[.slice none 0 0, .slice none 0 0, .slice none 0 0] 29 (0, 0))) ∧ (Below w.heap.size w w')) ?_ ?_
      rotate_left
      ·intro hJ0_4_8
       refine join_ (σ := Value × Value) 6 #[T_, T_, T_, T_, F_, T_, T_, F_, F_, T_, T_, F_, F_, F_] (fun s_ => [(3, s_.1), (6, s_.2)]) (fun s_ w' => (w'.cell? ⟨d0, 0, none⟩ = some (.slice j1 v0.length b1) ∧ w'.cell? ⟨d0, 1, none⟩ = some (.slice g1 s0.length a1) ∧ w'.cell? ⟨d0, 2, none⟩ = some (.slice d1 q0.length z0)) ∧ (Kd.R (Kd.int .i64) 3 w' w.heap.size (fun _ => True) s_.2 k2) ∧ (w'.heap[d0]? = some (.cells #[.slice j1 v0.length b1, .slice g1 s0.length a1, .slice d1 q0.length z0] 29 (0, 0))) ∧ (w'.heap[k0]? = some (.cells #[.slice none 0 0, .slice none 0 0, .slice none 0 0] 29 (0, 0))) ∧ (Below w.heap.size w w')) ?_ ?_
       rotate_left
       ·intro hJ0_3
        refine join_ (σ := Value × Value) 6 #[T_, T_, T_, F_, T_, T_, T_, F_, F_, T_, T_, F_, F_, F_] (fun s_ => [(3, s_.1), (7, s_.2)]) (fun s_ w' => (w'.cell? ⟨d0, 0, none⟩ = some (.slice j1 v0.length b1) ∧ w'.cell? ⟨d0, 1, none⟩ = some (.slice g1 s0.length a1) ∧ w'.cell? ⟨d0, 2, none⟩ = some (.slice d1 q0.length z0)) ∧ (Kd.R (Kd.int .i64) 3 w' w.heap.size (fun k_ => some k_ ≠ (s_.2 : Value).ownBlock) s_.1 g2) ∧ (Kd.R (Kd.int .i64) 3 w' w.heap.size (fun k_ => some k_ ≠ (s_.1 : Value).ownBlock) s_.2 y1) ∧ (w'.heap[d0]? = some (.cells #[.slice j1 v0.length b1, .slice g1 s0.length a1, .slice d1 q0.length z0] 29 (0, 0))) ∧ (w'.heap[k0]? = some (.cells #[.slice none 0 0, .slice none 0 0, .slice none 0 0] 29 (0, 0))) ∧ (Below w.heap.size w w')) ?_ ?_
        rotate_left
        ·intro hJ0_4
         refine join_ (σ := Value × Value) 6 #[T_, T_, T_, F_, F_, T_, T_, F_, T_, T_, T_, F_, F_, F_] (fun s_ => [(3, s_.1), (11, s_.2)]) (fun s_ w' => (w'.cell? ⟨d0, 0, none⟩ = some (.slice j1 v0.length b1) ∧ w'.cell? ⟨d0, 1, none⟩ = some (.slice g1 s0.length a1) ∧ w'.cell? ⟨d0, 2, none⟩ = some (.slice d1 q0.length z0)) ∧ (Kd.R (Kd.int .i64) 3 w' w.heap.size (fun _ => True) s_.1 g2) ∧ (Kd.R k50 50 w' w.heap.size (fun _ => True) s_.2 q1) ∧ (w'.heap[d0]? = some (.cells #[.slice j1 v0.length b1, .slice g1 s0.length a1, .slice d1 q0.length z0] 29 (0, 0))) ∧ (w'.heap[k0]? = some (.cells #[.slice none 0 0, .slice none 0 0, .slice none 0 0] 29 (0, 0))) ∧ (Below w.heap.size w w')) ?_ ?_
         rotate_left
         ·intro hJ0_8
          refine join_ (σ := Value × Value) 6 #[F_, T_, T_, F_, T_, T_, T_, F_, T_, T_, T_, F_, F_, F_] (fun s_ => [(7, s_.1), (11, s_.2)]) (fun s_ w' => (w'.cell? ⟨d0, 0, none⟩ = some (.slice j1 v0.length b1) ∧ w'.cell? ⟨d0, 1, none⟩ = some (.slice g1 s0.length a1) ∧ w'.cell? ⟨d0, 2, none⟩ = some (.slice d1 q0.length z0)) ∧ (Kd.R (Kd.int .i64) 3 w' w.heap.size (fun _ => True) s_.1 y1) ∧ (Kd.R k50 50 w' w.heap.size (fun _ => True) s_.2 q1) ∧ (w'.heap[d0]? = some (.cells #[.slice j1 v0.length b1, .slice g1 s0.length a1, .slice d1 q0.length z0] 29 (0, 0))) ∧ (w'.heap[k0]? = some (.cells #[.slice none 0 0, .slice none 0 0, .slice none 0 0] 29 (0, 0))) ∧ (Below w.heap.size w w')) ?_ ?_
          rotate_left
          ·intro hJ4_8
           refine join_ (σ := Value) 7 #[T_, T_, T_, F_, F_, T_, T_, F_, F_, T_, T_, F_, F_, F_] (fun s_ => [(3, s_)]) (fun s_ w' => (w'.cell? ⟨d0, 0, none⟩ = some (.slice j1 v0.length b1) ∧ w'.cell? ⟨d0, 1, none⟩ = some (.slice g1 s0.length a1) ∧ w'.cell? ⟨d0, 2, none⟩ = some (.slice d1 q0.length z0)) ∧ (Kd.R (Kd.int .i64) 3 w' w.heap.size (fun _ => True) s_ g2) ∧ (w'.heap[d0]? = some (.cells #[.slice j1 v0.length b1, .slice g1 s0.length a1, .slice d1 q0.length z0] 29 (0, 0))) ∧ (w'.heap[k0]? = some (.cells #[.slice none 0 0, .slice none 0 0, .slice none 0 0] 29 (0, 0))) ∧ (Below w.heap.size w w')) ?_ ?_
           rotate_left
           ·intro hJ0
            refine join_ (σ := Value) 7 #[F_, T_, T_, F_, T_, T_, T_, F_, F_, T_, T_, F_, F_, F_] (fun s_ => [(7, s_)]) (fun s_ w' => (w'.cell? ⟨d0, 0, none⟩ = some (.slice j1 v0.length b1) ∧ w'.cell? ⟨d0, 1, none⟩ = some (.slice g1 s0.length a1) ∧ w'.cell? ⟨d0, 2, none⟩ = some (.slice d1 q0.length z0)) ∧ (Kd.R (Kd.int .i64) 3 w' w.heap.size (fun _ => True) s_ y1) ∧ (w'.heap[d0]? = some (.cells #[.slice j1 v0.length b1, .slice g1 s0.length a1, .slice d1 q0.length z0] 29 (0, 0))) ∧ (w'.heap[k0]? = some (.cells #[.slice none 0 0, .slice none 0 0, .slice none 0 0] 29 (0, 0))) ∧ (Below w.heap.size w w')) ?_ ?_
            rotate_left
            ·intro hJ4
             refine join_ (σ := Value) 7 #[F_, T_, T_, F_, F_, T_, T_, F_, T_, T_, T_, F_, F_, F_] (fun s_ => [(11, s_)]) (fun s_ w' => (w'.cell? ⟨d0, 0, none⟩ = some (.slice j1 v0.length b1) ∧ w'.cell? ⟨d0, 1, none⟩ = some (.slice g1 s0.length a1) ∧ w'.cell? ⟨d0, 2, none⟩ = some (.slice d1 q0.length z0)) ∧ (Kd.R k50 50 w' w.heap.size (fun _ => True) s_ q1) ∧ (w'.heap[d0]? = some (.cells #[.slice j1 v0.length b1, .slice g1 s0.length a1, .slice d1 q0.length z0] 29 (0, 0))) ∧ (w'.heap[k0]? = some (.cells #[.slice none 0 0, .slice none 0 0, .slice none 0 0] 29 (0, 0))) ∧ (Below w.heap.size w w')) ?_ ?_
             rotate_left
             ·intro hJ8
              refine three_ (i := 0) (j := 4) (k := 8) (Ni := some 3) (Nj := some 7) (Nk := some 11) #[T_, T_, T_, F_, F_, T_, T_, F_, F_, T_, T_, F_, F_, F_] #[F_, T_, T_, F_, T_, T_, T_, F_, F_, T_, T_, F_, F_, F_] #[F_, T_, T_, F_, F_, T_, T_, F_, T_, T_, T_, F_, F_, F_] rfl rfl rfl rfl rfl rfl (three_of HT_.out (by kernel_rfl)) (by decide) (by decide) (by decide) (fun K hK => ?_) (fun K hK => ?_) (fun K hK => ?_)
              ·skip
               refine Kd.R_lit_step (Kd.int .i64) _ 3 ?hg (N := 3) ?hd (xs := ([] : List Int)) (inner := []) (ok := fun _ => True) (okp := fun _ => True) ?hr ?hp (fun _ hk => hk) trivial (Below.refl _ _) (Nat.le_refl _) (by simp) ?_; (case hd => rfl); (case hg => rfl); (case hr => first | (go_simp; done) | (go_simp; rfl)); (case hp => exact (Reps.none _ _))
               intro m1 w8 ho9 hb hg_ hnew_
               clear hg_ hnew_
               (first | rw [← m2.out] at ho9 | (simp only [Int.reduceToNat] at ho9; rw [← m2.out] at ho9))
               have m0 := lo ho9
               replace a0 := wb a0 hb
               replace b0 := wb b0 hb
               replace HB := wh hb
               clear hb ho9
               refine hK.out _ _ ⟨bc a0 0, bc a0 1, bc a0 2⟩ (fun hHeld => ?_)
               clear hK K
               refine nm 3 ?_
               exact nz (hJ0 (m1) _ ⟨hHeld, (up m0.out), (ub a0.out), (ub b0.out), bl⟩)
              ·skip
               refine Kd.R_lit_step (Kd.int .i64) _ 3 ?hg (N := 7) ?hd (xs := ([] : List Int)) (inner := []) (ok := fun _ => True) (okp := fun _ => True) ?hr ?hp (fun _ hk => hk) trivial (Below.refl _ _) (Nat.le_refl _) (by simp) ?_; (case hd => rfl); (case hg => rfl); (case hr => first | (go_simp; done) | (go_simp; rfl)); (case hp => exact (Reps.none _ _))
               intro k1 w8 ho9 hb hg_ hnew_
               clear hg_ hnew_
               (first | rw [← a2.out] at ho9 | (simp only [Int.reduceToNat] at ho9; rw [← a2.out] at ho9))
               have g0 := lo ho9
               replace a0 := wb a0 hb
               replace b0 := wb b0 hb
               replace HB := wh hb
               clear hb ho9
               refine hK.out _ _ ⟨bc a0 0, bc a0 1, bc a0 2⟩ (fun hHeld => ?_)
               clear hK K
               refine nm 7 ?_
               exact nz (hJ4 (k1) _ ⟨hHeld, (up g0.out), (ub a0.out), (ub b0.out), bl⟩)
              ·skip
               refine Kd.R_lit_step k50 _ 50 ?hg (N := 11) ?hd (xs := ([] : List (S50))) (inner := []) (ok := fun _ => True) (okp := fun _ => True) ?hr ?hp (fun _ hk => hk) trivial (Below.refl _ _) (Nat.le_refl _) (by simp) ?_; (case hd => rfl); (case hg => rfl); (case hr => first | (go_simp; done) | (go_simp; rfl)); (case hp => exact (Reps.none _ _))
               intro s1 w8 ho9 hb hg_ hnew_
               clear hg_ hnew_
               (first | rw [← z1.out] at ho9 | (simp only [Int.reduceToNat] at ho9; rw [← z1.out] at ho9))
               have j0 := lo ho9
               replace a0 := wb a0 hb
               replace b0 := wb b0 hb
               replace HB := wh hb
               clear hb ho9
               refine hK.out _ _ ⟨bc a0 0, bc a0 1, bc a0 2⟩ (fun hHeld => ?_)
               clear hK K
               refine nm 11 ?_
               exact nz (hJ8 (s1) _ ⟨hHeld, (up j0.out), (ub a0.out), (ub b0.out), bl⟩)
             ·skip
              rintro s1 w10 ⟨hS_, h0_, h1_, h2_, h3_⟩
              have n0_ : Aside0 (Kd.R k50 50 w10 w.heap.size (fun _ => True) s1 q1) := ⟨h0_⟩
              have n1_ : Aside0 (w10.heap[d0]? = some (.cells #[.slice j1 v0.length b1, .slice g1 s0.length a1, .slice d1 q0.length z0] 29 (0, 0))) := ⟨h1_⟩
              have n2_ : Aside0 (w10.heap[k0]? = some (.cells #[.slice none 0 0, .slice none 0 0, .slice none 0 0] 29 (0, 0))) := ⟨h2_⟩
              have n3_ : Aside0 (Below w.heap.size w w10) := ⟨h3_⟩
              clear a0
              clear b0
              clear HB
              clear h0_ h1_ h2_ h3_
              have j0 := n0_
              have a0 := n1_
              have b0 := n2_
              have HB := n3_
              clear n0_ n1_ n2_ n3_
              have hHeld : w10.cell? ⟨d0, 0, none⟩ = some (.slice j1 v0.length b1) ∧ w10.cell? ⟨d0, 1, none⟩ = some (.slice g1 s0.length a1) ∧ w10.cell? ⟨d0, 2, none⟩ = some (.slice d1 q0.length z0) := hS_
              refine norm_ (a' := ?_) ?_ ?_
              rotate_left
              ·simp only [putAll, Act.put, List.setIfInBounds_toArray, List.set_cons_zero, List.set_cons_succ]
               rfl
              refine two_ (i := 0) (j := 4) (Ni := some 3) (Nj := some 7) #[T_, T_, T_, F_, F_, T_, T_, F_, T_, T_, T_, F_, F_, F_] #[F_, T_, T_, F_, T_, T_, T_, F_, T_, T_, T_, F_, F_, F_] rfl rfl rfl rfl (two_of HT_.out (by kernel_rfl)) (by decide) (by decide) (fun K hK => ?_) (fun K hK => ?_)
              ·skip
               refine Kd.R_lit_step (Kd.int .i64) _ 3 ?hg (N := 3) ?hd (xs := ([] : List Int)) (inner := []) (ok := fun _ => True) (okp := fun _ => True) ?hr ?hp (fun _ hk => hk) trivial (Below.refl _ _) (Nat.le_refl _) (by simp) ?_; (case hd => rfl); (case hg => rfl); (case hr => first | (go_simp; done) | (go_simp; rfl)); (case hp => exact (Reps.none _ _))
               intro m1 w11 o1 hb hg_ hnew_
               clear hg_ hnew_
               (first | rw [← m2.out] at o1 | (simp only [Int.reduceToNat] at o1; rw [← m2.out] at o1))
               replace j0 := ro j0 hb
               have m0 := lo o1
               replace a0 := wb a0 hb
               replace b0 := wb b0 hb
               replace HB := wh hb
               clear hb o1
               refine hK.out _ _ ⟨bc a0 0, bc a0 1, bc a0 2⟩ (fun hHeld => ?_)
               clear hK K
               refine nm 3 ?_
               exact nz (hJ0_8 (m1, s1) _ ⟨hHeld, (up m0.out), (up j0.out), (ub a0.out), (ub b0.out), bl⟩)
              ·skip
               refine Kd.R_lit_step (Kd.int .i64) _ 3 ?hg (N := 7) ?hd (xs := ([] : List Int)) (inner := []) (ok := fun _ => True) (okp := fun _ => True) ?hr ?hp (fun _ hk => hk) trivial (Below.refl _ _) (Nat.le_refl _) (by simp) ?_; (case hd => rfl); (case hg => rfl); (case hr => first | (go_simp; done) | (go_simp; rfl)); (case hp => exact (Reps.none _ _))
               intro k1 w11 o1 hb hg_ hnew_
               clear hg_ hnew_
               (first | rw [← a2.out] at o1 | (simp only [Int.reduceToNat] at o1; rw [← a2.out] at o1))
               replace j0 := ro j0 hb
               have g0 := lo o1
               replace a0 := wb a0 hb
               replace b0 := wb b0 hb
               replace HB := wh hb
               clear hb o1
               refine hK.out _ _ ⟨bc a0 0, bc a0 1, bc a0 2⟩ (fun hHeld => ?_)
               clear hK K
               refine nm 7 ?_
               exact nz (hJ4_8 (k1, s1) _ ⟨hHeld, (up g0.out), (up j0.out), (ub a0.out), (ub b0.out), bl⟩)
            ·skip
             rintro k1 w10 ⟨hS_, h0_, h1_, h2_, h3_⟩
             have n0_ : Aside0 (Kd.R (Kd.int .i64) 3 w10 w.heap.size (fun _ => True) k1 y1) := ⟨h0_⟩
             have n1_ : Aside0 (w10.heap[d0]? = some (.cells #[.slice j1 v0.length b1, .slice g1 s0.length a1, .slice d1 q0.length z0] 29 (0, 0))) := ⟨h1_⟩
             have n2_ : Aside0 (w10.heap[k0]? = some (.cells #[.slice none 0 0, .slice none 0 0, .slice none 0 0] 29 (0, 0))) := ⟨h2_⟩
             have n3_ : Aside0 (Below w.heap.size w w10) := ⟨h3_⟩
             clear a0
             clear b0
             clear HB
             clear h0_ h1_ h2_ h3_
             have g0 := n0_
             have a0 := n1_
             have b0 := n2_
             have HB := n3_
             clear n0_ n1_ n2_ n3_
             have hHeld : w10.cell? ⟨d0, 0, none⟩ = some (.slice j1 v0.length b1) ∧ w10.cell? ⟨d0, 1, none⟩ = some (.slice g1 s0.length a1) ∧ w10.cell? ⟨d0, 2, none⟩ = some (.slice d1 q0.length z0) := hS_
             refine norm_ (a' := ?_) ?_ ?_
             rotate_left
             ·simp only [putAll, Act.put, List.setIfInBounds_toArray, List.set_cons_zero, List.set_cons_succ]
              rfl
             refine two_ (i := 0) (j := 8) (Ni := some 3) (Nj := some 11) #[T_, T_, T_, F_, T_, T_, T_, F_, F_, T_, T_, F_, F_, F_] #[F_, T_, T_, F_, T_, T_, T_, F_, T_, T_, T_, F_, F_, F_] rfl rfl rfl rfl (two_of HT_.out (by kernel_rfl)) (by decide) (by decide) (fun K hK => ?_) (fun K hK => ?_)
             ·skip
              refine Kd.R_lit_step (Kd.int .i64) _ 3 ?hg (N := 3) ?hd (xs := ([] : List Int)) (inner := []) (ok := fun _ => True) (okp := fun _ => True) ?hr ?hp (fun _ hk => hk) trivial (Below.refl _ _) (Nat.le_refl _) (by simp) ?_; (case hd => rfl); (case hg => rfl); (case hr => first | (go_simp; done) | (go_simp; rfl)); (case hp => exact (Reps.none _ _))
              intro m1 w11 o1 hb hg_ hnew_
              clear hg_ hnew_
              (first | rw [← m2.out] at o1 | (simp only [Int.reduceToNat] at o1; rw [← m2.out] at o1))
              have m0 := lo (nw o1 g0)
              replace g0 := el g0 o1 hb
              replace a0 := wb a0 hb
              replace b0 := wb b0 hb
              replace HB := wh hb
              clear hb o1
              refine hK.out _ _ ⟨bc a0 0, bc a0 1, bc a0 2⟩ (fun hHeld => ?_)
              clear hK K
              refine nm 3 ?_
              exact nz (hJ0_4 (m1, k1) _ ⟨hHeld, (by exact up (Kd.R_mono m0.out (fun _ hk => hk.2))), (by exact up (Kd.R_mono g0.out (fun _ hk => hk.2))), (ub a0.out), (ub b0.out), bl⟩)
             ·skip
              refine Kd.R_lit_step k50 _ 50 ?hg (N := 11) ?hd (xs := ([] : List (S50))) (inner := []) (ok := fun _ => True) (okp := fun _ => True) ?hr ?hp (fun _ hk => hk) trivial (Below.refl _ _) (Nat.le_refl _) (by simp) ?_; (case hd => rfl); (case hg => rfl); (case hr => first | (go_simp; done) | (go_simp; rfl)); (case hp => exact (Reps.none _ _))
              intro s1 w11 o1 hb hg_ hnew_
              clear hg_ hnew_
              (first | rw [← z1.out] at o1 | (simp only [Int.reduceToNat] at o1; rw [← z1.out] at o1))
              replace g0 := ro g0 hb
              have j0 := lo o1
              replace a0 := wb a0 hb
              replace b0 := wb b0 hb
              replace HB := wh hb
              clear hb o1
              refine hK.out _ _ ⟨bc a0 0, bc a0 1, bc a0 2⟩ (fun hHeld => ?_)
              clear hK K
              refine nm 11 ?_
              exact nz (hJ4_8 (k1, s1) _ ⟨hHeld, (up g0.out), (up j0.out), (ub a0.out), (ub b0.out), bl⟩)
           ·skip
            rintro m1 w10 ⟨hS_, h0_, h1_, h2_, h3_⟩
            have n0_ : Aside0 (Kd.R (Kd.int .i64) 3 w10 w.heap.size (fun _ => True) m1 g2) := ⟨h0_⟩
            have n1_ : Aside0 (w10.heap[d0]? = some (.cells #[.slice j1 v0.length b1, .slice g1 s0.length a1, .slice d1 q0.length z0] 29 (0, 0))) := ⟨h1_⟩
            have n2_ : Aside0 (w10.heap[k0]? = some (.cells #[.slice none 0 0, .slice none 0 0, .slice none 0 0] 29 (0, 0))) := ⟨h2_⟩
            have n3_ : Aside0 (Below w.heap.size w w10) := ⟨h3_⟩
            clear a0
            clear b0
            clear HB
            clear h0_ h1_ h2_ h3_
            have m0 := n0_
            have a0 := n1_
            have b0 := n2_
            have HB := n3_
            clear n0_ n1_ n2_ n3_
            have hHeld : w10.cell? ⟨d0, 0, none⟩ = some (.slice j1 v0.length b1) ∧ w10.cell? ⟨d0, 1, none⟩ = some (.slice g1 s0.length a1) ∧ w10.cell? ⟨d0, 2, none⟩ = some (.slice d1 q0.length z0) := hS_
            refine norm_ (a' := ?_) ?_ ?_
            rotate_left
            ·simp only [putAll, Act.put, List.setIfInBounds_toArray, List.set_cons_zero, List.set_cons_succ]
             rfl
            refine three_ (i := 3) (j := 4) (k := 8) (Ni := some 6) (Nj := some 7) (Nk := some 11) #[T_, T_, T_, T_, F_, T_, T_, F_, F_, T_, T_, F_, F_, F_] #[T_, T_, T_, F_, T_, T_, T_, F_, F_, T_, T_, F_, F_, F_] #[T_, T_, T_, F_, F_, T_, T_, F_, T_, T_, T_, F_, F_, F_] rfl rfl rfl rfl rfl rfl (three_of HT_.out (by kernel_rfl)) (by decide) (by decide) (by decide) (fun K hK => ?_) (fun K hK => ?_) (fun K hK => ?_)
            ·skip
             refine Kd.R_append_rows_step (Kd.int .i64) (w0 := w) w.heap.size (by rfl) (.tmp 3) (.tmp 5) 22 3 (.int .i64 0) 8 rfl Try.underlying22 info3 rfl (by decide) (by omega) m1 g2 v0 _ _ _ (fun _ => True) (fun _ => False) rfl rfl ?aO ?aR (fun _ _ h => h) (fun _ h => h.elim) ?aF ?aB ?aS ?aL ?_
             (case aR => exact uc (Kd.C_below y2.out HB.out))
             (case aB => exact bl)
             (case aF => exact (fun _ _ => trivial))
             (case aO => exact (up m0.out))
             (case aS => exact (below_size bl))
             (case aL => have := LMc2.out; omega)
             intro v1 w11 ho hb hg hat
             rw [← v2.out] at ho
             replace a0 := mk (blk_grown (g := d0) (o := .cells #[.slice j1 v0.length b1, .slice g1 s0.length a1, .slice d1 q0.length z0] 29 (0, 0)) (ub a0.out) hg (Kd.R_ne m0.out a0.out (by decide)))
             replace b0 := mk (blk_grown (g := k0) (o := .cells #[.slice none 0 0, .slice none 0 0, .slice none 0 0] 29 (0, 0)) (ub b0.out) hg (Kd.R_ne m0.out b0.out (by decide)))
             replace HB := mk hb
             have o0 := mk ho
             clear m0
             clear ho hb hg hat
             refine hK.out _ _ ⟨bc a0 0, bc a0 1, bc a0 2⟩ (fun hHeld => ?_)
             clear hK K
             refine nm 6 ?_
             exact nz (hJ0_3 (m1, v1) _ ⟨hHeld, (up o0.out), (ub a0.out), (ub b0.out), bl⟩)
            ·skip
             refine Kd.R_lit_step (Kd.int .i64) _ 3 ?hg (N := 7) ?hd (xs := ([] : List Int)) (inner := []) (ok := fun _ => True) (okp := fun _ => True) ?hr ?hp (fun _ hk => hk) trivial (Below.refl _ _) (Nat.le_refl _) (by simp) ?_; (case hd => rfl); (case hg => rfl); (case hr => first | (go_simp; done) | (go_simp; rfl)); (case hp => exact (Reps.none _ _))
             intro k1 w11 o1 hb hg_ hnew_
             clear hg_ hnew_
             (first | rw [← a2.out] at o1 | (simp only [Int.reduceToNat] at o1; rw [← a2.out] at o1))
             have g0 := lo (nw o1 m0)
             replace m0 := el m0 o1 hb
             replace a0 := wb a0 hb
             replace b0 := wb b0 hb
             replace HB := wh hb
             clear hb o1
             refine hK.out _ _ ⟨bc a0 0, bc a0 1, bc a0 2⟩ (fun hHeld => ?_)
             clear hK K
             refine nm 7 ?_
             exact nz (hJ0_4 (m1, k1) _ ⟨hHeld, (by exact up (Kd.R_mono m0.out (fun _ hk => hk.2))), (by exact up (Kd.R_mono g0.out (fun _ hk => hk.2))), (ub a0.out), (ub b0.out), bl⟩)
            ·skip
             refine Kd.R_lit_step k50 _ 50 ?hg (N := 11) ?hd (xs := ([] : List (S50))) (inner := []) (ok := fun _ => True) (okp := fun _ => True) ?hr ?hp (fun _ hk => hk) trivial (Below.refl _ _) (Nat.le_refl _) (by simp) ?_; (case hd => rfl); (case hg => rfl); (case hr => first | (go_simp; done) | (go_simp; rfl)); (case hp => exact (Reps.none _ _))
             intro s1 w11 o1 hb hg_ hnew_
             clear hg_ hnew_
             (first | rw [← z1.out] at o1 | (simp only [Int.reduceToNat] at o1; rw [← z1.out] at o1))
             replace m0 := ro m0 hb
             have j0 := lo o1
             replace a0 := wb a0 hb
             replace b0 := wb b0 hb
             replace HB := wh hb
             clear hb o1
             refine hK.out _ _ ⟨bc a0 0, bc a0 1, bc a0 2⟩ (fun hHeld => ?_)
             clear hK K
             refine nm 11 ?_
             exact nz (hJ0_8 (m1, s1) _ ⟨hHeld, (up m0.out), (up j0.out), (ub a0.out), (ub b0.out), bl⟩)
          ·skip
           rintro ⟨k1, s1⟩ w12 ⟨hS_, h0_, h1_, h2_, h3_, h4_⟩
           have n0_ : Aside0 (Kd.R (Kd.int .i64) 3 w12 w.heap.size (fun _ => True) k1 y1) := ⟨h0_⟩
           have n1_ : Aside0 (Kd.R k50 50 w12 w.heap.size (fun _ => True) s1 q1) := ⟨h1_⟩
           have n2_ : Aside0 (w12.heap[d0]? = some (.cells #[.slice j1 v0.length b1, .slice g1 s0.length a1, .slice d1 q0.length z0] 29 (0, 0))) := ⟨h2_⟩
           have n3_ : Aside0 (w12.heap[k0]? = some (.cells #[.slice none 0 0, .slice none 0 0, .slice none 0 0] 29 (0, 0))) := ⟨h3_⟩
           have n4_ : Aside0 (Below w.heap.size w w12) := ⟨h4_⟩
           clear a0
           clear b0
           clear HB
           clear h0_ h1_ h2_ h3_ h4_
           have g0 := n0_
           have j0 := n1_
           have a0 := n2_
           have b0 := n3_
           have HB := n4_
           clear n0_ n1_ n2_ n3_ n4_
           have hHeld : w12.cell? ⟨d0, 0, none⟩ = some (.slice j1 v0.length b1) ∧ w12.cell? ⟨d0, 1, none⟩ = some (.slice g1 s0.length a1) ∧ w12.cell? ⟨d0, 2, none⟩ = some (.slice d1 q0.length z0) := hS_
           refine norm_ (a' := ?_) ?_ ?_
           rotate_left
           ·simp only [putAll, Act.put, List.setIfInBounds_toArray, List.set_cons_zero, List.set_cons_succ]
            rfl
           refine on 0 3 #[T_,T_,T_,F_,T_,T_,T_,F_,T_,T_,T_,F_,F_,F_] (fun K hK => ?_)
           refine Kd.R_lit_step (Kd.int .i64) _ 3 ?hg (N := 3) ?hd (xs := ([] : List Int)) (inner := []) (ok := fun _ => True) (okp := fun _ => True) ?hr ?hp (fun _ hk => hk) trivial (Below.refl _ _) (Nat.le_refl _) (by simp) ?_; (case hd => rfl); (case hg => rfl); (case hr => first | (go_simp; done) | (go_simp; rfl)); (case hp => exact (Reps.none _ _))
           intro m1 w13 j2 hb hg_ hnew_
           clear hg_ hnew_
           (first | rw [← m2.out] at j2 | (simp only [Int.reduceToNat] at j2; rw [← m2.out] at j2))
           replace j0 := ro j0 hb
           have m0 := lo (nw j2 g0)
           replace g0 := el g0 j2 hb
           replace a0 := wb a0 hb
           replace b0 := wb b0 hb
           replace HB := wh hb
           clear hb j2
           refine hK.out _ _ ⟨bc a0 0, bc a0 1, bc a0 2⟩ (fun hHeld => ?_)
           clear hK K
           refine nm 3 ?_
           exact nz (hJ0_4_8 (m1, k1, s1) _ ⟨hHeld, (by exact up (Kd.R_mono m0.out (fun _ hk => hk.2))), (by exact up (Kd.R_mono g0.out (fun _ hk => hk.2))), (up j0.out), (ub a0.out), (ub b0.out), bl⟩)
         ·skip
          rintro ⟨m1, s1⟩ w12 ⟨hS_, h0_, h1_, h2_, h3_, h4_⟩
          have n0_ : Aside0 (Kd.R (Kd.int .i64) 3 w12 w.heap.size (fun _ => True) m1 g2) := ⟨h0_⟩
          have n1_ : Aside0 (Kd.R k50 50 w12 w.heap.size (fun _ => True) s1 q1) := ⟨h1_⟩
          have n2_ : Aside0 (w12.heap[d0]? = some (.cells #[.slice j1 v0.length b1, .slice g1 s0.length a1, .slice d1 q0.length z0] 29 (0, 0))) := ⟨h2_⟩
          have n3_ : Aside0 (w12.heap[k0]? = some (.cells #[.slice none 0 0, .slice none 0 0, .slice none 0 0] 29 (0, 0))) := ⟨h3_⟩
          have n4_ : Aside0 (Below w.heap.size w w12) := ⟨h4_⟩
          clear a0
          clear b0
          clear HB
          clear h0_ h1_ h2_ h3_ h4_
          have m0 := n0_
          have j0 := n1_
          have a0 := n2_
          have b0 := n3_
          have HB := n4_
          clear n0_ n1_ n2_ n3_ n4_
          have hHeld : w12.cell? ⟨d0, 0, none⟩ = some (.slice j1 v0.length b1) ∧ w12.cell? ⟨d0, 1, none⟩ = some (.slice g1 s0.length a1) ∧ w12.cell? ⟨d0, 2, none⟩ = some (.slice d1 q0.length z0) := hS_
          refine norm_ (a' := ?_) ?_ ?_
          rotate_left
          ·simp only [putAll, Act.put, List.setIfInBounds_toArray, List.set_cons_zero, List.set_cons_succ]
           rfl
          refine two_ (i := 3) (j := 4) (Ni := some 6) (Nj := some 7) #[T_, T_, T_, T_, F_, T_, T_, F_, T_, T_, T_, F_, F_, F_] #[T_, T_, T_, F_, T_, T_, T_, F_, T_, T_, T_, F_, F_, F_] rfl rfl rfl rfl (two_of HT_.out (by kernel_rfl)) (by decide) (by decide) (fun K hK => ?_) (fun K hK => ?_)
          ·skip
           refine Kd.R_append_rows_step (Kd.int .i64) (w0 := w) w.heap.size (by rfl) (.tmp 3) (.tmp 5) 22 3 (.int .i64 0) 8 rfl Try.underlying22 info3 rfl (by decide) (by omega) m1 g2 v0 _ _ _ (fun _ => True) (fun _ => False) rfl rfl ?aO ?aR (fun _ _ h => h) (fun _ h => h.elim) ?aF ?aB ?aS ?aL ?_
           (case aR => exact uc (Kd.C_below y2.out HB.out))
           (case aB => exact bl)
           (case aF => exact (fun _ _ => trivial))
           (case aO => exact (up m0.out))
           (case aS => exact (below_size bl))
           (case aL => have := LMc2.out; omega)
           intro v1 w13 ho hb hg hat
           rw [← v2.out] at ho
           replace a0 := mk (blk_grown (g := d0) (o := .cells #[.slice j1 v0.length b1, .slice g1 s0.length a1, .slice d1 q0.length z0] 29 (0, 0)) (ub a0.out) hg (Kd.R_ne m0.out a0.out (by decide)))
           replace b0 := mk (blk_grown (g := k0) (o := .cells #[.slice none 0 0, .slice none 0 0, .slice none 0 0] 29 (0, 0)) (ub b0.out) hg (Kd.R_ne m0.out b0.out (by decide)))
           replace j0 := mk (Kd.R_over' (up j0.out) (Kd.R_typed (up m0.out)) (by decide) hg)
           replace HB := mk hb
           have o0 := mk ho
           clear m0
           clear ho hb hg hat
           refine hK.out _ _ ⟨bc a0 0, bc a0 1, bc a0 2⟩ (fun hHeld => ?_)
           clear hK K
           refine nm 6 ?_
           exact nz (hJ0_3_8 (m1, v1, s1) _ ⟨hHeld, (up o0.out), (up j0.out), (ub a0.out), (ub b0.out), bl⟩)
          ·skip
           refine Kd.R_lit_step (Kd.int .i64) _ 3 ?hg (N := 7) ?hd (xs := ([] : List Int)) (inner := []) (ok := fun _ => True) (okp := fun _ => True) ?hr ?hp (fun _ hk => hk) trivial (Below.refl _ _) (Nat.le_refl _) (by simp) ?_; (case hd => rfl); (case hg => rfl); (case hr => first | (go_simp; done) | (go_simp; rfl)); (case hp => exact (Reps.none _ _))
           intro k1 w13 j2 hb hg_ hnew_
           clear hg_ hnew_
           (first | rw [← a2.out] at j2 | (simp only [Int.reduceToNat] at j2; rw [← a2.out] at j2))
           replace j0 := ro j0 hb
           have g0 := lo (nw j2 m0)
           replace m0 := el m0 j2 hb
           replace a0 := wb a0 hb
           replace b0 := wb b0 hb
           replace HB := wh hb
           clear hb j2
           refine hK.out _ _ ⟨bc a0 0, bc a0 1, bc a0 2⟩ (fun hHeld => ?_)
           clear hK K
           refine nm 7 ?_
           exact nz (hJ0_4_8 (m1, k1, s1) _ ⟨hHeld, (by exact up (Kd.R_mono m0.out (fun _ hk => hk.2))), (by exact up (Kd.R_mono g0.out (fun _ hk => hk.2))), (up j0.out), (ub a0.out), (ub b0.out), bl⟩)
        ·skip
         rintro ⟨m1, k1⟩ w12 ⟨hS_, h0_, h1_, h2_, h3_, h4_⟩
         have n0_ : Aside0 (Kd.R (Kd.int .i64) 3 w12 w.heap.size (fun k_ => some k_ ≠ (k1 : Value).ownBlock) m1 g2) := ⟨h0_⟩
         have n1_ : Aside0 (Kd.R (Kd.int .i64) 3 w12 w.heap.size (fun k_ => some k_ ≠ (m1 : Value).ownBlock) k1 y1) := ⟨h1_⟩
         have n2_ : Aside0 (w12.heap[d0]? = some (.cells #[.slice j1 v0.length b1, .slice g1 s0.length a1, .slice d1 q0.length z0] 29 (0, 0))) := ⟨h2_⟩
         have n3_ : Aside0 (w12.heap[k0]? = some (.cells #[.slice none 0 0, .slice none 0 0, .slice none 0 0] 29 (0, 0))) := ⟨h3_⟩
         have n4_ : Aside0 (Below w.heap.size w w12) := ⟨h4_⟩
         clear a0
         clear b0
         clear HB
         clear h0_ h1_ h2_ h3_ h4_
         have m0 := n0_
         have g0 := n1_
         have a0 := n2_
         have b0 := n3_
         have HB := n4_
         clear n0_ n1_ n2_ n3_ n4_
         have hHeld : w12.cell? ⟨d0, 0, none⟩ = some (.slice j1 v0.length b1) ∧ w12.cell? ⟨d0, 1, none⟩ = some (.slice g1 s0.length a1) ∧ w12.cell? ⟨d0, 2, none⟩ = some (.slice d1 q0.length z0) := hS_
         refine norm_ (a' := ?_) ?_ ?_
         rotate_left
         ·simp only [putAll, Act.put, List.setIfInBounds_toArray, List.set_cons_zero, List.set_cons_succ]
          rfl
         refine two_ (i := 3) (j := 8) (Ni := some 6) (Nj := some 11) #[T_, T_, T_, T_, T_, T_, T_, F_, F_, T_, T_, F_, F_, F_] #[T_, T_, T_, F_, T_, T_, T_, F_, T_, T_, T_, F_, F_, F_] rfl rfl rfl rfl (two_of HT_.out (by kernel_rfl)) (by decide) (by decide) (fun K hK => ?_) (fun K hK => ?_)
         ·skip
          refine Kd.R_append_rows_step (Kd.int .i64) (w0 := w) w.heap.size (by rfl) (.tmp 3) (.tmp 5) 22 3 (.int .i64 0) 8 rfl Try.underlying22 info3 rfl (by decide) (by omega) m1 g2 v0 _ _ _ (fun k_ => some k_ ≠ (k1 : Value).ownBlock) (fun _ => False) rfl rfl ?aO ?aR (fun _ _ h => h) (fun _ h => h.elim) ?aF ?aB ?aS ?aL ?_
          (case aR => exact uc (Kd.C_below y2.out HB.out))
          (case aB => exact bl)
          (case aF => exact (fun k_ hk => Kd.fresh' (Kd.R_lt (up g0.out)) k_ hk))
          (case aO => exact (up m0.out))
          (case aS => exact (below_size bl))
          (case aL => have := LMc2.out; omega)
          intro v1 w13 ho hb hg hat
          rw [← v2.out] at ho
          replace a0 := mk (blk_grown (g := d0) (o := .cells #[.slice j1 v0.length b1, .slice g1 s0.length a1, .slice d1 q0.length z0] 29 (0, 0)) (ub a0.out) hg (Kd.R_ne m0.out a0.out (by decide)))
          replace b0 := mk (blk_grown (g := k0) (o := .cells #[.slice none 0 0, .slice none 0 0, .slice none 0 0] 29 (0, 0)) (ub b0.out) hg (Kd.R_ne m0.out b0.out (by decide)))
          replace g0 := mk (Kd.R_after (ok := (fun _ => True)) (by exact up (Kd.R_mono g0.out (fun _ hk => ⟨trivial, hk⟩))) hg hat)
          replace HB := mk hb
          have o0 := mk ho
          clear m0
          clear ho hb hg hat
          refine hK.out _ _ ⟨bc a0 0, bc a0 1, bc a0 2⟩ (fun hHeld => ?_)
          clear hK K
          refine nm 6 ?_
          exact nz (hJ0_3_4 (m1, v1, k1) _ ⟨hHeld, (up o0.out), (by exact up (Kd.R_mono g0.out (fun _ hk => hk.2))), (ub a0.out), (ub b0.out), bl⟩)
         ·skip
          refine Kd.R_lit_step k50 _ 50 ?hg (N := 11) ?hd (xs := ([] : List (S50))) (inner := []) (ok := fun _ => True) (okp := fun _ => True) ?hr ?hp (fun _ hk => hk) trivial (Below.refl _ _) (Nat.le_refl _) (by simp) ?_; (case hd => rfl); (case hg => rfl); (case hr => first | (go_simp; done) | (go_simp; rfl)); (case hp => exact (Reps.none _ _))
          intro s1 w13 j2 hb hg_ hnew_
          clear hg_ hnew_
          (first | rw [← z1.out] at j2 | (simp only [Int.reduceToNat] at j2; rw [← z1.out] at j2))
          replace m0 := ro m0 hb
          replace g0 := ro g0 hb
          have j0 := lo j2
          replace a0 := wb a0 hb
          replace b0 := wb b0 hb
          replace HB := wh hb
          clear hb j2
          refine hK.out _ _ ⟨bc a0 0, bc a0 1, bc a0 2⟩ (fun hHeld => ?_)
          clear hK K
          refine nm 11 ?_
          exact nz (hJ0_4_8 (m1, k1, s1) _ ⟨hHeld, (up m0.out), (up g0.out), (up j0.out), (ub a0.out), (ub b0.out), bl⟩)
       ·skip
        rintro ⟨m1, v1⟩ w11 ⟨hS_, h0_, h1_, h2_, h3_⟩
        have n0_ : Aside0 (Kd.R (Kd.int .i64) 3 w11 w.heap.size (fun _ => True) v1 k2) := ⟨h0_⟩
        have n1_ : Aside0 (w11.heap[d0]? = some (.cells #[.slice j1 v0.length b1, .slice g1 s0.length a1, .slice d1 q0.length z0] 29 (0, 0))) := ⟨h1_⟩
        have n2_ : Aside0 (w11.heap[k0]? = some (.cells #[.slice none 0 0, .slice none 0 0, .slice none 0 0] 29 (0, 0))) := ⟨h2_⟩
        have n3_ : Aside0 (Below w.heap.size w w11) := ⟨h3_⟩
        clear a0
        clear b0
        clear HB
        clear h0_ h1_ h2_ h3_
        have o0 := n0_
        have a0 := n1_
        have b0 := n2_
        have HB := n3_
        clear n0_ n1_ n2_ n3_
        have hHeld : w11.cell? ⟨d0, 0, none⟩ = some (.slice j1 v0.length b1) ∧ w11.cell? ⟨d0, 1, none⟩ = some (.slice g1 s0.length a1) ∧ w11.cell? ⟨d0, 2, none⟩ = some (.slice d1 q0.length z0) := hS_
        refine norm_ (a' := ?_) ?_ ?_
        rotate_left
        ·simp only [putAll, Act.put, List.setIfInBounds_toArray, List.set_cons_zero, List.set_cons_succ]
         rfl
        refine two_ (i := 4) (j := 8) (Ni := some 7) (Nj := some 11) #[T_, T_, T_, T_, T_, T_, T_, F_, F_, T_, T_, F_, F_, F_] #[T_, T_, T_, T_, F_, T_, T_, F_, T_, T_, T_, F_, F_, F_] rfl rfl rfl rfl (two_of HT_.out (by kernel_rfl)) (by decide) (by decide) (fun K hK => ?_) (fun K hK => ?_)
        ·skip
         refine Kd.R_lit_step (Kd.int .i64) _ 3 ?hg (N := 7) ?hd (xs := ([] : List Int)) (inner := []) (ok := fun _ => True) (okp := fun _ => True) ?hr ?hp (fun _ hk => hk) trivial (Below.refl _ _) (Nat.le_refl _) (by simp) ?_; (case hd => rfl); (case hg => rfl); (case hr => first | (go_simp; done) | (go_simp; rfl)); (case hp => exact (Reps.none _ _))
         intro k1 w12 q2 hb hg_ hnew_
         clear hg_ hnew_
         (first | rw [← a2.out] at q2 | (simp only [Int.reduceToNat] at q2; rw [← a2.out] at q2))
         have g0 := lo (nw q2 o0)
         replace o0 := el o0 q2 hb
         replace a0 := wb a0 hb
         replace b0 := wb b0 hb
         replace HB := wh hb
         clear hb q2
         refine hK.out _ _ ⟨bc a0 0, bc a0 1, bc a0 2⟩ (fun hHeld => ?_)
         clear hK K
         refine nm 7 ?_
         exact nz (hJ0_3_4 (m1, v1, k1) _ ⟨hHeld, (by exact up (Kd.R_mono o0.out (fun _ hk => hk.2))), (by exact up (Kd.R_mono g0.out (fun _ hk => hk.2))), (ub a0.out), (ub b0.out), bl⟩)
        ·skip
         refine Kd.R_lit_step k50 _ 50 ?hg (N := 11) ?hd (xs := ([] : List (S50))) (inner := []) (ok := fun _ => True) (okp := fun _ => True) ?hr ?hp (fun _ hk => hk) trivial (Below.refl _ _) (Nat.le_refl _) (by simp) ?_; (case hd => rfl); (case hg => rfl); (case hr => first | (go_simp; done) | (go_simp; rfl)); (case hp => exact (Reps.none _ _))
         intro s1 w12 q2 hb hg_ hnew_
         clear hg_ hnew_
         (first | rw [← z1.out] at q2 | (simp only [Int.reduceToNat] at q2; rw [← z1.out] at q2))
         replace o0 := ro o0 hb
         have j0 := lo q2
         replace a0 := wb a0 hb
         replace b0 := wb b0 hb
         replace HB := wh hb
         clear hb q2
         refine hK.out _ _ ⟨bc a0 0, bc a0 1, bc a0 2⟩ (fun hHeld => ?_)
         clear hK K
         refine nm 11 ?_
         exact nz (hJ0_3_8 (m1, v1, s1) _ ⟨hHeld, (up o0.out), (up j0.out), (ub a0.out), (ub b0.out), bl⟩)
      ·skip
       rintro ⟨m1, k1, s1⟩ w14 ⟨hS_, h0_, h1_, h2_, h3_, h4_, h5_⟩
       have n0_ : Aside0 (Kd.R (Kd.int .i64) 3 w14 w.heap.size (fun k_ => some k_ ≠ (k1 : Value).ownBlock) m1 g2) := ⟨h0_⟩
       have n1_ : Aside0 (Kd.R (Kd.int .i64) 3 w14 w.heap.size (fun k_ => some k_ ≠ (m1 : Value).ownBlock) k1 y1) := ⟨h1_⟩
       have n2_ : Aside0 (Kd.R k50 50 w14 w.heap.size (fun _ => True) s1 q1) := ⟨h2_⟩
       have n3_ : Aside0 (w14.heap[d0]? = some (.cells #[.slice j1 v0.length b1, .slice g1 s0.length a1, .slice d1 q0.length z0] 29 (0, 0))) := ⟨h3_⟩
       have n4_ : Aside0 (w14.heap[k0]? = some (.cells #[.slice none 0 0, .slice none 0 0, .slice none 0 0] 29 (0, 0))) := ⟨h4_⟩
       have n5_ : Aside0 (Below w.heap.size w w14) := ⟨h5_⟩
       clear a0
       clear b0
       clear HB
       clear h0_ h1_ h2_ h3_ h4_ h5_
       have m0 := n0_
       have g0 := n1_
       have j0 := n2_
       have a0 := n3_
       have b0 := n4_
       have HB := n5_
       clear n0_ n1_ n2_ n3_ n4_ n5_
       have hHeld : w14.cell? ⟨d0, 0, none⟩ = some (.slice j1 v0.length b1) ∧ w14.cell? ⟨d0, 1, none⟩ = some (.slice g1 s0.length a1) ∧ w14.cell? ⟨d0, 2, none⟩ = some (.slice d1 q0.length z0) := hS_
       refine norm_ (a' := ?_) ?_ ?_
       rotate_left
       ·simp only [putAll, Act.put, List.setIfInBounds_toArray, List.set_cons_zero, List.set_cons_succ]
        rfl
       refine on 3 6 #[T_,T_,T_,T_,T_,T_,T_,F_,T_,T_,T_,F_,F_,F_] (fun K hK => ?_)
       refine Kd.R_append_rows_step (Kd.int .i64) (w0 := w) w.heap.size (by rfl) (.tmp 3) (.tmp 5) 22 3 (.int .i64 0) 8 rfl Try.underlying22 info3 rfl (by decide) (by omega) m1 g2 v0 _ _ _ (fun k_ => some k_ ≠ (k1 : Value).ownBlock) (fun _ => False) rfl rfl ?aO ?aR (fun _ _ h => h) (fun _ h => h.elim) ?aF ?aB ?aS ?aL ?_
       (case aR => exact uc (Kd.C_below y2.out HB.out))
       (case aB => exact bl)
       (case aF => exact (fun k_ hk => Kd.fresh' (Kd.R_lt (up g0.out)) k_ hk))
       (case aO => exact (up m0.out))
       (case aS => exact (below_size bl))
       (case aL => have := LMc2.out; omega)
       intro v1 w15 ho hb hg hat
       rw [← v2.out] at ho
       replace a0 := mk (blk_grown (g := d0) (o := .cells #[.slice j1 v0.length b1, .slice g1 s0.length a1, .slice d1 q0.length z0] 29 (0, 0)) (ub a0.out) hg (Kd.R_ne m0.out a0.out (by decide)))
       replace b0 := mk (blk_grown (g := k0) (o := .cells #[.slice none 0 0, .slice none 0 0, .slice none 0 0] 29 (0, 0)) (ub b0.out) hg (Kd.R_ne m0.out b0.out (by decide)))
       replace g0 := mk (Kd.R_after (ok := (fun _ => True)) (by exact up (Kd.R_mono g0.out (fun _ hk => ⟨trivial, hk⟩))) hg hat)
       replace j0 := mk (Kd.R_over' (up j0.out) (Kd.R_typed (up m0.out)) (by decide) hg)
       replace HB := mk hb
       have o0 := mk ho
       clear m0
       clear ho hb hg hat
       refine hK.out _ _ ⟨bc a0 0, bc a0 1, bc a0 2⟩ (fun hHeld => ?_)
       clear hK K
       refine nm 6 ?_
       exact nz (hJ0_3_4_8 (m1, v1, k1, s1) _ ⟨hHeld, (up o0.out), (by exact up (Kd.R_mono g0.out (fun _ hk => hk.2))), (up j0.out), (ub a0.out), (ub b0.out), bl⟩)
     ·skip
      rintro ⟨m1, v1, s1⟩ w13 ⟨hS_, h0_, h1_, h2_, h3_, h4_⟩
      have n0_ : Aside0 (Kd.R (Kd.int .i64) 3 w13 w.heap.size (fun _ => True) v1 k2) := ⟨h0_⟩
      have n1_ : Aside0 (Kd.R k50 50 w13 w.heap.size (fun _ => True) s1 q1) := ⟨h1_⟩
      have n2_ : Aside0 (w13.heap[d0]? = some (.cells #[.slice j1 v0.length b1, .slice g1 s0.length a1, .slice d1 q0.length z0] 29 (0, 0))) := ⟨h2_⟩
      have n3_ : Aside0 (w13.heap[k0]? = some (.cells #[.slice none 0 0, .slice none 0 0, .slice none 0 0] 29 (0, 0))) := ⟨h3_⟩
      have n4_ : Aside0 (Below w.heap.size w w13) := ⟨h4_⟩
      clear a0
      clear b0
      clear HB
      clear h0_ h1_ h2_ h3_ h4_
      have o0 := n0_
      have j0 := n1_
      have a0 := n2_
      have b0 := n3_
      have HB := n4_
      clear n0_ n1_ n2_ n3_ n4_
      have hHeld : w13.cell? ⟨d0, 0, none⟩ = some (.slice j1 v0.length b1) ∧ w13.cell? ⟨d0, 1, none⟩ = some (.slice g1 s0.length a1) ∧ w13.cell? ⟨d0, 2, none⟩ = some (.slice d1 q0.length z0) := hS_
      refine norm_ (a' := ?_) ?_ ?_
      rotate_left
      ·simp only [putAll, Act.put, List.setIfInBounds_toArray, List.set_cons_zero, List.set_cons_succ]
       rfl
      refine on 4 7 #[T_,T_,T_,T_,T_,T_,T_,F_,T_,T_,T_,F_,F_,F_] (fun K hK => ?_)
      refine Kd.R_lit_step (Kd.int .i64) _ 3 ?hg (N := 7) ?hd (xs := ([] : List Int)) (inner := []) (ok := fun _ => True) (okp := fun _ => True) ?hr ?hp (fun _ hk => hk) trivial (Below.refl _ _) (Nat.le_refl _) (by simp) ?_; (case hd => rfl); (case hg => rfl); (case hr => first | (go_simp; done) | (go_simp; rfl)); (case hp => exact (Reps.none _ _))
      intro k1 w14 o2 hb hg_ hnew_
      clear hg_ hnew_
      (first | rw [← a2.out] at o2 | (simp only [Int.reduceToNat] at o2; rw [← a2.out] at o2))
      replace j0 := ro j0 hb
      have g0 := lo (nw o2 o0)
      replace o0 := el o0 o2 hb
      replace a0 := wb a0 hb
      replace b0 := wb b0 hb
      replace HB := wh hb
      clear hb o2
      refine hK.out _ _ ⟨bc a0 0, bc a0 1, bc a0 2⟩ (fun hHeld => ?_)
      clear hK K
      refine nm 7 ?_
      exact nz (hJ0_3_4_8 (m1, v1, k1, s1) _ ⟨hHeld, (by exact up (Kd.R_mono o0.out (fun _ hk => hk.2))), (by exact up (Kd.R_mono g0.out (fun _ hk => hk.2))), (up j0.out), (ub a0.out), (ub b0.out), bl⟩)
    ·skip
     rintro ⟨m1, v1, k1⟩ w13 ⟨hS_, h0_, h1_, h2_, h3_, h4_⟩
     have n0_ : Aside0 (Kd.R (Kd.int .i64) 3 w13 w.heap.size (fun k_ => some k_ ≠ (k1 : Value).ownBlock) v1 k2) := ⟨h0_⟩
     have n1_ : Aside0 (Kd.R (Kd.int .i64) 3 w13 w.heap.size (fun k_ => some k_ ≠ (v1 : Value).ownBlock) k1 y1) := ⟨h1_⟩
     have n2_ : Aside0 (w13.heap[d0]? = some (.cells #[.slice j1 v0.length b1, .slice g1 s0.length a1, .slice d1 q0.length z0] 29 (0, 0))) := ⟨h2_⟩
     have n3_ : Aside0 (w13.heap[k0]? = some (.cells #[.slice none 0 0, .slice none 0 0, .slice none 0 0] 29 (0, 0))) := ⟨h3_⟩
     have n4_ : Aside0 (Below w.heap.size w w13) := ⟨h4_⟩
     clear a0
     clear b0
     clear HB
     clear h0_ h1_ h2_ h3_ h4_
     have o0 := n0_
     have g0 := n1_
     have a0 := n2_
     have b0 := n3_
     have HB := n4_
     clear n0_ n1_ n2_ n3_ n4_
     have hHeld : w13.cell? ⟨d0, 0, none⟩ = some (.slice j1 v0.length b1) ∧ w13.cell? ⟨d0, 1, none⟩ = some (.slice g1 s0.length a1) ∧ w13.cell? ⟨d0, 2, none⟩ = some (.slice d1 q0.length z0) := hS_
     refine norm_ (a' := ?_) ?_ ?_
     rotate_left
     ·simp only [putAll, Act.put, List.setIfInBounds_toArray, List.set_cons_zero, List.set_cons_succ]
      rfl
     refine two_ (i := 7) (j := 8) (Ni := some 10) (Nj := some 11) #[T_, T_, T_, T_, T_, T_, T_, T_, F_, T_, T_, F_, F_, F_] #[T_, T_, T_, T_, T_, T_, T_, F_, T_, T_, T_, F_, F_, F_] rfl rfl rfl rfl (two_of HT_.out (by kernel_rfl)) (by decide) (by decide) (fun K hK => ?_) (fun K hK => ?_)
     ·skip
      refine Kd.R_append_rows_step (Kd.int .i64) (w0 := w) w.heap.size (by rfl) (.tmp 7) (.tmp 9) 22 3 (.int .i64 0) 8 rfl Try.underlying22 info3 rfl (by decide) (by omega) k1 y1 s0 _ _ _ (fun k_ => some k_ ≠ (v1 : Value).ownBlock) (fun _ => False) rfl rfl ?aO ?aR (fun _ _ h => h) (fun _ h => h.elim) ?aF ?aB ?aS ?aL ?_
      (case aR => exact uc (Kd.C_below k3.out HB.out))
      (case aB => exact bl)
      (case aF => exact (fun k_ hk => Kd.fresh' (Kd.R_lt (up o0.out)) k_ hk))
      (case aO => exact (up g0.out))
      (case aS => exact (below_size bl))
      (case aL => have := LMc3.out; omega)
      intro s2 w14 ho hb hg hat
      rw [← j3.out] at ho
      replace a0 := mk (blk_grown (g := d0) (o := .cells #[.slice j1 v0.length b1, .slice g1 s0.length a1, .slice d1 q0.length z0] 29 (0, 0)) (ub a0.out) hg (Kd.R_ne g0.out a0.out (by decide)))
      replace b0 := mk (blk_grown (g := k0) (o := .cells #[.slice none 0 0, .slice none 0 0, .slice none 0 0] 29 (0, 0)) (ub b0.out) hg (Kd.R_ne g0.out b0.out (by decide)))
      replace o0 := mk (Kd.R_after (ok := (fun _ => True)) (by exact up (Kd.R_mono o0.out (fun _ hk => ⟨trivial, hk⟩))) hg hat)
      replace HB := mk hb
      have b2 := mk ho
      clear g0
      clear ho hb hg hat
      refine hK.out _ _ ⟨bc a0 0, bc a0 1, bc a0 2⟩ (fun hHeld => ?_)
      clear hK K
      refine nm 10 ?_
      exact nz (hJ0_3_4_7 (m1, v1, k1, s2) _ ⟨hHeld, (by exact up (Kd.R_mono o0.out (fun _ hk => hk.2))), (up b2.out), (ub a0.out), (ub b0.out), bl⟩)
     ·skip
      refine Kd.R_lit_step k50 _ 50 ?hg (N := 11) ?hd (xs := ([] : List (S50))) (inner := []) (ok := fun _ => True) (okp := fun _ => True) ?hr ?hp (fun _ hk => hk) trivial (Below.refl _ _) (Nat.le_refl _) (by simp) ?_; (case hd => rfl); (case hg => rfl); (case hr => first | (go_simp; done) | (go_simp; rfl)); (case hp => exact (Reps.none _ _))
      intro s1 w14 o2 hb hg_ hnew_
      clear hg_ hnew_
      (first | rw [← z1.out] at o2 | (simp only [Int.reduceToNat] at o2; rw [← z1.out] at o2))
      replace o0 := ro o0 hb
      replace g0 := ro g0 hb
      have j0 := lo o2
      replace a0 := wb a0 hb
      replace b0 := wb b0 hb
      replace HB := wh hb
      clear hb o2
      refine hK.out _ _ ⟨bc a0 0, bc a0 1, bc a0 2⟩ (fun hHeld => ?_)
      clear hK K
      refine nm 11 ?_
      exact nz (hJ0_3_4_8 (m1, v1, k1, s1) _ ⟨hHeld, (up o0.out), (up g0.out), (up j0.out), (ub a0.out), (ub b0.out), bl⟩)
   ·skip
    rintro ⟨m1, v1, k1, s1⟩ w15 ⟨hS_, h0_, h1_, h2_, h3_, h4_, h5_⟩
    have n0_ : Aside0 (Kd.R (Kd.int .i64) 3 w15 w.heap.size (fun k_ => some k_ ≠ (k1 : Value).ownBlock) v1 k2) := ⟨h0_⟩
    have n1_ : Aside0 (Kd.R (Kd.int .i64) 3 w15 w.heap.size (fun k_ => some k_ ≠ (v1 : Value).ownBlock) k1 y1) := ⟨h1_⟩
    have n2_ : Aside0 (Kd.R k50 50 w15 w.heap.size (fun _ => True) s1 q1) := ⟨h2_⟩
    have n3_ : Aside0 (w15.heap[d0]? = some (.cells #[.slice j1 v0.length b1, .slice g1 s0.length a1, .slice d1 q0.length z0] 29 (0, 0))) := ⟨h3_⟩
    have n4_ : Aside0 (w15.heap[k0]? = some (.cells #[.slice none 0 0, .slice none 0 0, .slice none 0 0] 29 (0, 0))) := ⟨h4_⟩
    have n5_ : Aside0 (Below w.heap.size w w15) := ⟨h5_⟩
    clear a0
    clear b0
    clear HB
    clear h0_ h1_ h2_ h3_ h4_ h5_
    have o0 := n0_
    have g0 := n1_
    have j0 := n2_
    have a0 := n3_
    have b0 := n4_
    have HB := n5_
    clear n0_ n1_ n2_ n3_ n4_ n5_
    have hHeld : w15.cell? ⟨d0, 0, none⟩ = some (.slice j1 v0.length b1) ∧ w15.cell? ⟨d0, 1, none⟩ = some (.slice g1 s0.length a1) ∧ w15.cell? ⟨d0, 2, none⟩ = some (.slice d1 q0.length z0) := hS_
    refine norm_ (a' := ?_) ?_ ?_
    rotate_left
    ·simp only [putAll, Act.put, List.setIfInBounds_toArray, List.set_cons_zero, List.set_cons_succ]
     rfl
    refine on 7 10 (tf 11 3) (fun K hK => ?_)
    refine Kd.R_append_rows_step (Kd.int .i64) (w0 := w) w.heap.size (by rfl) (.tmp 7) (.tmp 9) 22 3 (.int .i64 0) 8 rfl Try.underlying22 info3 rfl (by decide) (by omega) k1 y1 s0 _ _ _ (fun k_ => some k_ ≠ (v1 : Value).ownBlock) (fun _ => False) rfl rfl ?aO ?aR (fun _ _ h => h) (fun _ h => h.elim) ?aF ?aB ?aS ?aL ?_
    (case aR => exact uc (Kd.C_below k3.out HB.out))
    (case aB => exact bl)
    (case aF => exact (fun k_ hk => Kd.fresh' (Kd.R_lt (up o0.out)) k_ hk))
    (case aO => exact (up g0.out))
    (case aS => exact (below_size bl))
    (case aL => have := LMc3.out; omega)
    intro s2 w16 ho hb hg hat
    rw [← j3.out] at ho
    replace a0 := mk (blk_grown (g := d0) (o := .cells #[.slice j1 v0.length b1, .slice g1 s0.length a1, .slice d1 q0.length z0] 29 (0, 0)) (ub a0.out) hg (Kd.R_ne g0.out a0.out (by decide)))
    replace b0 := mk (blk_grown (g := k0) (o := .cells #[.slice none 0 0, .slice none 0 0, .slice none 0 0] 29 (0, 0)) (ub b0.out) hg (Kd.R_ne g0.out b0.out (by decide)))
    replace o0 := mk (Kd.R_after (ok := (fun _ => True)) (by exact up (Kd.R_mono o0.out (fun _ hk => ⟨trivial, hk⟩))) hg hat)
    replace j0 := mk (Kd.R_over' (up j0.out) (Kd.R_typed (up g0.out)) (by decide) hg)
    replace HB := mk hb
    have b2 := mk ho
    clear g0
    clear ho hb hg hat
    refine hK.out _ _ ⟨bc a0 0, bc a0 1, bc a0 2⟩ (fun hHeld => ?_)
    clear hK K
    refine nm 10 ?_
    exact nz (hJ0_3_4_7_8 (m1, v1, k1, s2, s1) _ ⟨hHeld, (by exact up (Kd.R_mono o0.out (fun _ hk => hk.2))), (up b2.out), (up j0.out), (ub a0.out), (ub b0.out), bl⟩)
  ·skip
   rintro ⟨m1, v1, k1, s2⟩ w14 ⟨hS_, h0_, h1_, h2_, h3_, h4_⟩
   have n0_ : Aside0 (Kd.R (Kd.int .i64) 3 w14 w.heap.size (fun k_ => some k_ ≠ (s2 : Value).ownBlock) v1 k2) := ⟨h0_⟩
   have n1_ : Aside0 (Kd.R (Kd.int .i64) 3 w14 w.heap.size (fun k_ => some k_ ≠ (v1 : Value).ownBlock) s2 z2) := ⟨h1_⟩
   have n2_ : Aside0 (w14.heap[d0]? = some (.cells #[.slice j1 v0.length b1, .slice g1 s0.length a1, .slice d1 q0.length z0] 29 (0, 0))) := ⟨h2_⟩
   have n3_ : Aside0 (w14.heap[k0]? = some (.cells #[.slice none 0 0, .slice none 0 0, .slice none 0 0] 29 (0, 0))) := ⟨h3_⟩
   have n4_ : Aside0 (Below w.heap.size w w14) := ⟨h4_⟩
   clear a0
   clear b0
   clear HB
   clear h0_ h1_ h2_ h3_ h4_
   have o0 := n0_
   have b2 := n1_
   have a0 := n2_
   have b0 := n3_
   have HB := n4_
   clear n0_ n1_ n2_ n3_ n4_
   have hHeld : w14.cell? ⟨d0, 0, none⟩ = some (.slice j1 v0.length b1) ∧ w14.cell? ⟨d0, 1, none⟩ = some (.slice g1 s0.length a1) ∧ w14.cell? ⟨d0, 2, none⟩ = some (.slice d1 q0.length z0) := hS_
   refine norm_ (a' := ?_) ?_ ?_
   rotate_left
   ·simp only [putAll, Act.put, List.setIfInBounds_toArray, List.set_cons_zero, List.set_cons_succ]
    rfl
   refine on 8 11 (tf 11 3) (fun K hK => ?_)
   refine Kd.R_lit_step k50 _ 50 ?hg (N := 11) ?hd (xs := ([] : List (S50))) (inner := []) (ok := fun _ => True) (okp := fun _ => True) ?hr ?hp (fun _ hk => hk) trivial (Below.refl _ _) (Nat.le_refl _) (by simp) ?_; (case hd => rfl); (case hg => rfl); (case hr => first | (go_simp; done) | (go_simp; rfl)); (case hp => exact (Reps.none _ _))
   intro s1 w15 g3 hb hg_ hnew_
   clear hg_ hnew_
   (first | rw [← z1.out] at g3 | (simp only [Int.reduceToNat] at g3; rw [← z1.out] at g3))
   replace o0 := ro o0 hb
   replace b2 := ro b2 hb
   have j0 := lo g3
   replace a0 := wb a0 hb
   replace b0 := wb b0 hb
   replace HB := wh hb
   clear hb g3
   refine hK.out _ _ ⟨bc a0 0, bc a0 1, bc a0 2⟩ (fun hHeld => ?_)
   clear hK K
   refine nm 11 ?_
   exact nz (hJ0_3_4_7_8 (m1, v1, k1, s2, s1) _ ⟨hHeld, (up o0.out), (up b2.out), (up j0.out), (ub a0.out), (ub b0.out), bl⟩)
 rintro ⟨m1, v1, k1, s2, s1⟩ w16 ⟨hS_, h0_, h1_, h2_, h3_, h4_, h5_⟩
 have n0_ : Aside0 (Kd.R (Kd.int .i64) 3 w16 w.heap.size (fun k_ => some k_ ≠ (s2 : Value).ownBlock) v1 k2) := ⟨h0_⟩
 have n1_ : Aside0 (Kd.R (Kd.int .i64) 3 w16 w.heap.size (fun k_ => some k_ ≠ (v1 : Value).ownBlock) s2 z2) := ⟨h1_⟩
 have n2_ : Aside0 (Kd.R k50 50 w16 w.heap.size (fun _ => True) s1 q1) := ⟨h2_⟩
 have n3_ : Aside0 (w16.heap[d0]? = some (.cells #[.slice j1 v0.length b1, .slice g1 s0.length a1, .slice d1 q0.length z0] 29 (0, 0))) := ⟨h3_⟩
 have n4_ : Aside0 (w16.heap[k0]? = some (.cells #[.slice none 0 0, .slice none 0 0, .slice none 0 0] 29 (0, 0))) := ⟨h4_⟩
 have n5_ : Aside0 (Below w.heap.size w w16) := ⟨h5_⟩
 clear a0
 clear b0
 clear HB
 clear h0_ h1_ h2_ h3_ h4_ h5_
 have o0 := n0_
 have b2 := n1_
 have j0 := n2_
 have a0 := n3_
 have b0 := n4_
 have HB := n5_
 clear n0_ n1_ n2_ n3_ n4_ n5_
 have hHeld : w16.cell? ⟨d0, 0, none⟩ = some (.slice j1 v0.length b1) ∧ w16.cell? ⟨d0, 1, none⟩ = some (.slice g1 s0.length a1) ∧ w16.cell? ⟨d0, 2, none⟩ = some (.slice d1 q0.length z0) := hS_
 refine norm_ (a' := ?_) ?_ ?_
 rotate_left
 ·simp only [putAll, Act.put, List.setIfInBounds_toArray, List.set_cons_zero, List.set_cons_succ]
  rfl
 refine on 11 14 (tf 12 2) (fun K hK => ?_)
 refine Kd.R_append_rows_step k50 (w0 := w) w.heap.size (by rfl) (.tmp 11) (.tmp 13) 27 50 (.agg #[(.int .i64 0), (.int .i64 0)]) 16 rfl Try.underlying27 info50 rfl (by decide) (by omega) s1 q1 q0 _ _ _ (fun _ => True) (fun _ => False) rfl rfl ?aO ?aR (fun _ _ h => h) (fun _ h => h.elim) ?aF ?aB ?aS ?aL ?_
 (case aR => exact uc (Kd.C_below q3.out HB.out))
 (case aB => exact bl)
 (case aF => exact (fun _ _ => trivial))
 (case aO => exact (up j0.out))
 (case aS => exact (below_size bl))
 (case aL => have := LMc4.out; omega)
 intro y4 w17 ho hb hg hat
 rw [← o3.out] at ho
 replace a0 := mk (blk_grown (g := d0) (o := .cells #[.slice j1 v0.length b1, .slice g1 s0.length a1, .slice d1 q0.length z0] 29 (0, 0)) (ub a0.out) hg (Kd.R_ne j0.out a0.out (by decide)))
 replace b0 := mk (blk_grown (g := k0) (o := .cells #[.slice none 0 0, .slice none 0 0, .slice none 0 0] 29 (0, 0)) (ub b0.out) hg (Kd.R_ne j0.out b0.out (by decide)))
 replace o0 := mk (Kd.R_over' (up o0.out) (Kd.R_typed (up j0.out)) (by decide) hg)
 replace b2 := mk (Kd.R_over' (up b2.out) (Kd.R_typed (up j0.out)) (by decide) hg)
 replace HB := mk hb
 have m3 := mk ho
 clear j0
 clear ho hb hg hat
 obtain ⟨v4, d4, z3⟩ := Kd.R_slice m3.out
 (first | subst z3 | (injection z3 with f1_ f2_ f3_; have f4_ := f1_.symm; have f5_ := f3_.symm; clear f1_ f2_ f3_; subst f4_; subst f5_))
 obtain ⟨s4, b4, y3⟩ := Kd.R_slice b2.out
 (first | subst y3 | (injection y3 with f1_ f2_ f3_; have f4_ := f1_.symm; have f5_ := f3_.symm; clear f1_ f2_ f3_; subst f4_; subst f5_))
 obtain ⟨q4, a4, v3⟩ := Kd.R_slice o0.out
 (first | subst v3 | (injection v3 with f1_ f2_ f3_; have f4_ := f1_.symm; have f5_ := f3_.symm; clear f1_ f2_ f3_; subst f4_; subst f5_))
 refine hK.out _ _ ⟨bc a0 0, bc a0 1, bc a0 2⟩ (fun hHeld => ?_)
 clear hK K
 refine nm 14 ?_
 refine pu 12 15 (tf 13 1) ?_
 refine one_ (i := 13) (N := none) #[T_, T_, T_, T_, T_, T_, T_, T_, T_, T_, T_, T_, T_, T_] rfl rfl (one_of HT_.out (by kernel_rfl)) (by decide) (fun K hK => ?_)
 have hs21 : w17.cell? ⟨k0, 0, none⟩ = some (.slice none 0 0) := (blk_cell b0.out 0).trans rfl
 have hfs21 := blk_frozen b0.out 0
 have hns21_0 := y0.out
 have hms21_0 := d2.out
 have hs22 : w17.cell? ⟨k0, 1, none⟩ = some (.slice none 0 0) := (blk_cell b0.out 1).trans rfl
 have hfs22 := blk_frozen b0.out 1
 have hns22_0 := y0.out
 have hms22_0 := d2.out
 have hs23 : w17.cell? ⟨k0, 2, none⟩ = some (.slice none 0 0) := (blk_cell b0.out 2).trans rfl
 have hfs23 := blk_frozen b0.out 2
 have hns23_0 := y0.out
 have hms23_0 := d2.out
 refine skip_ (w1 := ?_) (by rfl) rfl ?_ ?_
 rotate_left
 ·go_simp
  rfl
 refine hK.out _ _ ⟨((cell_far (p := ⟨k0, _, none⟩) y0.out _).trans (((cell_far (p := ⟨k0, _, none⟩) y0.out _).trans (((cell_far (p := ⟨k0, _, none⟩) y0.out _).trans (hHeld.1)))))), ((cell_far (p := ⟨k0, _, none⟩) y0.out _).trans (((cell_far (p := ⟨k0, _, none⟩) y0.out _).trans (((cell_far (p := ⟨k0, _, none⟩) y0.out _).trans (hHeld.2.1)))))), ((cell_far (p := ⟨k0, _, none⟩) y0.out _).trans (((cell_far (p := ⟨k0, _, none⟩) y0.out _).trans (((cell_far (p := ⟨k0, _, none⟩) y0.out _).trans (hHeld.2.2))))))⟩ (fun hHeld => ?_)
 clear hK K
 refine done_ (done_of HT_.out (by kernel_rfl)) ?_
 try go_wp2
 refine bodyPost_ret (results_cell_row rfl _ _ k0 29 #[.slice q4 k2.length a4, .slice s4 z2.length b4, .slice v4 s3.length d4] (0, 0) _ rfl bq Try.underlying29 rfl (by kernel_rfl)) rfl ?_
 exact ⟨_, _, _, rx, (by exact rm (rs1 o0 b0)), (by exact rm (rs1 b2 b0)), (by exact rm (rs1 m3 b0)), bl⟩

end Go.Proofs.Ytlikcmonejefoab.PFnRipples
