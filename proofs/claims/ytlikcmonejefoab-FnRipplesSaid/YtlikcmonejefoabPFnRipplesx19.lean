-- printed by a program of this session, a turned copy of the print of the kit
import Derived.Test.YtlikcmonejefoabSr
import Derived.Test.YtlikcmonejefoabPFnRipplesx0
import Derived.Test.YtlikcmonejefoabPFnRipplesx13
import Derived.Test.YtlikcmonejefoabPFnRipplesx18
namespace Go.Proofs.Ytlikcmonejefoab.PFnRipples
open Go.RowKit Go.Proofs.YtlikcmonejefoabW.PrintWords Go.Proofs.YtlikcmonejefoabW.PrintLast Go.Proofs.YtlikcmonejefoabW.PrintMore Go.Proofs.Ytlikcmonejefoab.Sq
attribute [local go_sem] max2_int min2_int max_two min_two max_three min_three max_four min_four Giv.cell_twice   -- for this text's walks alone
set_option linter.unusedVariables false
set_option linter.unusedSimpArgs false

/-! ### spec_l4Any: function 43 -/
def spec_l4Any.f (k : Nat) (s0_0 : List Int) (s0_1 : Int) (s0_2 : Int) : Option (List Int × List Int × (List (S50)) × Int × Int) := (spec_l4Cracker.f k s0_0 s0_1 s0_2).bind fun s0 => ((spec_l1Below.f s0_0 s0.2.2.2.1 s0.2.2.2.2 12).bind fun b1 => (if b1.1 = 0 then (if (s0.1.length : Int) > 0 then ((spec_l1PickInt.f s0_0 b1.2.1 b1.2.2 (([0, 999, 1000, (-5)] : List Int))).bind fun y1 => (if 0 < (s0.1.length : Int) then (some ((s0.1.set (0 : Int).toNat y1.1), s0.2.1, s0.2.2.1, y1.2.1, y1.2.2)) else (none))) else (some (s0.1, s0.2.1, s0.2.2.1, b1.2.1, b1.2.2))) else (if b1.1 = 1 then ((spec_l1Below.f s0_0 b1.2.1 b1.2.2 9).bind fun z2 => ((spec_l1Below.f s0_0 z2.2.1 z2.2.2 9).bind fun y2 => (if s0.2.2.1.length < 8796093022208 then (some (s0.1, s0.2.1, (s0.2.2.1 ++ [(⟨z2.1, y2.1⟩ : S50)]), y2.2.1, y2.2.2)) else (none)))) else (if b1.1 = 2 then (if s0.2.1.length < 17592186044416 then (some (s0.1, (s0.2.1 ++ [0]), s0.2.2.1, b1.2.1, b1.2.2)) else (none)) else (some (s0.1, s0.2.1, s0.2.2.1, b1.2.1, b1.2.2))))))
theorem spec_l4Any.mono : ∀ a0 a1 a2 k, LeO (spec_l4Any.f k a0 a1 a2) (spec_l4Any.f (k + 1) a0 a1 a2) := by
 intro a0 a1 a2 k
 unfold spec_l4Any.f
 exact mo
instance spec_l4Any.mi (a0 a1 a2 k) : LeC (spec_l4Any.f k a0 a1 a2) (spec_l4Any.f (k + 1) a0 a1 a2) := ⟨spec_l4Any.mono a0 a1 a2 k⟩
def spec_l4Any.T7 : Bool × List (List Nat × List Nat) := (true, [([], []), ([0], [0]), ([], []), ([2], [2]), ([], []), ([4, 3], [4]), ([3, 5], [3, 5]), ([6], [6]), ([1, 7, 5], [1, 7]), ([0, 1, 2, 3, 4, 5, 6, 7, 8], []), ([9, 8, 8, 0, 1, 2, 3, 4, 5, 6, 7, 8], [8, 9])])
def spec_l4Any.B7 : List Nat := [0, 1, 0, 4, 0, 28, 60, 124, 255, 511, 1023]
theorem spec_l4Any.tab7 : rtab .any (opsOf Try.f43 7) = spec_l4Any.T7 := by kernel_rfl
theorem spec_l4Any.bits7 : waitsOk spec_l4Any.T7.2 spec_l4Any.B7 = true := by kernel_rfl
set_option maxHeartbeats 8000000 in
set_option maxRecDepth 100000 in
theorem spec_l4Any.calls (k : Nat) (g : Nat) (s0_0 : List Int) (s0_1 : Int) (s0_2 : Int) (r1 : List Int) (r2 : List Int) (r3 : List (S50)) (r4 : Int) (r5 : Int) (w0 w : World) (hI : IsS80 w0 w g s0_0 s0_1 s0_2) (hB : Below w0.heap.size w0 w) (h : spec_l4Any.f k s0_0 s0_1 s0_2 = some (r1, r2, r3, r4, r5)) :
  Calls Try.prog 43 #[.pointer (some ⟨g, 0, none⟩)] w fun e w' => ∃ v0_ v1_ v2_ : Value, e = .returned (.agg #[v0_, v1_, v2_]) ∧ Kd.R (Kd.int .i64) 3 w' w.heap.size (fun k_ => some k_ ≠ (v1_ : Value).ownBlock) v0_ r1 ∧ Kd.R (Kd.int .i64) 3 w' w.heap.size (fun k_ => some k_ ≠ (v0_ : Value).ownBlock) v1_ r2 ∧ Kd.R k50 50 w' w.heap.size (fun _ => True) v2_ r3 ∧ IsS80 w0 w' g s0_0 r4 r5 ∧ Below w0.heap.size w0 w' ∧ KeepBut w w' g none := by
 have hu29 := Try.underlying29
 have hu50 := Try.underlying50
 have HI0 := mk hI
 have HK := mk (KeepBut.refl w g none)
 have HL := mk hB.size
 clear hI
 have HW0 := mk hB.size
 have HB := mk hB
 clear hB
 have H : ((spec_l4Cracker.f k s0_0 s0_1 s0_2).bind fun s0 => ((spec_l1Below.f s0_0 s0.2.2.2.1 s0.2.2.2.2 12).bind fun b1 => (if b1.1 = 0 then (if (s0.1.length : Int) > 0 then ((spec_l1PickInt.f s0_0 b1.2.1 b1.2.2 (([0, 999, 1000, (-5)] : List Int))).bind fun y1 => (if 0 < (s0.1.length : Int) then (some ((s0.1.set (0 : Int).toNat y1.1), s0.2.1, s0.2.2.1, y1.2.1, y1.2.2)) else (none))) else (some (s0.1, s0.2.1, s0.2.2.1, b1.2.1, b1.2.2))) else (if b1.1 = 1 then ((spec_l1Below.f s0_0 b1.2.1 b1.2.2 9).bind fun z2 => ((spec_l1Below.f s0_0 z2.2.1 z2.2.2 9).bind fun y2 => (if s0.2.2.1.length < 8796093022208 then (some (s0.1, s0.2.1, (s0.2.2.1 ++ [(⟨z2.1, y2.1⟩ : S50)]), y2.2.1, y2.2.2)) else (none)))) else (if b1.1 = 2 then (if s0.2.1.length < 17592186044416 then (some (s0.1, (s0.2.1 ++ [0]), s0.2.2.1, b1.2.1, b1.2.2)) else (none)) else (some (s0.1, s0.2.1, s0.2.2.1, b1.2.1, b1.2.2))))))) = some (r1, r2, r3, r4, r5) := h
 clear h
 revert H; refine bo ?_; rintro ⟨j1, o1, q1, m1, k1⟩ A2 H
 dsimp only at H
 revert H; refine bo ?_; rintro ⟨d2, o2, m2⟩ A3 H
 dsimp only at H
 revert H; refine ci (fun c4 H => ?_) fun c4 H => ?_
 ·have qb3 : (d2 == 0) = true := beq_iff_eq.mpr c4
  have ob3 : (d2 != 0) = false := bne_eq_false_iff_eq.mpr c4
  clear c4
  revert H; refine ci (fun c5 H => ?_) fun c5 H => ?_
  ·have mb3 : decide (0 < (j1.length : Int)) = true := decide_eq_true c5
   have kb3 : decide (0 < j1.length) = true := decide_eq_true (by omega)
   clear c5
   obtain ⟨d4, hy_⟩ : ∃ y_ : List Int, y_ = (([0, 999, 1000, (-5)] : List Int)) := ⟨_, rfl⟩
   replace H : ((spec_l1PickInt.f s0_0 o2 m2 d4).bind fun y1 => (if 0 < (j1.length : Int) then (some ((j1.set (0 : Int).toNat y1.1), o1, q1, y1.2.1, y1.2.2)) else (none))) = some (r1, r2, r3, r4, r5) := hw
   have g7 := mk hy_
   clear hy_
   revert H; refine bo ?_; rintro ⟨k2, s8, o8⟩ A6 H
   dsimp only at H
   revert H; refine ca fun c7 H => ?_
   have qb4 : decide (0 < (j1.length : Int)) = true := decide_eq_true c7
   have ob4 : decide (0 < j1.length) = true := decide_eq_true (by omega)
   clear c7
   obtain ⟨ka8, hy_⟩ : ∃ y_ : List Int, y_ = (j1.set (0 : Int).toNat k2) := ⟨_, rfl⟩
   replace H : (some (ka8, o1, q1, s8, o8)) = some (r1, r2, r3, r4, r5) := hw
   have ka7 := mk hy_
   clear hy_
   simp only [Option.some.injEq, Prod.mk.injEq] at H
   obtain ⟨rfl, rfl, rfl, rfl, rfl⟩ := H
   go_enter Try.func43, Try.ntmps43
   try go_wp2_with (first | ((with_reducible refine gate_dst (N := 2) rfl ?_); refine bx 2 #[.slice none 0 0, .slice none 0 0, .slice none 0 0] 29 ?_; intro m0 hg w9 hbox hb; replace HB := bstp HB hb; have d0 := mk hbox; have q3 := mk ((by rw [hg]; exact (keep_size (w := w) (g := g) (row := none) ke) : w.heap.size ≤ m0)); have v3 := mk ((Nat.le_trans HW0.out (by rw [hg]; exact (keep_size (w := w) (g := g) (row := none) ke) : w.heap.size ≤ m0) : w0.heap.size ≤ m0)); replace HK := kb HK ke hb; have g1 := mk ((by rw [hg]; exact Nat.ne_of_lt (IsS80.lt (show IsS80 w0 _ g s0_0 s0_1 s0_2 from is0)) : g ≠ m0)); have q0 := mk ((by rw [hg]; exact Nat.ne_of_gt (IsS80.lt (show IsS80 w0 _ g s0_0 s0_1 s0_2 from is0)) : m0 ≠ g)); replace HI0 := mk (IsS80.below is0 hb); clear hb hbox hg) | ((with_reducible refine gate_callee (f := 62) rfl ?_); refine gl (some 5) rfl Try.func62 #[.pointer (some ⟨g, 0, none⟩)] ?_; (with_reducible refine (spec_l4Cracker.calls k g s0_0 s0_1 s0_2 j1 o1 q1 m1 k1 w0 _ ?side1 ?side2 A2.out).mono ?_); (case side1 => exact is0); (case side2 => exact bm); rintro e w10 ⟨q7, o7, m7, rfl, ho0, ho1, ho2, hi, hb, hk⟩; refine ⟨_, rfl, ?_⟩; replace d0 := mk (KeepBut.blk hk (g' := m0) (o := .cells #[.slice none 0 0, .slice none 0 0, .slice none 0 0] 29 (0, 0)) (ub d0.out) q0.out (by simp)); have g0 := mk (Kd.R_lower ho0 (keep_size (w := w) (g := g) (row := none) ke)); have k0 := mk (Kd.R_lower ho1 (keep_size (w := w) (g := g) (row := none) ke)); have j0 := mk (Kd.R_lower ho2 (keep_size (w := w) (g := g) (row := none) ke)); replace HK := kt HK ke hk; replace HB := mk hb; replace HI0 := mk hi; (try clear hb hk hi ho0 ho1 ho2)) | ((with_reducible refine gate_dst (N := 3) rfl ?_); refine bx 3 #[.slice none 0 0, .slice none 0 0, .slice none 0 0] 29 ?_; intro o0 hg w11 hbox hb; replace g0 := ro g0 hb; replace k0 := ro k0 hb; replace j0 := ro j0 hb; replace HB := bstp HB hb; have b0 := mk hbox; have o3 := mk ((by rw [hg]; exact (keep_size (w := w) (g := g) (row := none) ke) : w.heap.size ≤ o0)); have s3 := mk ((Nat.le_trans HW0.out (by rw [hg]; exact (keep_size (w := w) (g := g) (row := none) ke) : w.heap.size ≤ o0) : w0.heap.size ≤ o0)); replace HK := kb HK ke hb; have z0 := nl d0 hg; have y0 := nr d0 hg; replace d0 := wb d0 hb; have d1 := mk ((by rw [hg]; exact Nat.ne_of_lt (IsS80.lt (show IsS80 w0 _ g s0_0 m1 k1 from is0)) : g ≠ o0)); have v0 := mk ((by rw [hg]; exact Nat.ne_of_gt (IsS80.lt (show IsS80 w0 _ g s0_0 m1 k1 from is0)) : o0 ≠ g)); replace HI0 := mk (IsS80.below is0 hb); clear hb hbox hg; obtain ⟨da8, z3, ab3⟩ := Kd.R_slice g0.out; subst ab3; have a9 := y0.out; have y8 := z0.out; have z8 := v0.out; have v8 := d1.out; obtain ⟨v4, s4, q4, o4, m4, k4⟩ := bz3 b0; obtain ⟨b4, y3, zb2⟩ := Kd.R_slice k0.out; subst zb2; obtain ⟨b6, q5, yb2⟩ := Kd.R_slice j0.out; subst yb2) | ((with_reducible refine gate_callee (f := 52) rfl ?_); refine gl (some 7) rfl Try.func52 #[.pointer (some ⟨g, 0, none⟩), .int .i64 12] ?_; (with_reducible refine (spec_l1Below.calls g s0_0 m1 k1 12 d2 o2 m2 w0 _ ?side1 ?side2 A3.out).mono ?_); (case side1 => exact is0); (case side2 => exact bm); rintro e w18 ⟨rfl, hi, hb, hk⟩; refine ⟨_, rfl, ?_⟩; have n0_ := mk (KeepBut.blk hk (g' := m0) (o := .cells #[.slice none 0 0, .slice none 0 0, .slice none 0 0] 29 (0, 0)) bq q0.out (by simp)); have n1_ := mk (Kd.R_mono (Kd.R_keep (IsS80.apart (show IsS80 w0 _ g s0_0 m1 k1 from is0) (by exact rs1 g0 b0) (by decide)) hk (fun _ h => h.2)) (fun _ h => h.1)); have n2_ := mk (Kd.R_mono (Kd.R_keep (IsS80.apart (show IsS80 w0 _ g s0_0 m1 k1 from is0) (by exact rs1 k0 b0) (by decide)) hk (fun _ h => h.2)) (fun _ h => h.1)); have n3_ := mk (Kd.R_mono (Kd.R_keep (IsS80.apart (show IsS80 w0 _ g s0_0 m1 k1 from is0) (by exact rs1 j0 b0) (by decide)) hk (fun _ h => h.2)) (fun _ h => h.1)); have n4_ := mk (KeepBut.blk hk (g' := o0) (o := .cells #[.slice da8 j1.length z3, .slice b4 o1.length y3, .slice b6 q1.length q5] 29 (0, 0)) bq v0.out (by simp)); have n5_ := mk (kq HK ke hk (.inl rfl)); have n6_ := mk (hb); have n7_ := mk (hi); clear d0; clear g0; clear k0; clear j0; clear b0; clear HK; clear HB; clear HI0; have d0 := n0_; have g0 := n1_; have k0 := n2_; have j0 := n3_; have b0 := n4_; have HK := n5_; have HB := n6_; have HI0 := n7_; clear n0_ n1_ n2_ n3_ n4_ n5_ n6_ n7_; (try clear hb hk hi); obtain ⟨oa6, ma6, ka6, sa2, qa2, oa2⟩ := bz3 b0))
   replace g0 := mk (Kd.R_drew g0.out)
   replace k0 := mk (Kd.R_drew k0.out)
   replace j0 := mk (Kd.R_drew j0.out)
   replace d0 := wd d0
   replace b0 := wd b0
   replace HI0 := mk (IsS80.drew HI0.out)
   replace HK := mk (keep_drew HK.out)
   replace HB := mk (below_drew1 HB.out)
   refine start_ (n := 7) (S := fun w' => w'.cell? ⟨o0, 0, none⟩ = some (.slice da8 j1.length z3) ∧ w'.cell? ⟨o0, 1, none⟩ = some (.slice b4 o1.length y3) ∧ w'.cell? ⟨o0, 2, none⟩ = some (.slice b6 q1.length q5)) (ds := [6]) #[F_, F_, F_, F_, F_, F_, F_] (by kernel_rfl) rfl rfl ⟨bc b0 0, bc b0 1, bc b0 2⟩ (fun hHeld => ?_)
   generalize w18.drew = w20 at g0 k0 j0 d0 b0 HI0 HK HB hHeld ⊢
   refine pu 0 14 (tf 1 6) ?_
   refine pu 2 16 #[T_,F_,T_,F_,F_,F_,F_] ?_
   refine tk 1 15 (tf 3 4) hHeld ?_
   refine on 3 17 (tf 4 3) (fun K hK => ?_)
   refine Kd.R_lit_step (Kd.int .i64) _ 3 ?hg (N := 17) ?hd (xs := ([0, 999, 1000, (-5)] : List Int)) (inner := [.int .i64 0, .int .i64 999, .int .i64 1000, .int .i64 (-5)]) (ok := fun _ => True) (okp := fun _ => True) ?hr ?hp (fun _ hk => hk) trivial (Below.refl _ _) (Nat.le_refl _) (by simp) ?_; (case hd => rfl); (case hg => rfl); (case hr => first | (go_simp; done) | (go_simp; rfl)); (case hp => exact (Reps.one (show Kd.M (Kd.int .i64) _ _ _ 0 [.int .i64 0] from rfl) (Reps.one (show Kd.M (Kd.int .i64) _ _ _ 999 [.int .i64 999] from rfl) (Reps.one (show Kd.M (Kd.int .i64) _ _ _ 1000 [.int .i64 1000] from rfl) (Reps.one (show Kd.M (Kd.int .i64) _ _ _ (-5) [.int .i64 (-5)] from rfl) (Reps.none _ _))))))
   intro mb4 w21 g4 hb hg_ hnew_
   clear hg_ hnew_
   (first | rw [← g7.out] at g4 | (simp only [Int.reduceToNat] at g4; rw [← g7.out] at g4))
   replace j0 := ro j0 hb
   have b2 := mk (Kd.R_lower (Kd.R_new' (Kd.R_new' g4 (Kd.R_lt (up g0.out))) (Kd.R_lt (up k0.out))) (keep_size (w := w) (g := g) (row := none) ke))
   replace g0 := el g0 g4 hb
   replace k0 := el k0 g4 hb
   replace d0 := wb d0 hb
   replace b0 := wb b0 hb
   replace HK := kb HK ke hb
   replace HB := bstp HB hb
   replace HI0 := mk (IsS80.below is0 hb)
   clear hb g4
   obtain ⟨b8, z7, sa8⟩ := Kd.R_slice b2.out
   (first | subst sa8 | (injection sa8 with f1_ f2_ f3_; have f4_ := f1_.symm; have f5_ := f3_.symm; clear f1_ f2_ f3_; subst f4_; subst f5_))
   refine hK.out _ _ ⟨bc b0 0, bc b0 1, bc b0 2⟩ (fun hHeld => ?_)
   clear hK K
   refine nm 17 ?_
   refine on 4 18 (tf 5 2) (fun K hK => ?_)
   refine gs Try.func63 #[.pointer (some ⟨g, 0, none⟩), .slice b8 d4.length z7] ?_
   with_reducible refine (spec_l1PickInt.calls g s0_0 o2 m2 _ _ d4 k2 s8 o8 w0 _ ?side1 ?side2 ?side3 ?side4 ?side5 A6.out).mono ?_
   (case side1 => exact is0)
   (case side2 => exact bm)
   (case side3 => exact ra b2)
   (case side4 => exact rb b2)
   (case side5 => exact far_slice (IsS80.own_ne HI0.out b2.out (by decide)))
   rintro e w24 ⟨rfl, hi, hb, hk⟩
   refine ⟨_, rfl, ?_⟩
   replace d0 := mk (KeepBut.blk hk (g' := m0) (o := .cells #[.slice none 0 0, .slice none 0 0, .slice none 0 0] 29 (0, 0)) (ub d0.out) q0.out (by simp))
   replace g0 := kp (IsS80.apart (show IsS80 w0 _ g s0_0 o2 m2 from is0) (up g0.out) (by decide)) hk
   replace k0 := kp (IsS80.apart (show IsS80 w0 _ g s0_0 o2 m2 from is0) (up k0.out) (by decide)) hk
   replace j0 := kp (IsS80.apart (show IsS80 w0 _ g s0_0 o2 m2 from is0) (up j0.out) (by decide)) hk
   replace b0 := mk (KeepBut.blk hk (g' := o0) (o := .cells #[.slice da8 j1.length z3, .slice b4 o1.length y3, .slice b6 q1.length q5] 29 (0, 0)) (ub b0.out) v0.out (by simp))
   replace b2 := kp (IsS80.apart (show IsS80 w0 _ g s0_0 o2 m2 from is0) (up b2.out) (by decide)) hk
   replace HK := kt HK ke hk
   replace HB := mk hb
   replace HI0 := mk hi
   (try clear hb)
   (try clear hb2)
   (try clear hk)
   (try clear hi)
   have p8 : 0 ≤ (0 : Int) := (by omega)
   have q8 : (0 : Int) < ((j1.length : Int) : Int) := dt
   have qi8 : (0 < j1.length) = True := eq_true (by omega)
   obtain ⟨go8, co8, eo8, gb8, gl8, cl8, HG8⟩ := Kd.R_form g0.out (by omega)
   (first | cases eo8 | (injection eo8 with ea_ en_ ec_; (first | subst ea_ | (injection ea_ with ea_; subst ea_)); subst ec_; clear en_))
   have GB8 := mk gb8
   have GG8 := mk HG8
   clear gb8 gl8 HG8
   obtain ⟨o6, z6⟩ := Kd.R_celln 0 g0.out (0 : Int) p8 q8
   (try rw [show ((0 : Int)).toNat = 0 from rfl] at o6)
   (try simp only [Nat.reduceMul, Nat.zero_mul, Nat.zero_add, Nat.reduceAdd] at o6)
   (try rw [show ((0 : Int)).toNat = 0 from rfl] at z6)
   (try simp only [Nat.reduceMul, Nat.zero_mul, Nat.zero_add, Nat.reduceAdd] at z6)
   replace p8 := eq_true p8
   replace q8 := eq_true q8
   have HN0_go8 := mk (show g ≠ go8 from by have h_ := IsS80.own_ne HI0.out g0.out (by decide); intro e_; exact h_ (by rw [e_]; rfl))
   have sa7 := Kd.R_putn g0.out (0 : Int) k2
   rw [← ka7.out] at sa7
   have HQ25 := mk sa7
   clear sa7
   refine hK.out _ _ ⟨bc b0 0, bc b0 1, bc b0 2⟩ (fun hHeld => ?_)
   clear hK K
   refine nm 18 ?_
   refine pu 5 19 (tf 6 1) ?_
   refine last_ (i := 6) (N := none) #[T_, T_, T_, T_, T_, T_, T_] rfl rfl (by kernel_rfl) (by decide) (fun K hK => ?_)
   refine skip_ (w1 := ?_) (by rfl) rfl ?_ ?_
   rotate_left
   ·go_simp
    rfl
   refine hK.out _ _ ?_
   clear hK K
   refine done_ (by kernel_rfl) ?_
   have n0_ : Aside0 (Kd.R (Kd.int .i64) 3 (w24.setCell ⟨go8, 0, none⟩ (.int .i64 k2)) w.heap.size (fun k_ => some k_ ≠ (.slice b4 o1.length y3 : Value).ownBlock ∧ some k_ ≠ (.slice b8 d4.length z7 : Value).ownBlock) (.slice (some ⟨go8, 0, none⟩) j1.length z3) ka8) := ⟨by (with_reducible repeat (first | apply Kd.R_alloc | apply Kd.R_drewN | apply Kd.R_drew)); exact HQ25.out⟩
   have n1_ : Aside0 (Kd.R (Kd.int .i64) 3 (w24.setCell ⟨go8, 0, none⟩ (.int .i64 k2)) w.heap.size (fun k_ => some k_ ≠ (.slice (some ⟨go8, 0, none⟩) j1.length z3 : Value).ownBlock ∧ some k_ ≠ (.slice b8 d4.length z7 : Value).ownBlock) (.slice b4 o1.length y3) o1) := ⟨by (with_reducible repeat (first | apply Kd.R_alloc | apply Kd.R_drewN | apply Kd.R_drew)); exact Kd.R_mono (Kd.R_far (p := ⟨go8, 0, none⟩) (Kd.R_mono k0.out (fun k_ hk => (⟨hk, fun e_ => hk.1 (by rw [e_]; rfl)⟩ : _ ∧ k_ ≠ go8))) (fun _ hk => hk.2) (.int .i64 k2)) (fun _ hk => by first | exact ⟨hk.1.1, hk.1.2⟩ | (revert hk; simp only [and_imp]; intros; (repeat' (refine And.intro ?_ ?_)) <;> assumption))⟩
   have n2_ : Aside0 (Kd.R k50 50 (w24.setCell ⟨go8, 0, none⟩ (.int .i64 k2)) w.heap.size (fun _ => True) (.slice b6 q1.length q5) q1) := ⟨by (with_reducible repeat (first | apply Kd.R_alloc | apply Kd.R_drewN | apply Kd.R_drew)); exact Kd.R_mono (Kd.R_far (p := ⟨go8, 0, none⟩) (Kd.R_types j0.out GG8.out (by decide)) (fun _ hk => hk.2) (.int .i64 k2)) (fun _ hk => trivial)⟩
   have n3_ : Aside0 (Kd.R (Kd.int .i64) 3 (w24.setCell ⟨go8, 0, none⟩ (.int .i64 k2)) w.heap.size (fun k_ => some k_ ≠ (.slice (some ⟨go8, 0, none⟩) j1.length z3 : Value).ownBlock ∧ some k_ ≠ (.slice b4 o1.length y3 : Value).ownBlock) (.slice b8 d4.length z7) d4) := ⟨by (with_reducible repeat (first | apply Kd.R_alloc | apply Kd.R_drewN | apply Kd.R_drew)); exact Kd.R_mono (Kd.R_far (p := ⟨go8, 0, none⟩) (Kd.R_mono b2.out (fun k_ hk => (⟨hk, fun e_ => hk.1.2 (by rw [e_]; rfl)⟩ : _ ∧ k_ ≠ go8))) (fun _ hk => hk.2) (.int .i64 k2)) (fun _ hk => by first | exact ⟨hk.1.1.2, hk.1.2⟩ | (revert hk; simp only [and_imp]; intros; (repeat' (refine And.intro ?_ ?_)) <;> assumption))⟩
   have n4_ : Aside0 ((w24.setCell ⟨go8, 0, none⟩ (.int .i64 k2)).heap[m0]? = some (.cells #[.slice none 0 0, .slice none 0 0, .slice none 0 0] 29 (0, 0))) := ⟨by (with_reducible repeat (first | refine blk_drewN ?_ _ | refine blk_drew ?_ | refine blk_alloc ?_ _)); refine blk_far ?_ (by have h_ := Kd.R_ne g0.out d0.out (by decide); intro e_; exact h_ (by rw [e_]; rfl)) _; (with_reducible repeat (first | refine blk_drewN ?_ _ | refine blk_drew ?_ | refine blk_alloc ?_ _)); exact d0.out⟩
   have n5_ : Aside0 ((w24.setCell ⟨go8, 0, none⟩ (.int .i64 k2)).heap[o0]? = some (.cells #[.slice (some ⟨go8, 0, none⟩) j1.length z3, .slice b4 o1.length y3, .slice b6 q1.length q5] 29 (0, 0))) := ⟨by (with_reducible repeat (first | refine blk_drewN ?_ _ | refine blk_drew ?_ | refine blk_alloc ?_ _)); refine blk_far ?_ (by have h_ := Kd.R_ne g0.out b0.out (by decide); intro e_; exact h_ (by rw [e_]; rfl)) _; (with_reducible repeat (first | refine blk_drewN ?_ _ | refine blk_drew ?_ | refine blk_alloc ?_ _)); exact b0.out⟩
   have n6_ : Aside0 (IsS80 w0 (w24.setCell ⟨go8, 0, none⟩ (.int .i64 k2)) g s0_0 s8 o8) := ⟨by repeat (first | (with_reducible first | exact HI0.out | apply IsS80.alloc | apply IsS80.drewN | apply IsS80.drew | apply IsS80.set_1 | apply IsS80.set_2 | refine IsS80.far ?_ HN0_go8.out _ | refine IsS80.far ?_ g1.out _ | refine IsS80.far ?_ d1.out _) | exact HI0.out)⟩
   have n7_ : Aside0 (KeepBut w (w24.setCell ⟨go8, 0, none⟩ (.int .i64 k2)) g none) := ⟨by repeat (first | (with_reducible first | exact HK.out | apply KeepBut.set_ | apply keep_drewN | apply keep_drew | apply keep_alloc | refine keep_far ?_ GB8.out _ | refine keep_far ?_ q3.out _ | refine keep_far ?_ o3.out _) | exact HK.out)⟩
   have n8_ : Aside0 (Below w0.heap.size w0 (w24.setCell ⟨go8, 0, none⟩ (.int .i64 k2))) := ⟨by repeat (first | (with_reducible first | exact HB.out | apply below_alloc | apply pw_below_drewN | apply below_drew1 | refine below_set ?_ (Nat.le_trans HL.out GB8.out) | refine below_set ?_ (IsS80.ge HI0.out) | refine below_set ?_ v3.out | refine below_set ?_ s3.out) | exact HB.out)⟩
   (try clear g0)
   (try clear k0)
   (try clear j0)
   (try clear b2)
   (try clear d0)
   (try clear b0)
   (try clear HI0)
   (try clear HK)
   (try clear HB)
   generalize (w24.setCell ⟨go8, 0, none⟩ (.int .i64 k2)) = w26 at n0_ n1_ n2_ n3_ n4_ n5_ n6_ n7_ n8_ ⊢
   have g0 := n0_
   have k0 := n1_
   have j0 := n2_
   have b2 := n3_
   have d0 := n4_
   have b0 := n5_
   have HI0 := n6_
   have HK := n7_
   have HB := n8_
   clear n0_ n1_ n2_ n3_ n4_ n5_ n6_ n7_ n8_
   obtain ⟨ja6, ga6, da6, ma2, ka2, ja2⟩ := bz3 b0
   have sb1 := q0.out
   have qb0 := g1.out
   obtain ⟨ba6, aa6, za5, ga2, da2, ba2⟩ := bz3 d0
   try go_wp2
   refine bodyPost_ret (results_cell_row rfl _ _ m0 29 #[.slice (some ⟨go8, 0, none⟩) j1.length z3, .slice b4 o1.length y3, .slice b6 q1.length q5] (0, 0) _ rfl bq Try.underlying29 rfl (by kernel_rfl)) rfl ?_
   exact ⟨_, _, _, rx, (by exact rm (rs1 g0 d0)), (by exact rm (rs1 k0 d0)), (by exact rm (rs1 j0 d0)), is0, bm, ke⟩
  ·have mb3 : decide (0 < (j1.length : Int)) = false := decide_eq_false c5
   have kb3 : decide (0 < j1.length) = false := decide_eq_false (by omega)
   clear c5
   simp only [Option.some.injEq, Prod.mk.injEq] at H
   obtain ⟨rfl, rfl, rfl, rfl, rfl⟩ := H
   go_enter Try.func43, Try.ntmps43
   go_wp2_with (first | ((with_reducible refine gate_dst (N := 2) rfl ?_); refine bx 2 #[.slice none 0 0, .slice none 0 0, .slice none 0 0] 29 ?_; intro m0 hg w30 hbox hb; replace HB := bstp HB hb; have d0 := mk hbox; have q3 := mk ((by rw [hg]; exact (keep_size (w := w) (g := g) (row := none) ke) : w.heap.size ≤ m0)); have v3 := mk ((Nat.le_trans HW0.out (by rw [hg]; exact (keep_size (w := w) (g := g) (row := none) ke) : w.heap.size ≤ m0) : w0.heap.size ≤ m0)); replace HK := kb HK ke hb; have g1 := mk ((by rw [hg]; exact Nat.ne_of_lt (IsS80.lt (show IsS80 w0 _ g s0_0 s0_1 s0_2 from is0)) : g ≠ m0)); have q0 := mk ((by rw [hg]; exact Nat.ne_of_gt (IsS80.lt (show IsS80 w0 _ g s0_0 s0_1 s0_2 from is0)) : m0 ≠ g)); replace HI0 := mk (IsS80.below is0 hb); clear hb hbox hg) | ((with_reducible refine gate_callee (f := 62) rfl ?_); refine gl (some 5) rfl Try.func62 #[.pointer (some ⟨g, 0, none⟩)] ?_; (with_reducible refine (spec_l4Cracker.calls k g s0_0 s0_1 s0_2 j1 o1 q1 m1 k1 w0 _ ?side1 ?side2 A2.out).mono ?_); (case side1 => exact is0); (case side2 => exact bm); rintro e w31 ⟨q7, o7, m7, rfl, ho0, ho1, ho2, hi, hb, hk⟩; refine ⟨_, rfl, ?_⟩; replace d0 := mk (KeepBut.blk hk (g' := m0) (o := .cells #[.slice none 0 0, .slice none 0 0, .slice none 0 0] 29 (0, 0)) (ub d0.out) q0.out (by simp)); have g0 := mk (Kd.R_lower ho0 (keep_size (w := w) (g := g) (row := none) ke)); have k0 := mk (Kd.R_lower ho1 (keep_size (w := w) (g := g) (row := none) ke)); have j0 := mk (Kd.R_lower ho2 (keep_size (w := w) (g := g) (row := none) ke)); replace HK := kt HK ke hk; replace HB := mk hb; replace HI0 := mk hi; (try clear hb hk hi ho0 ho1 ho2)) | ((with_reducible refine gate_dst (N := 3) rfl ?_); refine bx 3 #[.slice none 0 0, .slice none 0 0, .slice none 0 0] 29 ?_; intro o0 hg w32 hbox hb; replace g0 := ro g0 hb; replace k0 := ro k0 hb; replace j0 := ro j0 hb; replace HB := bstp HB hb; have b0 := mk hbox; have o3 := mk ((by rw [hg]; exact (keep_size (w := w) (g := g) (row := none) ke) : w.heap.size ≤ o0)); have s3 := mk ((Nat.le_trans HW0.out (by rw [hg]; exact (keep_size (w := w) (g := g) (row := none) ke) : w.heap.size ≤ o0) : w0.heap.size ≤ o0)); replace HK := kb HK ke hb; have z0 := nl d0 hg; have y0 := nr d0 hg; replace d0 := wb d0 hb; have d1 := mk ((by rw [hg]; exact Nat.ne_of_lt (IsS80.lt (show IsS80 w0 _ g s0_0 m1 k1 from is0)) : g ≠ o0)); have v0 := mk ((by rw [hg]; exact Nat.ne_of_gt (IsS80.lt (show IsS80 w0 _ g s0_0 m1 k1 from is0)) : o0 ≠ g)); replace HI0 := mk (IsS80.below is0 hb); clear hb hbox hg; obtain ⟨qa9, da9, vb2⟩ := Kd.R_slice g0.out; subst vb2; have qb1 := y0.out; have ob0 := z0.out; have ob1 := v0.out; have mb0 := d1.out; obtain ⟨ya5, va5, sa5, aa2, za1, ya1⟩ := bz3 b0; obtain ⟨oa9, ba9, sb2⟩ := Kd.R_slice k0.out; subst sb2; obtain ⟨ma9, aa9, qb2⟩ := Kd.R_slice j0.out; subst qb2) | ((with_reducible refine gate_callee (f := 52) rfl ?_); refine gl (some 7) rfl Try.func52 #[.pointer (some ⟨g, 0, none⟩), .int .i64 12] ?_; (with_reducible refine (spec_l1Below.calls g s0_0 m1 k1 12 d2 o2 m2 w0 _ ?side1 ?side2 A3.out).mono ?_); (case side1 => exact is0); (case side2 => exact bm); rintro e w39 ⟨rfl, hi, hb, hk⟩; refine ⟨_, rfl, ?_⟩; have n0_ := mk (KeepBut.blk hk (g' := m0) (o := .cells #[.slice none 0 0, .slice none 0 0, .slice none 0 0] 29 (0, 0)) bq q0.out (by simp)); have n1_ := mk (Kd.R_mono (Kd.R_keep (IsS80.apart (show IsS80 w0 _ g s0_0 m1 k1 from is0) (by exact rs1 g0 b0) (by decide)) hk (fun _ h => h.2)) (fun _ h => h.1)); have n2_ := mk (Kd.R_mono (Kd.R_keep (IsS80.apart (show IsS80 w0 _ g s0_0 m1 k1 from is0) (by exact rs1 k0 b0) (by decide)) hk (fun _ h => h.2)) (fun _ h => h.1)); have n3_ := mk (Kd.R_mono (Kd.R_keep (IsS80.apart (show IsS80 w0 _ g s0_0 m1 k1 from is0) (by exact rs1 j0 b0) (by decide)) hk (fun _ h => h.2)) (fun _ h => h.1)); have n4_ := mk (KeepBut.blk hk (g' := o0) (o := .cells #[.slice qa9 j1.length da9, .slice oa9 o1.length ba9, .slice ma9 q1.length aa9] 29 (0, 0)) bq v0.out (by simp)); have n5_ := mk (kq HK ke hk (.inl rfl)); have n6_ := mk (hb); have n7_ := mk (hi); clear d0; clear g0; clear k0; clear j0; clear b0; clear HK; clear HB; clear HI0; have d0 := n0_; have g0 := n1_; have k0 := n2_; have j0 := n3_; have b0 := n4_; have HK := n5_; have HB := n6_; have HI0 := n7_; clear n0_ n1_ n2_ n3_ n4_ n5_ n6_ n7_; (try clear hb hk hi); obtain ⟨qa5, oa5, ma5, va1, sa1, qa1⟩ := bz3 b0; have mb1 := q0.out; have kb0 := g1.out; obtain ⟨ka5, ja5, ga5, oa1, ma1, ka1⟩ := bz3 d0))
   refine bodyPost_ret (results_cell_row rfl _ _ m0 29 #[.slice qa9 j1.length da9, .slice oa9 o1.length ba9, .slice ma9 q1.length aa9] (0, 0) _ rfl bq Try.underlying29 rfl (by kernel_rfl)) rfl ?_
   exact ⟨_, _, _, rx, (by exact rm (rs1 g0 d0)), (by exact rm (rs1 k0 d0)), (by exact rm (rs1 j0 d0)), is0, bm, ke⟩
 ·have qb3 : (d2 == 0) = false := beq_eq_false_iff_ne.mpr c4
  have ob3 : (d2 != 0) = true := bne_iff_ne.mpr c4
  revert H; refine ci (fun c43 H => ?_) fun c43 H => ?_
  ·have da7 : (d2 == 1) = true := beq_iff_eq.mpr c43
   have ba7 : (d2 != 1) = false := bne_eq_false_iff_eq.mpr c43
   clear c43
   revert H; refine bo ?_; rintro ⟨m6, k6, j6⟩ A44 H
   dsimp only at H
   revert H; refine bo ?_; rintro ⟨g6, oa8, ma8⟩ A45 H
   dsimp only at H
   revert H; refine ca fun c46 H => ?_
   have LMc46 := mk c46
   clear c46
   obtain ⟨ja8, hy_⟩ : ∃ y_ : List (S50), y_ = (q1 ++ [(⟨m6, g6⟩ : S50)]) := ⟨_, rfl⟩
   replace H : (some (j1, o1, ja8, oa8, ma8)) = some (r1, r2, r3, r4, r5) := hw
   have ja7 := mk hy_
   clear hy_
   simp only [Option.some.injEq, Prod.mk.injEq] at H
   obtain ⟨rfl, rfl, rfl, rfl, rfl⟩ := H
   go_enter Try.func43, Try.ntmps43
   try go_wp2_with (first | ((with_reducible refine gate_dst (N := 2) rfl ?_); refine bx 2 #[.slice none 0 0, .slice none 0 0, .slice none 0 0] 29 ?_; intro m0 hg w47 hbox hb; replace HB := bstp HB hb; have d0 := mk hbox; have q3 := mk ((by rw [hg]; exact (keep_size (w := w) (g := g) (row := none) ke) : w.heap.size ≤ m0)); have v3 := mk ((Nat.le_trans HW0.out (by rw [hg]; exact (keep_size (w := w) (g := g) (row := none) ke) : w.heap.size ≤ m0) : w0.heap.size ≤ m0)); replace HK := kb HK ke hb; have g1 := mk ((by rw [hg]; exact Nat.ne_of_lt (IsS80.lt (show IsS80 w0 _ g s0_0 s0_1 s0_2 from is0)) : g ≠ m0)); have q0 := mk ((by rw [hg]; exact Nat.ne_of_gt (IsS80.lt (show IsS80 w0 _ g s0_0 s0_1 s0_2 from is0)) : m0 ≠ g)); replace HI0 := mk (IsS80.below is0 hb); clear hb hbox hg) | ((with_reducible refine gate_callee (f := 62) rfl ?_); refine gl (some 5) rfl Try.func62 #[.pointer (some ⟨g, 0, none⟩)] ?_; (with_reducible refine (spec_l4Cracker.calls k g s0_0 s0_1 s0_2 j1 o1 q1 m1 k1 w0 _ ?side1 ?side2 A2.out).mono ?_); (case side1 => exact is0); (case side2 => exact bm); rintro e w48 ⟨q7, o7, m7, rfl, ho0, ho1, ho2, hi, hb, hk⟩; refine ⟨_, rfl, ?_⟩; replace d0 := mk (KeepBut.blk hk (g' := m0) (o := .cells #[.slice none 0 0, .slice none 0 0, .slice none 0 0] 29 (0, 0)) (ub d0.out) q0.out (by simp)); have g0 := mk (Kd.R_lower ho0 (keep_size (w := w) (g := g) (row := none) ke)); have k0 := mk (Kd.R_lower ho1 (keep_size (w := w) (g := g) (row := none) ke)); have j0 := mk (Kd.R_lower ho2 (keep_size (w := w) (g := g) (row := none) ke)); replace HK := kt HK ke hk; replace HB := mk hb; replace HI0 := mk hi; (try clear hb hk hi ho0 ho1 ho2)) | ((with_reducible refine gate_dst (N := 3) rfl ?_); refine bx 3 #[.slice none 0 0, .slice none 0 0, .slice none 0 0] 29 ?_; intro o0 hg w49 hbox hb; replace g0 := ro g0 hb; replace k0 := ro k0 hb; replace j0 := ro j0 hb; replace HB := bstp HB hb; have b0 := mk hbox; have o3 := mk ((by rw [hg]; exact (keep_size (w := w) (g := g) (row := none) ke) : w.heap.size ≤ o0)); have s3 := mk ((Nat.le_trans HW0.out (by rw [hg]; exact (keep_size (w := w) (g := g) (row := none) ke) : w.heap.size ≤ o0) : w0.heap.size ≤ o0)); replace HK := kb HK ke hb; have z0 := nl d0 hg; have y0 := nr d0 hg; replace d0 := wb d0 hb; have d1 := mk ((by rw [hg]; exact Nat.ne_of_lt (IsS80.lt (show IsS80 w0 _ g s0_0 m1 k1 from is0)) : g ≠ o0)); have v0 := mk ((by rw [hg]; exact Nat.ne_of_gt (IsS80.lt (show IsS80 w0 _ g s0_0 m1 k1 from is0)) : o0 ≠ g)); replace HI0 := mk (IsS80.below is0 hb); clear hb hbox hg; obtain ⟨a6, o5, ob2⟩ := Kd.R_slice g0.out; subst ob2; have kb1 := y0.out; have jb0 := z0.out; have jb1 := v0.out; have gb0 := d1.out; obtain ⟨da5, ba5, aa5, ja1, ga1, da1⟩ := bz3 b0; obtain ⟨z5, m5, mb2⟩ := Kd.R_slice k0.out; subst mb2; obtain ⟨d5, y4, kb2⟩ := Kd.R_slice j0.out; subst kb2) | ((with_reducible refine gate_callee (f := 52) rfl ?_); refine gl (some 7) rfl Try.func52 #[.pointer (some ⟨g, 0, none⟩), .int .i64 12] ?_; (with_reducible refine (spec_l1Below.calls g s0_0 m1 k1 12 d2 o2 m2 w0 _ ?side1 ?side2 A3.out).mono ?_); (case side1 => exact is0); (case side2 => exact bm); rintro e w56 ⟨rfl, hi, hb, hk⟩; refine ⟨_, rfl, ?_⟩; have n0_ := mk (KeepBut.blk hk (g' := m0) (o := .cells #[.slice none 0 0, .slice none 0 0, .slice none 0 0] 29 (0, 0)) bq q0.out (by simp)); have n1_ := mk (Kd.R_mono (Kd.R_keep (IsS80.apart (show IsS80 w0 _ g s0_0 m1 k1 from is0) (by exact rs1 g0 b0) (by decide)) hk (fun _ h => h.2)) (fun _ h => h.1)); have n2_ := mk (Kd.R_mono (Kd.R_keep (IsS80.apart (show IsS80 w0 _ g s0_0 m1 k1 from is0) (by exact rs1 k0 b0) (by decide)) hk (fun _ h => h.2)) (fun _ h => h.1)); have n3_ := mk (Kd.R_mono (Kd.R_keep (IsS80.apart (show IsS80 w0 _ g s0_0 m1 k1 from is0) (by exact rs1 j0 b0) (by decide)) hk (fun _ h => h.2)) (fun _ h => h.1)); have n4_ := mk (KeepBut.blk hk (g' := o0) (o := .cells #[.slice a6 j1.length o5, .slice z5 o1.length m5, .slice d5 q1.length y4] 29 (0, 0)) bq v0.out (by simp)); have n5_ := mk (kq HK ke hk (.inl rfl)); have n6_ := mk (hb); have n7_ := mk (hi); clear d0; clear g0; clear k0; clear j0; clear b0; clear HK; clear HB; clear HI0; have d0 := n0_; have g0 := n1_; have k0 := n2_; have j0 := n3_; have b0 := n4_; have HK := n5_; have HB := n6_; have HI0 := n7_; clear n0_ n1_ n2_ n3_ n4_ n5_ n6_ n7_; (try clear hb hk hi)))
   replace g0 := mk (Kd.R_drew g0.out)
   replace k0 := mk (Kd.R_drew k0.out)
   replace j0 := mk (Kd.R_drew j0.out)
   replace d0 := wd d0
   replace b0 := wd b0
   replace HI0 := mk (IsS80.drew HI0.out)
   replace HK := mk (keep_drew HK.out)
   replace HB := mk (below_drew1 HB.out)
   refine start_ (n := 11) (S := fun w' => w'.cell? ⟨o0, 0, none⟩ = some (.slice a6 j1.length o5) ∧ w'.cell? ⟨o0, 1, none⟩ = some (.slice z5 o1.length m5) ∧ w'.cell? ⟨o0, 2, none⟩ = some (.slice d5 q1.length y4)) (ds := [10]) #[F_, F_, F_, F_, F_, F_, F_, F_, F_, F_, F_] (by kernel_rfl) rfl rfl ⟨bc b0 0, bc b0 1, bc b0 2⟩ (fun hHeld => ?_); refine with_tabW spec_l4Any.tab7 spec_l4Any.bits7 (fun HT_ HW_ => ?_)
   generalize w56.drew = w57 at g0 k0 j0 d0 b0 HI0 HK HB hHeld ⊢
   refine pu 0 22 (tf 1 10) ?_
   refine pu 2 24 #[T_,F_,T_,F_,F_,F_,F_,F_,F_,F_,F_] ?_
   refine pu 4 26 #[T_,F_,T_,F_,T_,F_,F_,F_,F_,F_,F_] ?_
   refine tk 1 23 #[T_,T_,T_,F_,T_,F_,F_,F_,F_,F_,F_] hHeld ?_
   refine on 3 25 (tf 5 6) (fun K hK => ?_)
   refine gs Try.func52 #[.pointer (some ⟨g, 0, none⟩), .int .i64 9] ?_
   with_reducible refine (spec_l1Below.calls g s0_0 o2 m2 9 m6 k6 j6 w0 _ ?side1 ?side2 A44.out).mono ?_
   (case side1 => exact is0)
   (case side2 => exact bm)
   rintro e w58 ⟨rfl, hi, hb, hk⟩
   refine ⟨_, rfl, ?_⟩
   replace d0 := mk (KeepBut.blk hk (g' := m0) (o := .cells #[.slice none 0 0, .slice none 0 0, .slice none 0 0] 29 (0, 0)) (ub d0.out) q0.out (by simp))
   replace g0 := kp (IsS80.apart (show IsS80 w0 _ g s0_0 o2 m2 from is0) (up g0.out) (by decide)) hk
   replace k0 := kp (IsS80.apart (show IsS80 w0 _ g s0_0 o2 m2 from is0) (up k0.out) (by decide)) hk
   replace j0 := kp (IsS80.apart (show IsS80 w0 _ g s0_0 o2 m2 from is0) (up j0.out) (by decide)) hk
   replace b0 := mk (KeepBut.blk hk (g' := o0) (o := .cells #[.slice a6 j1.length o5, .slice z5 o1.length m5, .slice d5 q1.length y4] 29 (0, 0)) (ub b0.out) v0.out (by simp))
   replace HK := kt HK ke hk
   replace HB := mk hb
   replace HI0 := mk hi
   (try clear hb)
   (try clear hb2)
   (try clear hk)
   (try clear hi)
   refine hK.out _ _ ⟨bc b0 0, bc b0 1, bc b0 2⟩ (fun hHeld => ?_)
   clear hK K
   refine nm 25 ?_
   refine on 5 27 (tf 6 5) (fun K hK => ?_)
   refine gs Try.func52 #[.pointer (some ⟨g, 0, none⟩), .int .i64 9] ?_
   with_reducible refine (spec_l1Below.calls g s0_0 k6 j6 9 g6 oa8 ma8 w0 _ ?side1 ?side2 A45.out).mono ?_
   (case side1 => exact is0)
   (case side2 => exact bm)
   rintro e w59 ⟨rfl, hi, hb, hk⟩
   refine ⟨_, rfl, ?_⟩
   replace d0 := mk (KeepBut.blk hk (g' := m0) (o := .cells #[.slice none 0 0, .slice none 0 0, .slice none 0 0] 29 (0, 0)) (ub d0.out) q0.out (by simp))
   replace g0 := kp (IsS80.apart (show IsS80 w0 _ g s0_0 k6 j6 from is0) (up g0.out) (by decide)) hk
   replace k0 := kp (IsS80.apart (show IsS80 w0 _ g s0_0 k6 j6 from is0) (up k0.out) (by decide)) hk
   replace j0 := kp (IsS80.apart (show IsS80 w0 _ g s0_0 k6 j6 from is0) (up j0.out) (by decide)) hk
   replace b0 := mk (KeepBut.blk hk (g' := o0) (o := .cells #[.slice a6 j1.length o5, .slice z5 o1.length m5, .slice d5 q1.length y4] 29 (0, 0)) (ub b0.out) v0.out (by simp))
   replace HK := kt HK ke hk
   replace HB := mk hb
   replace HI0 := mk hi
   (try clear hb)
   (try clear hb2)
   (try clear hk)
   (try clear hi)
   refine hK.out _ _ ⟨bc b0 0, bc b0 1, bc b0 2⟩ (fun hHeld => ?_)
   clear hK K
   refine nm 27 ?_
   refine pu 6 28 (tf 7 4) ?_
   refine on 7 29 (tf 8 3) (fun K hK => ?_)
   refine value_ (w1 := ?_) (v := ?_) (by rfl) rfl ?_ ?_
   rotate_left 2
   ·go_simp
    constructor
    ·rfl
    ·rfl
   refine hK.out _ _ ⟨(blk_cell (blk_alloc b0.out _) 0).trans rfl, (blk_cell (blk_alloc b0.out _) 1).trans rfl, (blk_cell (blk_alloc b0.out _) 2).trans rfl⟩ (fun hHeld => ?_)
   clear hK K
   refine nm 29 ?_
   refine on 8 30 (tf 9 2) (fun K hK => ?_)
   refine Kd.R_append_step k50 w.heap.size (by rfl) (.tmp 23) (.tmp 29) 27 50 (.agg #[(.int .i64 0), (.int .i64 0)]) 16 rfl Try.underlying27 info50 rfl (by decide) (by omega) (.slice d5 q1.length y4) q1 (⟨m6, g6⟩ : S50) [.int .i64 m6, .int .i64 g6] (fun _ => True) (fun _ => False) rfl rfl ?aP (fun _ hk => hk.elim) ?aF ?aO (Below.refl _ _) ?aS ?aL ?_
   (case aP => exact k50_mkM _ _ _ (⟨m6, g6⟩ : S50))
   (case aF => exact (fun _ _ => trivial))
   (case aO => exact (up j0.out))
   (case aS => exact (keep_size (w := w) (g := g) (row := none) ke))
   (case aL => have := LMc46.out; omega)
   intro kb4 w60 ho hb hg hat
   rw [← ja7.out] at ho
   replace d0 := mk (blk_grown (g := m0) (o := .cells #[.slice none 0 0, .slice none 0 0, .slice none 0 0] 29 (0, 0)) (ub d0.out) hg (Kd.R_ne j0.out d0.out (by decide)))
   replace g0 := mk (Kd.R_over' (up g0.out) (Kd.R_typed (up j0.out)) (by decide) hg)
   replace k0 := mk (Kd.R_over' (up k0.out) (Kd.R_typed (up j0.out)) (by decide) hg)
   replace b0 := mk (blk_grown (g := o0) (o := .cells #[.slice a6 j1.length o5, .slice z5 o1.length m5, .slice d5 q1.length y4] 29 (0, 0)) (ub b0.out) hg (Kd.R_ne j0.out b0.out (by decide)))
   replace HB := mk (below_weaken bm HL.out hb)
   replace HI0 := mk (IsS80.grown is0 hg (IsS80.own_ne HI0.out j0.out (by decide)))
   replace HK := mk (kq HK ke (KeepBut.of_grown hg g) (Kd.R_base2 j0.out))
   have k7 := mk ho
   clear j0
   clear ho hb hg hat
   obtain ⟨bb4, gb3, qa8⟩ := Kd.R_slice k7.out
   (first | subst qa8 | (injection qa8 with f1_ f2_ f3_; have f4_ := f1_.symm; have f5_ := f3_.symm; clear f1_ f2_ f3_; subst f4_; subst f5_))
   refine hK.out _ _ ⟨bc b0 0, bc b0 1, bc b0 2⟩ (fun hHeld => ?_)
   clear hK K
   refine nm 30 ?_
   refine pu 9 31 (tf 10 1) ?_
   refine last_ (i := 10) (N := none) #[T_, T_, T_, T_, T_, T_, T_, T_, T_, T_, T_] rfl rfl (one_of HT_.out (by kernel_rfl)) (by decide) (fun K hK => ?_)
   have hs62 : w60.cell? ⟨o0, 2, none⟩ = some (.slice d5 q1.length y4) := (blk_cell b0.out 2).trans rfl
   have hfs62 := blk_frozen b0.out 2
   have hns62_0 := z0.out
   have hms62_0 := y0.out
   refine skip_ (w1 := ?_) (by rfl) rfl ?_ ?_
   rotate_left
   ·go_simp
    rfl
   refine hK.out _ _ ?_
   clear hK K
   refine done_ (done_of HT_.out (by kernel_rfl)) ?_
   obtain ⟨za4, ya4, va4, ba1, aa1, za0⟩ := bz3 b0
   have gb1 := q0.out
   have db0 := g1.out
   obtain ⟨sa4, qa4, oa4, ya0, va0, sa0⟩ := bz3 d0
   try go_wp2
   refine bodyPost_ret (results_cell_row rfl _ _ m0 29 #[.slice a6 j1.length o5, .slice z5 o1.length m5, .slice bb4 ja8.length gb3] (0, 0) _ rfl bq Try.underlying29 rfl (by kernel_rfl)) rfl ?_
   exact ⟨_, _, _, rx, (by exact rm (rs2 g0 b0 d0)), (by exact rm (rs2 k0 b0 d0)), (by exact rm (rs2 k7 b0 d0)), is0, bm, ke⟩
  ·have da7 : (d2 == 1) = false := beq_eq_false_iff_ne.mpr c43
   have ba7 : (d2 != 1) = true := bne_iff_ne.mpr c43
   revert H; refine ci (fun c66 H => ?_) fun c66 H => ?_
   ·have aa7 : (d2 == 2) = true := beq_iff_eq.mpr c66
    have za6 : (d2 != 2) = false := bne_eq_false_iff_eq.mpr c66
    clear c66
    revert H; refine ca fun c67 H => ?_
    have LMc67 := mk c67
    clear c67
    obtain ⟨ga8, hy_⟩ : ∃ y_ : List Int, y_ = (o1 ++ [0]) := ⟨_, rfl⟩
    replace H : (some (j1, ga8, q1, o2, m2)) = some (r1, r2, r3, r4, r5) := hw
    have ga7 := mk hy_
    clear hy_
    simp only [Option.some.injEq, Prod.mk.injEq] at H
    obtain ⟨rfl, rfl, rfl, rfl, rfl⟩ := H
    go_enter Try.func43, Try.ntmps43
    go_wp2_with (first | ((with_reducible refine gate_dst (N := 2) rfl ?_); refine bx 2 #[.slice none 0 0, .slice none 0 0, .slice none 0 0] 29 ?_; intro m0 hg w68 hbox hb; replace HB := bstp HB hb; have d0 := mk hbox; have q3 := mk ((by rw [hg]; exact (keep_size (w := w) (g := g) (row := none) ke) : w.heap.size ≤ m0)); have v3 := mk ((Nat.le_trans HW0.out (by rw [hg]; exact (keep_size (w := w) (g := g) (row := none) ke) : w.heap.size ≤ m0) : w0.heap.size ≤ m0)); replace HK := kb HK ke hb; have g1 := mk ((by rw [hg]; exact Nat.ne_of_lt (IsS80.lt (show IsS80 w0 _ g s0_0 s0_1 s0_2 from is0)) : g ≠ m0)); have q0 := mk ((by rw [hg]; exact Nat.ne_of_gt (IsS80.lt (show IsS80 w0 _ g s0_0 s0_1 s0_2 from is0)) : m0 ≠ g)); replace HI0 := mk (IsS80.below is0 hb); clear hb hbox hg) | ((with_reducible refine gate_callee (f := 62) rfl ?_); refine gl (some 5) rfl Try.func62 #[.pointer (some ⟨g, 0, none⟩)] ?_; (with_reducible refine (spec_l4Cracker.calls k g s0_0 s0_1 s0_2 j1 o1 q1 m1 k1 w0 _ ?side1 ?side2 A2.out).mono ?_); (case side1 => exact is0); (case side2 => exact bm); rintro e w69 ⟨q7, o7, m7, rfl, ho0, ho1, ho2, hi, hb, hk⟩; refine ⟨_, rfl, ?_⟩; replace d0 := mk (KeepBut.blk hk (g' := m0) (o := .cells #[.slice none 0 0, .slice none 0 0, .slice none 0 0] 29 (0, 0)) (ub d0.out) q0.out (by simp)); have g0 := mk (Kd.R_lower ho0 (keep_size (w := w) (g := g) (row := none) ke)); have k0 := mk (Kd.R_lower ho1 (keep_size (w := w) (g := g) (row := none) ke)); have j0 := mk (Kd.R_lower ho2 (keep_size (w := w) (g := g) (row := none) ke)); replace HK := kt HK ke hk; replace HB := mk hb; replace HI0 := mk hi; (try clear hb hk hi ho0 ho1 ho2)) | ((with_reducible refine gate_dst (N := 3) rfl ?_); refine bx 3 #[.slice none 0 0, .slice none 0 0, .slice none 0 0] 29 ?_; intro o0 hg w70 hbox hb; replace g0 := ro g0 hb; replace k0 := ro k0 hb; replace j0 := ro j0 hb; replace HB := bstp HB hb; have b0 := mk hbox; have o3 := mk ((by rw [hg]; exact (keep_size (w := w) (g := g) (row := none) ke) : w.heap.size ≤ o0)); have s3 := mk ((Nat.le_trans HW0.out (by rw [hg]; exact (keep_size (w := w) (g := g) (row := none) ke) : w.heap.size ≤ o0) : w0.heap.size ≤ o0)); replace HK := kb HK ke hb; have z0 := nl d0 hg; have y0 := nr d0 hg; replace d0 := wb d0 hb; have d1 := mk ((by rw [hg]; exact Nat.ne_of_lt (IsS80.lt (show IsS80 w0 _ g s0_0 m1 k1 from is0)) : g ≠ o0)); have v0 := mk ((by rw [hg]; exact Nat.ne_of_gt (IsS80.lt (show IsS80 w0 _ g s0_0 m1 k1 from is0)) : o0 ≠ g)); replace HI0 := mk (IsS80.below is0 hb); clear hb hbox hg; obtain ⟨a8, y7, jb2⟩ := Kd.R_slice g0.out; subst jb2; have db1 := y0.out; have bb0 := z0.out; have bb1 := v0.out; have ab0 := d1.out; obtain ⟨ma4, ka4, ja4, qa0, oa0, ma0⟩ := bz3 b0; obtain ⟨ba8, ya6, gb2⟩ := Kd.R_slice k0.out; subst gb2; obtain ⟨aa8, va6, db2⟩ := Kd.R_slice j0.out; subst db2) | ((with_reducible refine gate_callee (f := 52) rfl ?_); refine gl (some 7) rfl Try.func52 #[.pointer (some ⟨g, 0, none⟩), .int .i64 12] ?_; (with_reducible refine (spec_l1Below.calls g s0_0 m1 k1 12 d2 o2 m2 w0 _ ?side1 ?side2 A3.out).mono ?_); (case side1 => exact is0); (case side2 => exact bm); rintro e w77 ⟨rfl, hi, hb, hk⟩; refine ⟨_, rfl, ?_⟩; have n0_ := mk (KeepBut.blk hk (g' := m0) (o := .cells #[.slice none 0 0, .slice none 0 0, .slice none 0 0] 29 (0, 0)) bq q0.out (by simp)); have n1_ := mk (Kd.R_mono (Kd.R_keep (IsS80.apart (show IsS80 w0 _ g s0_0 m1 k1 from is0) (by exact rs1 g0 b0) (by decide)) hk (fun _ h => h.2)) (fun _ h => h.1)); have n2_ := mk (Kd.R_mono (Kd.R_keep (IsS80.apart (show IsS80 w0 _ g s0_0 m1 k1 from is0) (by exact rs1 k0 b0) (by decide)) hk (fun _ h => h.2)) (fun _ h => h.1)); have n3_ := mk (Kd.R_mono (Kd.R_keep (IsS80.apart (show IsS80 w0 _ g s0_0 m1 k1 from is0) (by exact rs1 j0 b0) (by decide)) hk (fun _ h => h.2)) (fun _ h => h.1)); have n4_ := mk (KeepBut.blk hk (g' := o0) (o := .cells #[.slice a8 j1.length y7, .slice ba8 o1.length ya6, .slice aa8 q1.length va6] 29 (0, 0)) bq v0.out (by simp)); have n5_ := mk (kq HK ke hk (.inl rfl)); have n6_ := mk (hb); have n7_ := mk (hi); clear d0; clear g0; clear k0; clear j0; clear b0; clear HK; clear HB; clear HI0; have d0 := n0_; have g0 := n1_; have k0 := n2_; have j0 := n3_; have b0 := n4_; have HK := n5_; have HB := n6_; have HI0 := n7_; clear n0_ n1_ n2_ n3_ n4_ n5_ n6_ n7_; (try clear hb hk hi); obtain ⟨ga4, da4, ba4, ka0, ja0, ga0⟩ := bz3 b0) | ((with_reducible refine gate_builtin (b := .append) (xs := #[.tmp 35, .tmp 36]) rfl ?_); at_builtin; refine Kd.R_append (Kd.int .i64) w.heap.size rfl (.tmp 35) (.tmp 36) 22 3 (.int .i64 0) 8 rfl Try.underlying22 info3 rfl (by decide) (by omega) (.slice ba8 o1.length ya6) o1 0 [.int .i64 0] (fun k_ => some k_ ≠ (.slice a8 j1.length y7 : Value).ownBlock) (fun _ => False) rfl rfl ?aP (fun _ hk => hk.elim) ?aF ?aO (Below.refl _ _) ?aS ?aL ?_; (case aP => exact rfl); (case aF => exact (fun k_ hk => Kd.fresh' (Kd.R_lt (up g0.out)) k_ hk)); (case aO => exact (up k0.out)); (case aS => exact (keep_size (w := w) (g := g) (row := none) ke)); (case aL => have := LMc67.out; omega); intro jb4 w79 ho hb hg hat; rw [← ga7.out] at ho; replace d0 := mk (blk_grown (g := m0) (o := .cells #[.slice none 0 0, .slice none 0 0, .slice none 0 0] 29 (0, 0)) (ub d0.out) hg (Kd.R_ne k0.out d0.out (by decide))); replace g0 := mk (Kd.R_after (ok := (fun _ => True)) (by exact up (Kd.R_mono g0.out (fun _ hk => ⟨trivial, hk⟩))) hg hat); replace j0 := mk (Kd.R_over' (up j0.out) (Kd.R_typed (up k0.out)) (by decide) hg); replace b0 := mk (blk_grown (g := o0) (o := .cells #[.slice a8 j1.length y7, .slice ba8 o1.length ya6, .slice aa8 q1.length va6] 29 (0, 0)) (ub b0.out) hg (Kd.R_ne k0.out b0.out (by decide))); replace HB := mk (below_weaken bm HL.out hb); replace HI0 := mk (IsS80.grown is0 hg (IsS80.own_ne HI0.out k0.out (by decide))); replace HK := mk (kq HK ke (KeepBut.of_grown hg g) (Kd.R_base2 k0.out)); have j7 := mk ho; clear k0; clear ho hb hg hat; obtain ⟨ab4, db3, bb2⟩ := Kd.R_slice j7.out; subst bb2; obtain ⟨aa4, za3, ya3, da0, ba0, aa0⟩ := bz3 b0; have ab1 := q0.out; have za9 := g1.out; obtain ⟨va3, sa3, qa3, z9, y9, v9⟩ := bz3 d0))
    refine bodyPost_ret (results_cell_row rfl _ _ m0 29 #[.slice a8 j1.length y7, .slice ab4 ga8.length db3, .slice aa8 q1.length va6] (0, 0) _ rfl bq Try.underlying29 rfl (by kernel_rfl)) rfl ?_
    exact ⟨_, _, _, rx, (by exact rm (rs2 g0 b0 d0)), (by exact rm (rs2 j7 b0 d0)), (by exact rm (rs2 j0 b0 d0)), is0, bm, ke⟩
   ·have aa7 : (d2 == 2) = false := beq_eq_false_iff_ne.mpr c66
    have za6 : (d2 != 2) = true := bne_iff_ne.mpr c66
    simp only [Option.some.injEq, Prod.mk.injEq] at H
    obtain ⟨rfl, rfl, rfl, rfl, rfl⟩ := H
    go_enter Try.func43, Try.ntmps43
    go_wp2_with (first | ((with_reducible refine gate_dst (N := 2) rfl ?_); refine bx 2 #[.slice none 0 0, .slice none 0 0, .slice none 0 0] 29 ?_; intro m0 hg w84 hbox hb; replace HB := bstp HB hb; have d0 := mk hbox; have q3 := mk ((by rw [hg]; exact (keep_size (w := w) (g := g) (row := none) ke) : w.heap.size ≤ m0)); have v3 := mk ((Nat.le_trans HW0.out (by rw [hg]; exact (keep_size (w := w) (g := g) (row := none) ke) : w.heap.size ≤ m0) : w0.heap.size ≤ m0)); replace HK := kb HK ke hb; have g1 := mk ((by rw [hg]; exact Nat.ne_of_lt (IsS80.lt (show IsS80 w0 _ g s0_0 s0_1 s0_2 from is0)) : g ≠ m0)); have q0 := mk ((by rw [hg]; exact Nat.ne_of_gt (IsS80.lt (show IsS80 w0 _ g s0_0 s0_1 s0_2 from is0)) : m0 ≠ g)); replace HI0 := mk (IsS80.below is0 hb); clear hb hbox hg) | ((with_reducible refine gate_callee (f := 62) rfl ?_); refine gl (some 5) rfl Try.func62 #[.pointer (some ⟨g, 0, none⟩)] ?_; (with_reducible refine (spec_l4Cracker.calls k g s0_0 s0_1 s0_2 j1 o1 q1 m1 k1 w0 _ ?side1 ?side2 A2.out).mono ?_); (case side1 => exact is0); (case side2 => exact bm); rintro e w85 ⟨q7, o7, m7, rfl, ho0, ho1, ho2, hi, hb, hk⟩; refine ⟨_, rfl, ?_⟩; replace d0 := mk (KeepBut.blk hk (g' := m0) (o := .cells #[.slice none 0 0, .slice none 0 0, .slice none 0 0] 29 (0, 0)) (ub d0.out) q0.out (by simp)); have g0 := mk (Kd.R_lower ho0 (keep_size (w := w) (g := g) (row := none) ke)); have k0 := mk (Kd.R_lower ho1 (keep_size (w := w) (g := g) (row := none) ke)); have j0 := mk (Kd.R_lower ho2 (keep_size (w := w) (g := g) (row := none) ke)); replace HK := kt HK ke hk; replace HB := mk hb; replace HI0 := mk hi; (try clear hb hk hi ho0 ho1 ho2)) | ((with_reducible refine gate_dst (N := 3) rfl ?_); refine bx 3 #[.slice none 0 0, .slice none 0 0, .slice none 0 0] 29 ?_; intro o0 hg w86 hbox hb; replace g0 := ro g0 hb; replace k0 := ro k0 hb; replace j0 := ro j0 hb; replace HB := bstp HB hb; have b0 := mk hbox; have o3 := mk ((by rw [hg]; exact (keep_size (w := w) (g := g) (row := none) ke) : w.heap.size ≤ o0)); have s3 := mk ((Nat.le_trans HW0.out (by rw [hg]; exact (keep_size (w := w) (g := g) (row := none) ke) : w.heap.size ≤ o0) : w0.heap.size ≤ o0)); replace HK := kb HK ke hb; have z0 := nl d0 hg; have y0 := nr d0 hg; replace d0 := wb d0 hb; have d1 := mk ((by rw [hg]; exact Nat.ne_of_lt (IsS80.lt (show IsS80 w0 _ g s0_0 m1 k1 from is0)) : g ≠ o0)); have v0 := mk ((by rw [hg]; exact Nat.ne_of_gt (IsS80.lt (show IsS80 w0 _ g s0_0 m1 k1 from is0)) : o0 ≠ g)); replace HI0 := mk (IsS80.below is0 hb); clear hb hbox hg; obtain ⟨ka9, za8, ab2⟩ := Kd.R_slice g0.out; subst ab2; have zb0 := y0.out; have ya9 := z0.out; have yb0 := v0.out; have va9 := d1.out; obtain ⟨oa3, ma3, ka3, s9, q9, o9⟩ := bz3 b0; obtain ⟨ja9, ya8, zb1⟩ := Kd.R_slice k0.out; subst zb1; obtain ⟨ga9, va8, yb1⟩ := Kd.R_slice j0.out; subst yb1) | ((with_reducible refine gate_callee (f := 52) rfl ?_); refine gl (some 7) rfl Try.func52 #[.pointer (some ⟨g, 0, none⟩), .int .i64 12] ?_; (with_reducible refine (spec_l1Below.calls g s0_0 m1 k1 12 d2 o2 m2 w0 _ ?side1 ?side2 A3.out).mono ?_); (case side1 => exact is0); (case side2 => exact bm); rintro e w93 ⟨rfl, hi, hb, hk⟩; refine ⟨_, rfl, ?_⟩; have n0_ := mk (KeepBut.blk hk (g' := m0) (o := .cells #[.slice none 0 0, .slice none 0 0, .slice none 0 0] 29 (0, 0)) bq q0.out (by simp)); have n1_ := mk (Kd.R_mono (Kd.R_keep (IsS80.apart (show IsS80 w0 _ g s0_0 m1 k1 from is0) (by exact rs1 g0 b0) (by decide)) hk (fun _ h => h.2)) (fun _ h => h.1)); have n2_ := mk (Kd.R_mono (Kd.R_keep (IsS80.apart (show IsS80 w0 _ g s0_0 m1 k1 from is0) (by exact rs1 k0 b0) (by decide)) hk (fun _ h => h.2)) (fun _ h => h.1)); have n3_ := mk (Kd.R_mono (Kd.R_keep (IsS80.apart (show IsS80 w0 _ g s0_0 m1 k1 from is0) (by exact rs1 j0 b0) (by decide)) hk (fun _ h => h.2)) (fun _ h => h.1)); have n4_ := mk (KeepBut.blk hk (g' := o0) (o := .cells #[.slice ka9 j1.length za8, .slice ja9 o1.length ya8, .slice ga9 q1.length va8] 29 (0, 0)) bq v0.out (by simp)); have n5_ := mk (kq HK ke hk (.inl rfl)); have n6_ := mk (hb); have n7_ := mk (hi); clear d0; clear g0; clear k0; clear j0; clear b0; clear HK; clear HB; clear HI0; have d0 := n0_; have g0 := n1_; have k0 := n2_; have j0 := n3_; have b0 := n4_; have HK := n5_; have HB := n6_; have HI0 := n7_; clear n0_ n1_ n2_ n3_ n4_ n5_ n6_ n7_; (try clear hb hk hi); obtain ⟨ja3, ga3, da3, m9, k9, j9⟩ := bz3 b0; have vb0 := q0.out; have sa9 := g1.out; obtain ⟨ba3, aa3, za2, g9, d9, b9⟩ := bz3 d0))
    refine bodyPost_ret (results_cell_row rfl _ _ m0 29 #[.slice ka9 j1.length za8, .slice ja9 o1.length ya8, .slice ga9 q1.length va8] (0, 0) _ rfl bq Try.underlying29 rfl (by kernel_rfl)) rfl ?_
    exact ⟨_, _, _, rx, (by exact rm (rs1 g0 d0)), (by exact rm (rs1 k0 d0)), (by exact rm (rs1 j0 d0)), is0, bm, ke⟩

/-! ### spec_l10Item: function 44 -/
def spec_l10Item.f (k : Nat) (s0_0 : List Int) (s0_1 : Int) (s0_2 : Int) (s2 : List Int) (q2 : List Int) (j3 : List (S50)) : Option (Int × Int × Int × Int) := (spec_l1PickInt.f s0_0 s0_1 s0_2 (([0, 3, 20, 21, 22, 23, 999] : List Int))).bind fun v1 => ((spec_l4Value.f k s0_0 v1.2.1 v1.2.2 s2 q2 j3).bind fun s1 => (some (mx (-999) (mn 999 s1.1), v1.1, s1.2.1, s1.2.2)))
theorem spec_l10Item.mono : ∀ a0 a1 a2 a3 a4 a5 k, LeO (spec_l10Item.f k a0 a1 a2 a3 a4 a5) (spec_l10Item.f (k + 1) a0 a1 a2 a3 a4 a5) := by
  intro a0 a1 a2 a3 a4 a5 k
  unfold spec_l10Item.f
  exact mo
instance spec_l10Item.mi (a0 a1 a2 a3 a4 a5 k) : LeC (spec_l10Item.f k a0 a1 a2 a3 a4 a5) (spec_l10Item.f (k + 1) a0 a1 a2 a3 a4 a5) := ⟨spec_l10Item.mono a0 a1 a2 a3 a4 a5 k⟩
set_option maxHeartbeats 8000000 in
set_option maxRecDepth 100000 in
theorem spec_l10Item.calls (k : Nat) (g : Nat) (s0_0 : List Int) (s0_1 : Int) (s0_2 : Int) (j5 : Option Addr) (y5 : Nat) (s2 : List Int) (g5 : Option Addr) (v5 : Nat) (q2 : List Int) (d6 : Option Addr) (s5 : Nat) (j3 : List (S50)) (r1 : Int) (r2 : Int) (r3 : Int) (r4 : Int) (w0 w : World) (hI : IsS80 w0 w g s0_0 s0_1 s0_2) (hB : Below w0.heap.size w0 w) (v6 : Kd.C (Kd.int .i64) w j5 s2.length s2) (hc1_0 : s2.length ≤ y5) (b7 : ∀ ad, j5 = some ad → 0 < s2.length → ad.block ≠ g) (s6 : Kd.C (Kd.int .i64) w g5 q2.length q2) (hc1_1 : q2.length ≤ v5) (a7 : ∀ ad, g5 = some ad → 0 < q2.length → ad.block ≠ g) (q6 : ∀ W_, KeepBut w W_ g none → Kd.C k50 W_ d6 j3.length j3) (hc1_2 : j3.length ≤ s5) (h : spec_l10Item.f k s0_0 s0_1 s0_2 s2 q2 j3 = some (r1, r2, r3, r4)) :
    Calls Try.prog 44 #[.pointer (some ⟨g, 0, none⟩), .agg #[.slice j5 s2.length y5, .slice g5 q2.length v5, .slice d6 j3.length s5]] w fun e w' => e = .returned (.agg #[.int .i64 r1, .int .i64 r2]) ∧ IsS80 w0 w' g s0_0 r3 r4 ∧ Below w0.heap.size w0 w' ∧ KeepBut w w' g none := by
  have hu29 := Try.underlying29
  have hu39 := Try.underlying39
  have qa7 := mk v6
  have za7 := mk hc1_0
  clear v6 hc1_0
  have oa7 := mk s6
  have ya7 := mk hc1_1
  clear s6 hc1_1
  have ma7 := mk q6
  have va7 := mk hc1_2
  clear q6 hc1_2
  have HI0 := mk hI
  have HK := mk (KeepBut.refl w g none)
  have HL := mk hB.size
  clear hI
  have HW0 := mk hB.size
  have HB := mk hB
  clear hB
  have H : ((spec_l1PickInt.f s0_0 s0_1 s0_2 (([0, 3, 20, 21, 22, 23, 999] : List Int))).bind fun v1 => ((spec_l4Value.f k s0_0 v1.2.1 v1.2.2 s2 q2 j3).bind fun s1 => (some (mx (-999) (mn 999 s1.1), v1.1, s1.2.1, s1.2.2)))) = some (r1, r2, r3, r4) := h
  clear h
  obtain ⟨d8, hy_⟩ : ∃ y_ : List Int, y_ = (([0, 3, 20, 21, 22, 23, 999] : List Int)) := ⟨_, rfl⟩
  replace H : ((spec_l1PickInt.f s0_0 s0_1 s0_2 d8).bind fun v1 => ((spec_l4Value.f k s0_0 v1.2.1 v1.2.2 s2 q2 j3).bind fun s1 => (some (mx (-999) (mn 999 s1.1), v1.1, s1.2.1, s1.2.2)))) = some (r1, r2, r3, r4) := hw
  have d7 := mk hy_
  clear hy_
  revert H; refine bo ?_; rintro ⟨v7, m8, k8⟩ A3 H
  dsimp only at H
  revert H; refine bo ?_; rintro ⟨s7, j8, g8⟩ A4 H
  dsimp only at H
  obtain ⟨ji5, j4⟩ : ∃ j_ : Int, (mn 999 s7) = j_ := ⟨_, rfl⟩
  replace H : (some (mx (-999) (ji5), v7, j8, g8)) = some (r1, r2, r3, r4) := by first | (rw [j4] at H; exact H) | (simp only [j4] at H ⊢; exact H)
  (try rw [j4] at A3)
  (try rw [j4] at A4)
  (try (have hji5h : ji5 ≤ 999 := by (rw [← j4]; unfold mn; (repeat' split) <;> omega)))
  (try (have hji5g : ji5 ≤ 64 := by omega))
  have hji5_ : (if s7 < 999 then s7 else 999) = ji5 := j4
  obtain ⟨ji6, k5⟩ : ∃ j_ : Int, (mx (-999) (ji5)) = j_ := ⟨_, rfl⟩
  replace H : (some (ji6, v7, j8, g8)) = some (r1, r2, r3, r4) := by first | (rw [k5] at H; exact H) | (simp only [k5] at H ⊢; exact H)
  (try rw [k5] at A3)
  (try rw [k5] at A4)
  have hji6_ : (if (-999) < (ji5) then (ji5) else (-999)) = ji6 := k5
  simp only [Option.some.injEq, Prod.mk.injEq] at H
  obtain ⟨rfl, rfl, rfl, rfl⟩ := H
  go_enter Try.func44, Try.ntmps44
  go_wp2_with (first | ((with_reducible refine gate_dst (N := 3) rfl ?_); refine bx 3 #[.slice j5 s2.length y5, .slice g5 q2.length v5, .slice d6 j3.length s5] 29 ?_; intro v2 hg w7 hbox hb; replace HB := bstp HB hb; have z1 := mk hbox; have vb3 := mk ((by rw [hg]; exact (keep_size (w := w) (g := g) (row := none) ke) : w.heap.size ≤ v2)); have zb3 := mk ((Nat.le_trans HW0.out (by rw [hg]; exact (keep_size (w := w) (g := g) (row := none) ke) : w.heap.size ≤ v2) : w0.heap.size ≤ v2)); replace HK := kb HK ke hb; have b5 := mk ((by rw [hg]; exact Nat.ne_of_lt (IsS80.lt (show IsS80 w0 _ g s0_0 s0_1 s0_2 from is0)) : g ≠ v2)); have d3 := mk ((by rw [hg]; exact Nat.ne_of_gt (IsS80.lt (show IsS80 w0 _ g s0_0 s0_1 s0_2 from is0)) : v2 ≠ g)); replace HI0 := mk (IsS80.below is0 hb); clear hb hbox hg) | ((with_reducible refine gate_dst (N := 4) rfl ?_); refine bx 4 #[.int .i64 0, .int .i64 0] 39 ?_; intro g2 hg w8 hbox hb; replace HB := bstp HB hb; have g3 := mk hbox; have sb3 := mk ((by rw [hg]; exact (keep_size (w := w) (g := g) (row := none) ke) : w.heap.size ≤ g2)); have yb3 := mk ((Nat.le_trans HW0.out (by rw [hg]; exact (keep_size (w := w) (g := g) (row := none) ke) : w.heap.size ≤ g2) : w0.heap.size ≤ g2)); replace HK := kb HK ke hb; have m3 := nl z1 hg; have k3 := nr z1 hg; replace z1 := wb z1 hb; have z4 := mk ((by rw [hg]; exact Nat.ne_of_lt (IsS80.lt (show IsS80 w0 _ g s0_0 s0_1 s0_2 from is0)) : g ≠ g2)); have b3 := mk ((by rw [hg]; exact Nat.ne_of_gt (IsS80.lt (show IsS80 w0 _ g s0_0 s0_1 s0_2 from is0)) : g2 ≠ g)); replace HI0 := mk (IsS80.below is0 hb); clear hb hbox hg) | ((with_reducible refine gate_dst (N := 7) rfl ?_); refine Kd.R_lit (Kd.int .i64) _ 3 ?hg (N := 7) ?hd (xs := ([0, 3, 20, 21, 22, 23, 999] : List Int)) (inner := [.int .i64 0, .int .i64 3, .int .i64 20, .int .i64 21, .int .i64 22, .int .i64 23, .int .i64 999]) (ok := fun _ => True) (okp := fun _ => True) ?hr ?hp (fun _ hk => hk) trivial (Below.refl _ _) (Nat.le_refl _) (by simp) ?_; (case hd => rfl); (case hg => rfl); (case hr => first | (go_simp; done) | (go_simp; rfl)); (case hp => exact (Reps.one (show Kd.M (Kd.int .i64) _ _ _ 0 [.int .i64 0] from rfl) (Reps.one (show Kd.M (Kd.int .i64) _ _ _ 3 [.int .i64 3] from rfl) (Reps.one (show Kd.M (Kd.int .i64) _ _ _ 20 [.int .i64 20] from rfl) (Reps.one (show Kd.M (Kd.int .i64) _ _ _ 21 [.int .i64 21] from rfl) (Reps.one (show Kd.M (Kd.int .i64) _ _ _ 22 [.int .i64 22] from rfl) (Reps.one (show Kd.M (Kd.int .i64) _ _ _ 23 [.int .i64 23] from rfl) (Reps.one (show Kd.M (Kd.int .i64) _ _ _ 999 [.int .i64 999] from rfl) (Reps.none _ _))))))))); intro gb4 w9 y6 hb hg_ hnew_; clear hg_ hnew_; (first | rw [← d7.out] at y6 | (simp only [Int.reduceToNat] at y6; rw [← d7.out] at y6)); have j2 := mk (Kd.R_lower y6 (keep_size (w := w) (g := g) (row := none) ke)); replace z1 := wb z1 hb; replace g3 := wb g3 hb; replace HK := kb HK ke hb; replace HB := bstp HB hb; replace HI0 := mk (IsS80.below is0 hb); clear hb y6; obtain ⟨db4, jb3, bb3⟩ := Kd.R_slice j2.out; subst bb3) | ((with_reducible refine gate_callee (f := 63) rfl ?_); refine gl (some 8) rfl Try.func63 #[.pointer (some ⟨g, 0, none⟩), .slice db4 d8.length jb3] ?_; (with_reducible refine (spec_l1PickInt.calls g s0_0 s0_1 s0_2 _ _ d8 v7 m8 k8 w0 _ ?side1 ?side2 ?side3 ?side4 ?side5 A3.out).mono ?_); (case side1 => exact is0); (case side2 => exact bm); (case side3 => exact ra j2); (case side4 => exact rb j2); (case side5 => exact far_slice (IsS80.own_ne HI0.out j2.out (by decide))); rintro e w12 ⟨rfl, hi, hb, hk⟩; refine ⟨_, rfl, ?_⟩; replace z1 := mk (KeepBut.blk hk (g' := v2) (o := .cells #[.slice j5 s2.length y5, .slice g5 q2.length v5, .slice d6 j3.length s5] 29 (0, 0)) (ub z1.out) d3.out (by simp)); replace g3 := mk (KeepBut.blk hk (g' := g2) (o := .cells #[.int .i64 0, .int .i64 0] 39 (0, 0)) (ub g3.out) b3.out (by simp)); replace j2 := kp (IsS80.apart (show IsS80 w0 _ g s0_0 s0_1 s0_2 from is0) (up j2.out) (by decide)) hk; replace HK := kt HK ke hk; replace HB := mk hb; replace HI0 := mk hi; (try clear hb hk hi); have a9 := m3.out; have y8 := k3.out; have z8 := d3.out; have v8 := b5.out; obtain ⟨v4, s4, q4, o4, m4, k4⟩ := bz3 z1) | ((with_reducible refine gate_callee (f := 64) rfl ?_); refine gl (some 11) rfl Try.func64 #[.pointer (some ⟨g, 0, none⟩), .agg #[.slice j5 s2.length y5, .slice g5 q2.length v5, .slice d6 j3.length s5]] ?_; (with_reducible refine (spec_l4Value.calls k g s0_0 m8 k8 _ _ s2 _ _ q2 _ _ j3 s7 j8 g8 w0 _ ?side1 ?side2 ?side3 ?side4 ?side5 ?side6 ?side7 ?side8 ?side9 ?side10 A4.out).mono ?_); (case side1 => exact is0); (case side2 => exact bm); (case side3 => exact Kd.C_keep 0 qa7.out ke b7); (case side4 => exact za7.out); (case side5 => exact b7); (case side6 => exact Kd.C_keep 0 oa7.out ke a7); (case side7 => exact ya7.out); (case side8 => exact a7); (case side9 => exact Kd.C_foot_step ma7.out ke); (case side10 => exact va7.out); rintro e w16 ⟨rfl, hi, hb, hk⟩; refine ⟨_, rfl, ?_⟩; replace z1 := mk (KeepBut.blk hk (g' := v2) (o := .cells #[.slice j5 s2.length y5, .slice g5 q2.length v5, .slice d6 j3.length s5] 29 (0, 0)) (ub z1.out) d3.out (by simp)); replace g3 := mk (KeepBut.blk hk (g' := g2) (o := .cells #[.int .i64 0, .int .i64 0] 39 (0, 0)) (ub g3.out) b3.out (by simp)); replace j2 := kp (IsS80.apart (show IsS80 w0 _ g s0_0 m8 k8 from is0) (up j2.out) (by decide)) hk; replace HK := kt HK ke hk; replace HB := mk hb; replace HI0 := mk hi; (try clear hb hk hi); have vb1 := b3.out; have sb0 := z4.out; obtain ⟨sa6, qa6, ya2, va2⟩ := bz2 g3))
  refine bodyPost_ret (results_cell_row rfl _ _ g2 39 #[.int .i64 ji6, .int .i64 v7] (0, 0) _ rfl bq Try.underlying39 rfl (by kernel_rfl)) rfl ?_
  exact ⟨by first | rfl | (simp [errW_none, errW_some] <;> rfl) | (simp only [← j4, ← k5]; first | rfl | (simp [errW_none, errW_some] <;> rfl)) | (simp [*, errW_none, errW_some] <;> rfl), is0, bm, ke⟩

end Go.Proofs.Ytlikcmonejefoab.PFnRipples
