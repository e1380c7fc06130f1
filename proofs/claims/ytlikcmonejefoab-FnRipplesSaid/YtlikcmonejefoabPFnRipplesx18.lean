-- printed by a program of this session, a turned copy of the print of the kit
import Derived.Test.YtlikcmonejefoabSr
import Derived.Test.YtlikcmonejefoabPFnRipplesx0
import Derived.Test.YtlikcmonejefoabPFnRipplesx13
import Derived.Test.YtlikcmonejefoabPFnRipplesx14
import Derived.Test.YtlikcmonejefoabPFnRipplesx17
namespace Go.Proofs.Ytlikcmonejefoab.PFnRipples
open Go.RowKit Go.Proofs.YtlikcmonejefoabW.PrintWords Go.Proofs.YtlikcmonejefoabW.PrintLast Go.Proofs.YtlikcmonejefoabW.PrintMore Go.Proofs.Ytlikcmonejefoab.Sq
attribute [local go_sem] max2_int min2_int max_two min_two max_three min_three max_four min_four Giv.cell_twice   -- for this text's walks alone
set_option linter.unusedVariables false
set_option linter.unusedSimpArgs false

/-! ### spec_l4Cracker: function 62 -/
def spec_l4Cracker.l0 : Nat → Int → List Int → Int → Int → List Int → List Int → List (S50) → Option (List Int × List Int × (List (S50)) × Int × Int)
 | 0, _, _, _, _, _, _, _ => none
 | k + 1, x4, q6, o6, m6, o3, m3, k3 => if x4 > 0 then ((spec_l4Value.f k q6 o6 m6 o3 m3 k3).bind fun d6 => ((spec_CrackAt.f k o3 m3 k3 d6.1).bind fun b6 => (spec_l4Cracker.l0 k (wrap64 (x4 - 1)) q6 d6.2.1 d6.2.2 b6.1 b6.2.1 b6.2.2.1))) else (some (o3, m3, k3, o6, m6))
def spec_l4Cracker.f (k : Nat) (s0_0 : List Int) (s0_1 : Int) (s0_2 : Int) : Option (List Int × List Int × (List (S50)) × Int × Int) := (spec_l2Values.f k s0_0 s0_1 s0_2 14).bind fun z3 => ((spec_NewCracker.f k z3.1).bind fun v3 => ((spec_l1Below.f s0_0 z3.2.1 z3.2.2 5).bind fun s3 => (spec_l4Cracker.l0 k s3.1 s0_0 s3.2.1 s3.2.2 v3.1 v3.2.1 v3.2.2)))
theorem spec_l4Cracker.mono_l : ∀ k, (∀ y0 y1 y2 y3 y4 y5 y6, LeO (spec_l4Cracker.l0 k y0 y1 y2 y3 y4 y5 y6) (spec_l4Cracker.l0 (k + 1) y0 y1 y2 y3 y4 y5 y6))
 | 0 => fun _ _ _ _ _ _ _ r h => by simp [spec_l4Cracker.l0] at h
 | k + 1 => by
  have ih0 := spec_l4Cracker.mono_l k
  ·intro y0 y1 y2 y3 y4 y5 y6
   unfold spec_l4Cracker.l0
   exact mo
theorem spec_l4Cracker.mono : ∀ a0 a1 a2 k, LeO (spec_l4Cracker.f k a0 a1 a2) (spec_l4Cracker.f (k + 1) a0 a1 a2) := by
 intro a0 a1 a2 k
 have ih0 := spec_l4Cracker.mono_l k
 unfold spec_l4Cracker.f
 exact mo
instance spec_l4Cracker.mi (a0 a1 a2 k) : LeC (spec_l4Cracker.f k a0 a1 a2) (spec_l4Cracker.f (k + 1) a0 a1 a2) := ⟨spec_l4Cracker.mono a0 a1 a2 k⟩
def spec_l4Cracker.T5 : Bool × List (List Nat × List Nat) := (true, [([], []), ([], []), ([], []), ([1, 2], [1, 2]), ([0, 3, 3], [0, 3]), ([4], [4]), ([5], [5]), ([5], [5]), ([5], [5]), ([], []), ([9, 6, 4, 0, 1, 2, 3, 4, 5, 6, 9], [6, 9]), ([7, 10, 0, 1, 2, 3, 4, 5, 6, 7, 9, 10], [7]), ([8, 11, 0, 1, 2, 3, 4, 5, 6, 7, 8, 9, 10, 11], [8])])
def spec_l4Cracker.B5 : List Nat := [0, 0, 0, 6, 15, 31, 63, 63, 63, 0, 639, 1791, 4095]
theorem spec_l4Cracker.tab5 : rtab .any (opsOf Try.f62 5) = spec_l4Cracker.T5 := by kernel_rfl
theorem spec_l4Cracker.bits5 : waitsOk spec_l4Cracker.T5.2 spec_l4Cracker.B5 = true := by kernel_rfl
set_option maxHeartbeats 8000000 in
set_option maxRecDepth 100000 in
theorem spec_l4Cracker.calls (k : Nat) (g : Nat) (s0_0 : List Int) (s0_1 : Int) (s0_2 : Int) (r1 : List Int) (r2 : List Int) (r3 : List (S50)) (r4 : Int) (r5 : Int) (w0 w : World) (hI : IsS80 w0 w g s0_0 s0_1 s0_2) (hB : Below w0.heap.size w0 w) (h : spec_l4Cracker.f k s0_0 s0_1 s0_2 = some (r1, r2, r3, r4, r5)) :
  Calls Try.prog 62 #[.pointer (some ⟨g, 0, none⟩)] w fun e w' => ∃ v0_ v1_ v2_ : Value, e = .returned (.agg #[v0_, v1_, v2_]) ∧ Kd.R (Kd.int .i64) 3 w' w.heap.size (fun k_ => some k_ ≠ (v1_ : Value).ownBlock) v0_ r1 ∧ Kd.R (Kd.int .i64) 3 w' w.heap.size (fun k_ => some k_ ≠ (v0_ : Value).ownBlock) v1_ r2 ∧ Kd.R k50 50 w' w.heap.size (fun _ => True) v2_ r3 ∧ IsS80 w0 w' g s0_0 r4 r5 ∧ Below w0.heap.size w0 w' ∧ KeepBut w w' g none := by
 have hu29 := Try.underlying29
 have HI0 := mk hI
 have HK := mk (KeepBut.refl w g none)
 have HL := mk hB.size
 clear hI
 have HW0 := mk hB.size
 have HB := mk hB
 clear hB
 have H : ((spec_l2Values.f k s0_0 s0_1 s0_2 14).bind fun z3 => ((spec_NewCracker.f k z3.1).bind fun v3 => ((spec_l1Below.f s0_0 z3.2.1 z3.2.2 5).bind fun s3 => (spec_l4Cracker.l0 k s3.1 s0_0 s3.2.1 s3.2.2 v3.1 v3.2.1 v3.2.2)))) = some (r1, r2, r3, r4, r5) := h
 clear h
 revert H; refine bo ?_; rintro ⟨b7, d5, b5⟩ A2 H
 dsimp only at H
 revert H; refine bo ?_; rintro ⟨a7, z6, v6⟩ A3 H
 dsimp only at H
 revert H; refine bo ?_; rintro ⟨g9, d9, b9⟩ A4 H
 dsimp only at H
 have H' := mk H
 clear H
 go_enter Try.func62, Try.ntmps62
 go_wp2_with (first | ((with_reducible refine gate_dst (N := 2) rfl ?_); refine bx 2 #[.slice none 0 0, .slice none 0 0, .slice none 0 0] 29 ?_; intro q1 hg w5 hbox hb; replace HB := bstp HB hb; have s0 := mk hbox; have va2 := mk ((by rw [hg]; exact (keep_size (w := w) (g := g) (row := none) ke) : w.heap.size ≤ q1)); have za2 := mk ((Nat.le_trans HW0.out (by rw [hg]; exact (keep_size (w := w) (g := g) (row := none) ke) : w.heap.size ≤ q1) : w0.heap.size ≤ q1)); replace HK := kb HK ke hb; have g6 := mk ((by rw [hg]; exact Nat.ne_of_lt (IsS80.lt (show IsS80 w0 _ g s0_0 s0_1 s0_2 from is0)) : g ≠ q1)); have j2 := mk ((by rw [hg]; exact Nat.ne_of_gt (IsS80.lt (show IsS80 w0 _ g s0_0 s0_1 s0_2 from is0)) : q1 ≠ g)); replace HI0 := mk (IsS80.below is0 hb); clear hb hbox hg) | ((with_reducible refine gate_callee (f := 70) rfl ?_); refine gl (some 9) rfl Try.func70 #[.pointer (some ⟨g, 0, none⟩), .int .i64 14] ?_; (with_reducible refine (spec_l2Values.calls k g s0_0 s0_1 s0_2 14 b7 d5 b5 w0 _ ?side1 ?side2 A2.out).mono ?_); (case side1 => exact is0); (case side2 => exact bm); rintro e w6 ⟨sa3, rfl, ho0, hi, hb, hk⟩; refine ⟨_, rfl, ?_⟩; replace s0 := mk (KeepBut.blk hk (g' := q1) (o := .cells #[.slice none 0 0, .slice none 0 0, .slice none 0 0] 29 (0, 0)) (ub s0.out) j2.out (by simp)); have b2 := mk (Kd.R_lower ho0 (keep_size (w := w) (g := g) (row := none) ke)); replace HK := kt HK ke hk; replace HB := mk hb; replace HI0 := mk hi; (try clear hb hk hi ho0); obtain ⟨Ao7, co7, eo7⟩ := Kd.R_slice b2.out; subst eo7) | ((with_reducible refine gate_callee (f := 69) rfl ?_); refine gl (some 10) rfl Try.func69 #[.slice Ao7 b7.length co7] ?_; (with_reducible refine (spec_NewCracker.calls k _ _ b7 a7 z6 v6 _ ?side1 ?side2 A3.out).mono ?_); (case side1 => exact ra b2); (case side2 => exact rb b2); rintro e w8 ⟨qa3, oa3, ma3, rfl, ho0, ho1, ho2, hb⟩; refine ⟨_, rfl, ?_⟩; have g4 := mk (Kd.R_lower (Kd.R_new' ho0 (Kd.R_lt (up b2.out))) (keep_size (w := w) (g := g) (row := none) ke)); have d4 := mk (Kd.R_lower (Kd.R_new' ho1 (Kd.R_lt (up b2.out))) (keep_size (w := w) (g := g) (row := none) ke)); replace b2 := td2 b2 hb ho0 ho1; have b4 := mk (Kd.R_lower ho2 (keep_size (w := w) (g := g) (row := none) ke)); replace s0 := wb s0 hb; replace HK := kb HK ke hb; replace HB := bstp HB hb; replace HI0 := mk (IsS80.below is0 hb); (try clear hb ho0 ho1 ho2)) | ((with_reducible refine gate_dst (N := 3) rfl ?_); refine bx 3 #[.slice none 0 0, .slice none 0 0, .slice none 0 0] 29 ?_; intro m1 hg w9 hbox hb; replace b2 := ro b2 hb; replace g4 := ro g4 hb; replace d4 := ro d4 hb; replace b4 := ro b4 hb; replace HB := bstp HB hb; have o0 := mk hbox; have sa2 := mk ((by rw [hg]; exact (keep_size (w := w) (g := g) (row := none) ke) : w.heap.size ≤ m1)); have ya2 := mk ((Nat.le_trans HW0.out (by rw [hg]; exact (keep_size (w := w) (g := g) (row := none) ke) : w.heap.size ≤ m1) : w0.heap.size ≤ m1)); replace HK := kb HK ke hb; have g2 := nl s0 hg; have d2 := nr s0 hg; replace s0 := wb s0 hb; have a4 := mk ((by rw [hg]; exact Nat.ne_of_lt (IsS80.lt (show IsS80 w0 _ g s0_0 d5 b5 from is0)) : g ≠ m1)); have z1 := mk ((by rw [hg]; exact Nat.ne_of_gt (IsS80.lt (show IsS80 w0 _ g s0_0 d5 b5 from is0)) : m1 ≠ g)); replace HI0 := mk (IsS80.below is0 hb); clear hb hbox hg; obtain ⟨z9, s9, da2⟩ := Kd.R_slice g4.out; subst da2; have ma1 := d2.out; have sa0 := g2.out; have ka1 := z1.out; have qa0 := a4.out; obtain ⟨a6, z5, v5, s5, q5, o5⟩ := bz3 o0; obtain ⟨y9, q9, ba2⟩ := Kd.R_slice d4.out; subst ba2; obtain ⟨v9, o9, aa2⟩ := Kd.R_slice b4.out; subst aa2) | ((with_reducible refine gate_callee (f := 52) rfl ?_); refine gl (some 12) rfl Try.func52 #[.pointer (some ⟨g, 0, none⟩), .int .i64 5] ?_; (with_reducible refine (spec_l1Below.calls g s0_0 d5 b5 5 g9 d9 b9 w0 _ ?side1 ?side2 A4.out).mono ?_); (case side1 => exact is0); (case side2 => exact bm); rintro e w16 ⟨rfl, hi, hb, hk⟩; refine ⟨_, rfl, ?_⟩; have n0_ := mk (KeepBut.blk hk (g' := q1) (o := .cells #[.slice none 0 0, .slice none 0 0, .slice none 0 0] 29 (0, 0)) bq j2.out (by simp)); have n1_ := mk (Kd.R_mono (Kd.R_keep (IsS80.apart (show IsS80 w0 _ g s0_0 d5 b5 from is0) (by exact rs1 b2 o0) (by decide)) hk (fun _ h => h.2)) (fun _ h => h.1)); have n2_ := mk (Kd.R_mono (Kd.R_keep (IsS80.apart (show IsS80 w0 _ g s0_0 d5 b5 from is0) (by exact rs1 g4 o0) (by decide)) hk (fun _ h => h.2)) (fun _ h => h.1)); have n3_ := mk (Kd.R_mono (Kd.R_keep (IsS80.apart (show IsS80 w0 _ g s0_0 d5 b5 from is0) (by exact rs1 d4 o0) (by decide)) hk (fun _ h => h.2)) (fun _ h => h.1)); have n4_ := mk (Kd.R_mono (Kd.R_keep (IsS80.apart (show IsS80 w0 _ g s0_0 d5 b5 from is0) (by exact rs1 b4 o0) (by decide)) hk (fun _ h => h.2)) (fun _ h => h.1)); have n5_ := mk (KeepBut.blk hk (g' := m1) (o := .cells #[.slice z9 a7.length s9, .slice y9 z6.length q9, .slice v9 v6.length o9] 29 (0, 0)) bq z1.out (by simp)); have n6_ := mk (kq HK ke hk (.inl rfl)); have n7_ := mk (hb); have n8_ := mk (hi); clear s0; clear b2; clear g4; clear d4; clear b4; clear o0; clear HK; clear HB; clear HI0; have s0 := n0_; have b2 := n1_; have g4 := n2_; have d4 := n3_; have b4 := n4_; have o0 := n5_; have HK := n6_; have HB := n7_; have HI0 := n8_; clear n0_ n1_ n2_ n3_ n4_ n5_ n6_ n7_ n8_; (try clear hb hk hi)))
 go_loopg [4] k (fun kq v4 w' => ∃ (j6 : Int) (j1 : Int) (g1 : Int) (k0 : List Int) (j0 : List Int) (m0 : List (S50)) (b3 : Value) (a3 : Value) (q3 : Value), v4 = .int .i64 j6 ∧ Aside0 (spec_l4Cracker.l0 kq j6 s0_0 j1 g1 k0 j0 m0 = some (r1, r2, r3, r4, r5)) ∧ Aside0 (kq ≤ k) ∧ Aside0 (Kd.R (Kd.int .i64) 3 w' w.heap.size (fun k_ => some k_ ≠ (a3 : Value).ownBlock) b3 k0) ∧ Aside0 (Kd.R (Kd.int .i64) 3 w' w.heap.size (fun k_ => some k_ ≠ (b3 : Value).ownBlock) a3 j0) ∧ Aside0 (Kd.R k50 50 w' w.heap.size (fun _ => True) q3 m0) ∧ Aside0 (w'.heap[q1]? = some (.cells #[(.slice none 0 0), (.slice none 0 0), (.slice none 0 0)] 29 (0, 0))) ∧ Aside0 (w'.heap[m1]? = some (.cells #[b3, a3, q3] 29 (0, 0))) ∧ Aside0 (IsS80 w0 w' g s0_0 j1 g1) ∧ Aside0 (KeepBut w w' g none) ∧ Aside0 (Below w0.heap.size w0 w'))
 case atStart => exact ⟨(g9), (d9), (b9), (a7), (z6), (v6), (.slice z9 a7.length s9), (.slice y9 z6.length q9), (.slice v9 v6.length o9), (by first | rfl | (simp; done) | (simp [*]; done)), H', ⟨Nat.le_refl _⟩, ⟨by exact up (Kd.R_mono g4.out (fun _ hk => hk.1))⟩, ⟨by exact up (Kd.R_mono d4.out (fun _ hk => hk.1))⟩, ⟨up b4.out⟩, ⟨ub s0.out⟩, ⟨ub o0.out⟩, ⟨is0⟩, ⟨ke⟩, ⟨bm⟩⟩
 case round =>
  clear H'
  try clear c1
  try clear p2
  try clear c5
  try clear c6
  try clear c7
  try clear c11
  try clear c12
  try clear a6
  try clear z5
  try clear v5
  try clear s5
  try clear q5
  try clear o5
  obtain ⟨j6, j1, g1, k0, j0, m0, b3, a3, q3, rfl, HA, HK1, d0, b0, g0, s0, o0, HI0, HK, HB⟩ := hrel
  cases gk with
  | zero => exact absurd HA.out (by simp [spec_l4Cracker.l0])
  | succ k1 =>
   have H := HA.out
   clear HA
   simp only [spec_l4Cracker.l0] at H
   revert H; refine ci (fun c17 H => ?_) fun c17 H => ?_
   ·have a9 : decide (0 < j6) = true := decide_eq_true c17
    clear c17
    revert H; refine bo ?_; rintro ⟨z4, s4, q4⟩ A18 H
    dsimp only at H
    revert H; refine bo ?_; rintro ⟨m5, k5, j5, s6, k6⟩ A19 H
    dsimp only at H
    have H' := mk H
    clear H
    obtain ⟨z2, s2, za1⟩ := Kd.R_slice d0.out
    subst za1
    obtain ⟨v2, q2, ya1⟩ := Kd.R_slice b0.out
    subst ya1
    obtain ⟨j3, g3, va1⟩ := Kd.R_slice g0.out
    subst va1
    try go_wp2
    replace d0 := mk (Kd.R_drew d0.out)
    replace b0 := mk (Kd.R_drew b0.out)
    replace g0 := mk (Kd.R_drew g0.out)
    replace s0 := wd s0
    replace o0 := wd o0
    replace HI0 := mk (IsS80.drew HI0.out)
    replace HK := mk (keep_drew HK.out)
    replace HB := mk (below_drew1 HB.out)
    refine start_ (n := 13) (S := fun w' => w'.cell? ⟨m1, 0, none⟩ = some (.slice z2 k0.length s2) ∧ w'.cell? ⟨m1, 1, none⟩ = some (.slice v2 j0.length q2) ∧ w'.cell? ⟨m1, 2, none⟩ = some (.slice j3 m0.length g3)) (ds := []) #[F_, F_, F_, F_, F_, F_, F_, F_, F_, F_, F_, F_, F_] (by kernel_rfl) rfl rfl ⟨bc o0 0, bc o0 1, bc o0 2⟩ (fun hHeld => ?_); refine with_tabW spec_l4Cracker.tab5 spec_l4Cracker.bits5 (fun HT_ HW_ => ?_)
    generalize wr.drew = w23 at d0 b0 g0 s0 o0 HI0 HK HB hHeld ⊢
    refine pu 1 19 #[F_,T_,F_,F_,F_,F_,F_,F_,F_,F_,F_,F_,F_] ?_
    refine tk 0 18 (tf 2 11) hHeld ?_
    refine tk 2 20 (tf 3 10) hHeld ?_
    refine join_ (σ := Value × Value × Value × Value × Nat) 3 #[T_, T_, T_, T_, T_, T_, T_, T_, T_, T_, F_, F_, F_] (fun s_ => [(21, .int .i64 z4), (22, .tuple #[.agg #[s_.1, s_.2.1, s_.2.2.1], s_.2.2.2.1, .bool k6]), (5, .pointer (some ⟨s_.2.2.2.2, 0, none⟩)), (17, .tuple #[.agg #[s_.1, s_.2.1, s_.2.2.1], s_.2.2.2.1, .bool k6]), (23, .agg #[s_.1, s_.2.1, s_.2.2.1]), (24, s_.2.2.2.1), (25, .bool k6)]) (fun s_ w' => (w'.cell? ⟨m1, 0, none⟩ = some (.slice z2 k0.length s2) ∧ w'.cell? ⟨m1, 1, none⟩ = some (.slice v2 j0.length q2) ∧ w'.cell? ⟨m1, 2, none⟩ = some (.slice j3 m0.length g3)) ∧ (Kd.R (Kd.int .i64) 3 w' w.heap.size (fun k_ => some k_ ≠ (s_.2.1 : Value).ownBlock ∧ some k_ ≠ (.slice z2 k0.length s2 : Value).ownBlock ∧ some k_ ≠ (.slice v2 j0.length q2 : Value).ownBlock) s_.1 m5) ∧ (Kd.R (Kd.int .i64) 3 w' w.heap.size (fun k_ => some k_ ≠ (s_.1 : Value).ownBlock ∧ some k_ ≠ (.slice z2 k0.length s2 : Value).ownBlock ∧ some k_ ≠ (.slice v2 j0.length q2 : Value).ownBlock) s_.2.1 k5) ∧ (Kd.R k50 50 w' w.heap.size (fun k_ => some k_ ≠ (.slice j3 m0.length g3 : Value).ownBlock) s_.2.2.1 j5) ∧ (Kd.R k105 105 w' w.heap.size (fun _ => True) s_.2.2.2.1 s6) ∧ (Kd.R (Kd.int .i64) 3 w' w.heap.size (fun k_ => some k_ ≠ (s_.1 : Value).ownBlock ∧ some k_ ≠ (s_.2.1 : Value).ownBlock ∧ some k_ ≠ (.slice v2 j0.length q2 : Value).ownBlock) (.slice z2 k0.length s2) k0) ∧ (Kd.R (Kd.int .i64) 3 w' w.heap.size (fun k_ => some k_ ≠ (s_.1 : Value).ownBlock ∧ some k_ ≠ (s_.2.1 : Value).ownBlock ∧ some k_ ≠ (.slice z2 k0.length s2 : Value).ownBlock) (.slice v2 j0.length q2) j0) ∧ (Kd.R k50 50 w' w.heap.size (fun k_ => some k_ ≠ (s_.2.2.1 : Value).ownBlock) (.slice j3 m0.length g3) m0) ∧ (w'.heap[q1]? = some (.cells #[.slice none 0 0, .slice none 0 0, .slice none 0 0] 29 (0, 0))) ∧ (w'.heap[m1]? = some (.cells #[.slice z2 k0.length s2, .slice v2 j0.length q2, .slice j3 m0.length g3] 29 (0, 0))) ∧ (w'.heap[s_.2.2.2.2]? = some (.cells #[.slice none 0 0, .slice none 0 0, .slice none 0 0] 29 (0, 0))) ∧ (w.heap.size ≤ s_.2.2.2.2) ∧ (w0.heap.size ≤ s_.2.2.2.2) ∧ (g ≠ s_.2.2.2.2) ∧ (s_.2.2.2.2 ≠ g) ∧ (q1 ≠ s_.2.2.2.2) ∧ (s_.2.2.2.2 ≠ q1) ∧ (m1 ≠ s_.2.2.2.2) ∧ (s_.2.2.2.2 ≠ m1) ∧ (IsS80 w0 w' g s0_0 s4 q4) ∧ (KeepBut w w' g none) ∧ (Below w0.heap.size w0 w')) ?_ ?_
    rotate_left
    ·intro hCont
     refine two_ (i := 3) (j := 9) (Ni := some 21) (Nj := some 5) #[T_, T_, T_, T_, F_, F_, F_, F_, F_, F_, F_, F_, F_] #[T_, T_, T_, F_, F_, F_, F_, F_, F_, T_, F_, F_, F_] rfl rfl rfl rfl (two_of HT_.out (by kernel_rfl)) (by decide) (by decide) (fun K hK => ?_) (fun K hK => ?_)
     ·skip
      refine gs Try.func64 #[.pointer (some ⟨g, 0, none⟩), .agg #[.slice z2 k0.length s2, .slice v2 j0.length q2, .slice j3 m0.length g3]] ?_
      with_reducible refine (spec_l4Value.calls k1 g s0_0 j1 g1 _ _ k0 _ _ j0 _ _ m0 z4 s4 q4 w0 _ ?side1 ?side2 ?side3 ?side4 ?side5 ?side6 ?side7 ?side8 ?side9 ?side10 A18.out).mono ?_
      (case side1 => exact is0)
      (case side2 => exact bm)
      (case side3 => exact ra d0)
      (case side4 => exact rb d0)
      (case side5 => exact far_slice (IsS80.own_ne HI0.out d0.out (by decide)))
      (case side6 => exact ra b0)
      (case side7 => exact rb b0)
      (case side8 => exact far_slice (IsS80.own_ne HI0.out b0.out (by decide)))
      (case side9 => exact Kd.C_foot_own (IsS80.apart (show IsS80 w0 _ g s0_0 j1 g1 from is0) (up g0.out) (by decide)) (fun _ h_ => h_.2))
      (case side10 => exact rb g0)
      rintro e w24 ⟨rfl, hi, hb, hk⟩
      refine ⟨_, rfl, ?_⟩
      replace d0 := kp (IsS80.apart (show IsS80 w0 _ g s0_0 j1 g1 from is0) (up d0.out) (by decide)) hk
      replace b0 := kp (IsS80.apart (show IsS80 w0 _ g s0_0 j1 g1 from is0) (up b0.out) (by decide)) hk
      replace g0 := kp (IsS80.apart (show IsS80 w0 _ g s0_0 j1 g1 from is0) (up g0.out) (by decide)) hk
      replace s0 := mk (KeepBut.blk hk (g' := q1) (o := .cells #[.slice none 0 0, .slice none 0 0, .slice none 0 0] 29 (0, 0)) (ub s0.out) j2.out (by simp))
      replace o0 := mk (KeepBut.blk hk (g' := m1) (o := .cells #[.slice z2 k0.length s2, .slice v2 j0.length q2, .slice j3 m0.length g3] 29 (0, 0)) (ub o0.out) z1.out (by simp))
      replace HK := kt HK ke hk
      replace HB := mk hb
      replace HI0 := mk hi
      (try clear hb)
      (try clear hb2)
      (try clear hk)
      (try clear hi)
      refine hK.out _ _ ⟨bc o0 0, bc o0 1, bc o0 2⟩ (fun hHeld => ?_)
      clear hK K
      refine nm 21 ?_
      refine two_ (i := 4) (j := 9) (Ni := some 22) (Nj := some 5) #[T_, T_, T_, T_, T_, F_, F_, F_, F_, F_, F_, F_, F_] #[T_, T_, T_, T_, F_, F_, F_, F_, F_, T_, F_, F_, F_] rfl rfl rfl rfl (two_of HT_.out (by kernel_rfl)) (by decide) (by decide) (fun K hK => ?_) (fun K hK => ?_)
      ·skip
       refine gs Try.func71 #[.agg #[.slice z2 k0.length s2, .slice v2 j0.length q2, .slice j3 m0.length g3], .int .i64 z4] ?_
       with_reducible refine (spec_CrackAt.calls k1 _ _ k0 _ _ j0 _ _ m0 z4 m5 k5 j5 s6 k6 _ ?side1 ?side2 ?side3 ?side4 ?side5 ?side6 A19.out).mono ?_
       (case side1 => exact ra d0)
       (case side2 => exact rb d0)
       (case side3 => exact ra b0)
       (case side4 => exact rb b0)
       (case side5 => exact ra g0)
       (case side6 => exact rb g0)
       rintro e w25 ⟨o4, m4, a5, g5, rfl, ho0, ho1, ho2, ho3, hb⟩
       refine ⟨_, rfl, ?_⟩
       have o2 := mk (Kd.R_lower (Kd.R_new' (Kd.R_new' ho0 (Kd.R_lt (up d0.out))) (Kd.R_lt (up b0.out))) (keep_size (w := w) (g := g) (row := none) ke))
       have m2 := mk (Kd.R_lower (Kd.R_new' (Kd.R_new' ho1 (Kd.R_lt (up d0.out))) (Kd.R_lt (up b0.out))) (keep_size (w := w) (g := g) (row := none) ke))
       replace d0 := td2 d0 hb ho0 ho1
       replace b0 := td2 b0 hb ho0 ho1
       have k2 := mk (Kd.R_lower (Kd.R_new' ho2 (Kd.R_lt (up g0.out))) (keep_size (w := w) (g := g) (row := none) ke))
       replace g0 := el g0 ho2 hb
       have d3 := mk (Kd.R_lower ho3 (keep_size (w := w) (g := g) (row := none) ke))
       replace s0 := wb s0 hb
       replace o0 := wb o0 hb
       replace HK := kb HK ke hb
       replace HB := bstp HB hb
       replace HI0 := mk (IsS80.below is0 hb)
       (try clear hb)
       (try clear hb2)
       (try clear hk)
       (try clear hi)
       (try clear ho0)
       (try clear ho1)
       (try clear ho2)
       (try clear ho3)
       refine hK.out _ _ ⟨bc o0 0, bc o0 1, bc o0 2⟩ (fun hHeld => ?_)
       clear hK K
       refine nm 22 ?_
       refine pu 5 17 (tf 6 7) ?_
       refine pu 6 23 (tf 7 6) ?_
       refine pu 7 24 (tf 8 5) ?_
       refine pu 8 25 (tf 9 4) ?_
       refine on 9 5 (tf 10 3) (fun K hK => ?_)
       refine box_step ?hg (N := 5) ?hd (cs := #[.slice none 0 0, .slice none 0 0, .slice none 0 0]) (t := 29) ?hr ?_; (case hd => rfl); (case hg => rfl); (case hr => first | (go_simp; done) | (go_simp; rfl))
       intro v0 hg w26 hbox hb
       replace d0 := ro d0 hb
       replace b0 := ro b0 hb
       replace g0 := ro g0 hb
       replace o2 := ro o2 hb
       replace m2 := ro m2 hb
       replace k2 := ro k2 hb
       replace d3 := ro d3 hb
       replace HB := bstp HB hb
       have o1 := mk hbox
       have j4 := mk ((by rw [hg]; exact (keep_size (w := w) (g := g) (row := none) ke) : w.heap.size ≤ v0))
       have k4 := mk ((Nat.le_trans HW0.out (by rw [hg]; exact (keep_size (w := w) (g := g) (row := none) ke) : w.heap.size ≤ v0) : w0.heap.size ≤ v0))
       replace HK := kb HK ke hb
       have d1 := nl s0 hg
       have b1 := nr s0 hg
       replace s0 := wb s0 hb
       have q0 := nl o0 hg
       have z0 := nr o0 hg
       replace o0 := wb o0 hb
       have v1 := mk ((by rw [hg]; exact Nat.ne_of_lt (IsS80.lt (show IsS80 w0 _ g s0_0 s4 q4 from is0)) : g ≠ v0))
       have s1 := mk ((by rw [hg]; exact Nat.ne_of_gt (IsS80.lt (show IsS80 w0 _ g s0_0 s4 q4 from is0)) : v0 ≠ g))
       replace HI0 := mk (IsS80.below is0 hb)
       clear hb hbox hg
       refine hK.out _ _ ⟨bc o0 0, bc o0 1, bc o0 2⟩ (fun hHeld => ?_)
       clear hK K
       refine nm 5 ?_
       exact nz (hCont (o4, m4, a5, g5, v0) _ ⟨hHeld, (by exact up (Kd.R_mono o2.out (fun _ hk => by first | exact ⟨hk.1.1, ⟨hk.1.2, hk.2⟩⟩ | (revert hk; simp only [and_imp]; intros; (repeat' (refine And.intro ?_ ?_)) <;> assumption)))), (by exact up (Kd.R_mono m2.out (fun _ hk => by first | exact ⟨hk.1.1, ⟨hk.1.2, hk.2⟩⟩ | (revert hk; simp only [and_imp]; intros; (repeat' (refine And.intro ?_ ?_)) <;> assumption)))), (by exact up (Kd.R_mono k2.out (fun _ hk => hk.2))), (up d3.out), (by exact up (Kd.R_mono d0.out (fun _ hk => by first | exact ⟨hk.1.2, ⟨hk.2, hk.1.1⟩⟩ | (revert hk; simp only [and_imp]; intros; (repeat' (refine And.intro ?_ ?_)) <;> assumption)))), (by exact up (Kd.R_mono b0.out (fun _ hk => by first | exact ⟨hk.1.2, ⟨hk.2, hk.1.1⟩⟩ | (revert hk; simp only [and_imp]; intros; (repeat' (refine And.intro ?_ ?_)) <;> assumption)))), (by exact up (Kd.R_mono g0.out (fun _ hk => hk.2))), (ub s0.out), (ub o0.out), (ub o1.out), j4.out, k4.out, v1.out, s1.out, d1.out, b1.out, q0.out, z0.out, is0, ke, bm⟩)
      ·skip
       refine box_step ?hg (N := 5) ?hd (cs := #[.slice none 0 0, .slice none 0 0, .slice none 0 0]) (t := 29) ?hr ?_; (case hd => rfl); (case hg => rfl); (case hr => first | (go_simp; done) | (go_simp; rfl))
       intro v0 hg w25 hbox hb
       replace d0 := ro d0 hb
       replace b0 := ro b0 hb
       replace g0 := ro g0 hb
       replace HB := bstp HB hb
       have o1 := mk hbox
       have j4 := mk ((by rw [hg]; exact (keep_size (w := w) (g := g) (row := none) ke) : w.heap.size ≤ v0))
       have k4 := mk ((Nat.le_trans HW0.out (by rw [hg]; exact (keep_size (w := w) (g := g) (row := none) ke) : w.heap.size ≤ v0) : w0.heap.size ≤ v0))
       replace HK := kb HK ke hb
       have d1 := nl s0 hg
       have b1 := nr s0 hg
       replace s0 := wb s0 hb
       have q0 := nl o0 hg
       have z0 := nr o0 hg
       replace o0 := wb o0 hb
       have v1 := mk ((by rw [hg]; exact Nat.ne_of_lt (IsS80.lt (show IsS80 w0 _ g s0_0 s4 q4 from is0)) : g ≠ v0))
       have s1 := mk ((by rw [hg]; exact Nat.ne_of_gt (IsS80.lt (show IsS80 w0 _ g s0_0 s4 q4 from is0)) : v0 ≠ g))
       replace HI0 := mk (IsS80.below is0 hb)
       clear hb hbox hg
       refine hK.out _ _ ⟨bc o0 0, bc o0 1, bc o0 2⟩ (fun hHeld => ?_)
       clear hK K
       refine nm 5 ?_
       refine on 4 22 #[T_,T_,T_,T_,T_,F_,F_,F_,F_,T_,F_,F_,F_] (fun K hK => ?_)
       refine gs Try.func71 #[.agg #[.slice z2 k0.length s2, .slice v2 j0.length q2, .slice j3 m0.length g3], .int .i64 z4] ?_
       with_reducible refine (spec_CrackAt.calls k1 _ _ k0 _ _ j0 _ _ m0 z4 m5 k5 j5 s6 k6 _ ?side1 ?side2 ?side3 ?side4 ?side5 ?side6 A19.out).mono ?_
       (case side1 => exact ra d0)
       (case side2 => exact rb d0)
       (case side3 => exact ra b0)
       (case side4 => exact rb b0)
       (case side5 => exact ra g0)
       (case side6 => exact rb g0)
       rintro e w26 ⟨o4, m4, a5, g5, rfl, ho0, ho1, ho2, ho3, hb⟩
       refine ⟨_, rfl, ?_⟩
       have o2 := mk (Kd.R_lower (Kd.R_new' (Kd.R_new' ho0 (Kd.R_lt (up d0.out))) (Kd.R_lt (up b0.out))) (keep_size (w := w) (g := g) (row := none) ke))
       have m2 := mk (Kd.R_lower (Kd.R_new' (Kd.R_new' ho1 (Kd.R_lt (up d0.out))) (Kd.R_lt (up b0.out))) (keep_size (w := w) (g := g) (row := none) ke))
       replace d0 := td2 d0 hb ho0 ho1
       replace b0 := td2 b0 hb ho0 ho1
       have k2 := mk (Kd.R_lower (Kd.R_new' ho2 (Kd.R_lt (up g0.out))) (keep_size (w := w) (g := g) (row := none) ke))
       replace g0 := el g0 ho2 hb
       have d3 := mk (Kd.R_lower ho3 (keep_size (w := w) (g := g) (row := none) ke))
       replace s0 := wb s0 hb
       replace o0 := wb o0 hb
       replace o1 := wb o1 hb
       replace HK := kb HK ke hb
       replace HB := bstp HB hb
       replace HI0 := mk (IsS80.below is0 hb)
       (try clear hb)
       (try clear hb2)
       (try clear hk)
       (try clear hi)
       (try clear ho0)
       (try clear ho1)
       (try clear ho2)
       (try clear ho3)
       refine hK.out _ _ ⟨bc o0 0, bc o0 1, bc o0 2⟩ (fun hHeld => ?_)
       clear hK K
       refine nm 22 ?_
       refine pu 5 17 #[T_,T_,T_,T_,T_,T_,F_,F_,F_,T_,F_,F_,F_] ?_
       refine pu 6 23 #[T_,T_,T_,T_,T_,T_,T_,F_,F_,T_,F_,F_,F_] ?_
       refine pu 7 24 #[T_,T_,T_,T_,T_,T_,T_,T_,F_,T_,F_,F_,F_] ?_
       refine pu 8 25 (tf 10 3) ?_
       exact nz (hCont (o4, m4, a5, g5, v0) _ ⟨hHeld, (by exact up (Kd.R_mono o2.out (fun _ hk => by first | exact ⟨hk.1.1, ⟨hk.1.2, hk.2⟩⟩ | (revert hk; simp only [and_imp]; intros; (repeat' (refine And.intro ?_ ?_)) <;> assumption)))), (by exact up (Kd.R_mono m2.out (fun _ hk => by first | exact ⟨hk.1.1, ⟨hk.1.2, hk.2⟩⟩ | (revert hk; simp only [and_imp]; intros; (repeat' (refine And.intro ?_ ?_)) <;> assumption)))), (by exact up (Kd.R_mono k2.out (fun _ hk => hk.2))), (up d3.out), (by exact up (Kd.R_mono d0.out (fun _ hk => by first | exact ⟨hk.1.2, ⟨hk.2, hk.1.1⟩⟩ | (revert hk; simp only [and_imp]; intros; (repeat' (refine And.intro ?_ ?_)) <;> assumption)))), (by exact up (Kd.R_mono b0.out (fun _ hk => by first | exact ⟨hk.1.2, ⟨hk.2, hk.1.1⟩⟩ | (revert hk; simp only [and_imp]; intros; (repeat' (refine And.intro ?_ ?_)) <;> assumption)))), (by exact up (Kd.R_mono g0.out (fun _ hk => hk.2))), (ub s0.out), (ub o0.out), (ub o1.out), j4.out, k4.out, v1.out, s1.out, d1.out, b1.out, q0.out, z0.out, is0, ke, bm⟩)
     ·skip
      refine box_step ?hg (N := 5) ?hd (cs := #[.slice none 0 0, .slice none 0 0, .slice none 0 0]) (t := 29) ?hr ?_; (case hd => rfl); (case hg => rfl); (case hr => first | (go_simp; done) | (go_simp; rfl))
      intro v0 hg w24 hbox hb
      replace d0 := ro d0 hb
      replace b0 := ro b0 hb
      replace g0 := ro g0 hb
      replace HB := bstp HB hb
      have o1 := mk hbox
      have j4 := mk ((by rw [hg]; exact (keep_size (w := w) (g := g) (row := none) ke) : w.heap.size ≤ v0))
      have k4 := mk ((Nat.le_trans HW0.out (by rw [hg]; exact (keep_size (w := w) (g := g) (row := none) ke) : w.heap.size ≤ v0) : w0.heap.size ≤ v0))
      replace HK := kb HK ke hb
      have d1 := nl s0 hg
      have b1 := nr s0 hg
      replace s0 := wb s0 hb
      have q0 := nl o0 hg
      have z0 := nr o0 hg
      replace o0 := wb o0 hb
      have v1 := mk ((by rw [hg]; exact Nat.ne_of_lt (IsS80.lt (show IsS80 w0 _ g s0_0 j1 g1 from is0)) : g ≠ v0))
      have s1 := mk ((by rw [hg]; exact Nat.ne_of_gt (IsS80.lt (show IsS80 w0 _ g s0_0 j1 g1 from is0)) : v0 ≠ g))
      replace HI0 := mk (IsS80.below is0 hb)
      clear hb hbox hg
      refine hK.out _ _ ⟨bc o0 0, bc o0 1, bc o0 2⟩ (fun hHeld => ?_)
      clear hK K
      refine nm 5 ?_
      refine on 3 21 #[T_,T_,T_,T_,F_,F_,F_,F_,F_,T_,F_,F_,F_] (fun K hK => ?_)
      refine gs Try.func64 #[.pointer (some ⟨g, 0, none⟩), .agg #[.slice z2 k0.length s2, .slice v2 j0.length q2, .slice j3 m0.length g3]] ?_
      with_reducible refine (spec_l4Value.calls k1 g s0_0 j1 g1 _ _ k0 _ _ j0 _ _ m0 z4 s4 q4 w0 _ ?side1 ?side2 ?side3 ?side4 ?side5 ?side6 ?side7 ?side8 ?side9 ?side10 A18.out).mono ?_
      (case side1 => exact is0)
      (case side2 => exact bm)
      (case side3 => exact ra d0)
      (case side4 => exact rb d0)
      (case side5 => exact far_slice (IsS80.own_ne HI0.out d0.out (by decide)))
      (case side6 => exact ra b0)
      (case side7 => exact rb b0)
      (case side8 => exact far_slice (IsS80.own_ne HI0.out b0.out (by decide)))
      (case side9 => exact Kd.C_foot_own (IsS80.apart (show IsS80 w0 _ g s0_0 j1 g1 from is0) (up g0.out) (by decide)) (fun _ h_ => h_.2))
      (case side10 => exact rb g0)
      rintro e w25 ⟨rfl, hi, hb, hk⟩
      refine ⟨_, rfl, ?_⟩
      replace d0 := kp (IsS80.apart (show IsS80 w0 _ g s0_0 j1 g1 from is0) (up d0.out) (by decide)) hk
      replace b0 := kp (IsS80.apart (show IsS80 w0 _ g s0_0 j1 g1 from is0) (up b0.out) (by decide)) hk
      replace g0 := kp (IsS80.apart (show IsS80 w0 _ g s0_0 j1 g1 from is0) (up g0.out) (by decide)) hk
      replace s0 := mk (KeepBut.blk hk (g' := q1) (o := .cells #[.slice none 0 0, .slice none 0 0, .slice none 0 0] 29 (0, 0)) (ub s0.out) j2.out (by simp))
      replace o0 := mk (KeepBut.blk hk (g' := m1) (o := .cells #[.slice z2 k0.length s2, .slice v2 j0.length q2, .slice j3 m0.length g3] 29 (0, 0)) (ub o0.out) z1.out (by simp))
      replace o1 := mk (KeepBut.blk hk (g' := v0) (o := .cells #[.slice none 0 0, .slice none 0 0, .slice none 0 0] 29 (0, 0)) (ub o1.out) s1.out (by simp))
      replace HK := kt HK ke hk
      replace HB := mk hb
      replace HI0 := mk hi
      (try clear hb)
      (try clear hb2)
      (try clear hk)
      (try clear hi)
      refine hK.out _ _ ⟨bc o0 0, bc o0 1, bc o0 2⟩ (fun hHeld => ?_)
      clear hK K
      refine nm 21 ?_
      refine on 4 22 #[T_,T_,T_,T_,T_,F_,F_,F_,F_,T_,F_,F_,F_] (fun K hK => ?_)
      refine gs Try.func71 #[.agg #[.slice z2 k0.length s2, .slice v2 j0.length q2, .slice j3 m0.length g3], .int .i64 z4] ?_
      with_reducible refine (spec_CrackAt.calls k1 _ _ k0 _ _ j0 _ _ m0 z4 m5 k5 j5 s6 k6 _ ?side1 ?side2 ?side3 ?side4 ?side5 ?side6 A19.out).mono ?_
      (case side1 => exact ra d0)
      (case side2 => exact rb d0)
      (case side3 => exact ra b0)
      (case side4 => exact rb b0)
      (case side5 => exact ra g0)
      (case side6 => exact rb g0)
      rintro e w26 ⟨o4, m4, a5, g5, rfl, ho0, ho1, ho2, ho3, hb⟩
      refine ⟨_, rfl, ?_⟩
      have o2 := mk (Kd.R_lower (Kd.R_new' (Kd.R_new' ho0 (Kd.R_lt (up d0.out))) (Kd.R_lt (up b0.out))) (keep_size (w := w) (g := g) (row := none) ke))
      have m2 := mk (Kd.R_lower (Kd.R_new' (Kd.R_new' ho1 (Kd.R_lt (up d0.out))) (Kd.R_lt (up b0.out))) (keep_size (w := w) (g := g) (row := none) ke))
      replace d0 := td2 d0 hb ho0 ho1
      replace b0 := td2 b0 hb ho0 ho1
      have k2 := mk (Kd.R_lower (Kd.R_new' ho2 (Kd.R_lt (up g0.out))) (keep_size (w := w) (g := g) (row := none) ke))
      replace g0 := el g0 ho2 hb
      have d3 := mk (Kd.R_lower ho3 (keep_size (w := w) (g := g) (row := none) ke))
      replace s0 := wb s0 hb
      replace o0 := wb o0 hb
      replace o1 := wb o1 hb
      replace HK := kb HK ke hb
      replace HB := bstp HB hb
      replace HI0 := mk (IsS80.below is0 hb)
      (try clear hb)
      (try clear hb2)
      (try clear hk)
      (try clear hi)
      (try clear ho0)
      (try clear ho1)
      (try clear ho2)
      (try clear ho3)
      refine hK.out _ _ ⟨bc o0 0, bc o0 1, bc o0 2⟩ (fun hHeld => ?_)
      clear hK K
      refine nm 22 ?_
      refine pu 5 17 #[T_,T_,T_,T_,T_,T_,F_,F_,F_,T_,F_,F_,F_] ?_
      refine pu 6 23 #[T_,T_,T_,T_,T_,T_,T_,F_,F_,T_,F_,F_,F_] ?_
      refine pu 7 24 #[T_,T_,T_,T_,T_,T_,T_,T_,F_,T_,F_,F_,F_] ?_
      refine pu 8 25 (tf 10 3) ?_
      exact nz (hCont (o4, m4, a5, g5, v0) _ ⟨hHeld, (by exact up (Kd.R_mono o2.out (fun _ hk => by first | exact ⟨hk.1.1, ⟨hk.1.2, hk.2⟩⟩ | (revert hk; simp only [and_imp]; intros; (repeat' (refine And.intro ?_ ?_)) <;> assumption)))), (by exact up (Kd.R_mono m2.out (fun _ hk => by first | exact ⟨hk.1.1, ⟨hk.1.2, hk.2⟩⟩ | (revert hk; simp only [and_imp]; intros; (repeat' (refine And.intro ?_ ?_)) <;> assumption)))), (by exact up (Kd.R_mono k2.out (fun _ hk => hk.2))), (up d3.out), (by exact up (Kd.R_mono d0.out (fun _ hk => by first | exact ⟨hk.1.2, ⟨hk.2, hk.1.1⟩⟩ | (revert hk; simp only [and_imp]; intros; (repeat' (refine And.intro ?_ ?_)) <;> assumption)))), (by exact up (Kd.R_mono b0.out (fun _ hk => by first | exact ⟨hk.1.2, ⟨hk.2, hk.1.1⟩⟩ | (revert hk; simp only [and_imp]; intros; (repeat' (refine And.intro ?_ ?_)) <;> assumption)))), (by exact up (Kd.R_mono g0.out (fun _ hk => hk.2))), (ub s0.out), (ub o0.out), (ub o1.out), j4.out, k4.out, v1.out, s1.out, d1.out, b1.out, q0.out, z0.out, is0, ke, bm⟩)
    rintro ⟨o4, m4, a5, g5, v0⟩ w27 ⟨hS_, h0_, h1_, h2_, h3_, h4_, h5_, h6_, h7_, h8_, h9_, h10_, h11_, h12_, h13_, h14_, h15_, h16_, h17_, h18_, h19_, h20_⟩
    have n0_ : Aside0 (Kd.R (Kd.int .i64) 3 w27 w.heap.size (fun k_ => some k_ ≠ (m4 : Value).ownBlock ∧ some k_ ≠ (.slice z2 k0.length s2 : Value).ownBlock ∧ some k_ ≠ (.slice v2 j0.length q2 : Value).ownBlock) o4 m5) := ⟨h0_⟩
    have n1_ : Aside0 (Kd.R (Kd.int .i64) 3 w27 w.heap.size (fun k_ => some k_ ≠ (o4 : Value).ownBlock ∧ some k_ ≠ (.slice z2 k0.length s2 : Value).ownBlock ∧ some k_ ≠ (.slice v2 j0.length q2 : Value).ownBlock) m4 k5) := ⟨h1_⟩
    have n2_ : Aside0 (Kd.R k50 50 w27 w.heap.size (fun k_ => some k_ ≠ (.slice j3 m0.length g3 : Value).ownBlock) a5 j5) := ⟨h2_⟩
    have n3_ : Aside0 (Kd.R k105 105 w27 w.heap.size (fun _ => True) g5 s6) := ⟨h3_⟩
    have n4_ : Aside0 (Kd.R (Kd.int .i64) 3 w27 w.heap.size (fun k_ => some k_ ≠ (o4 : Value).ownBlock ∧ some k_ ≠ (m4 : Value).ownBlock ∧ some k_ ≠ (.slice v2 j0.length q2 : Value).ownBlock) (.slice z2 k0.length s2) k0) := ⟨h4_⟩
    have n5_ : Aside0 (Kd.R (Kd.int .i64) 3 w27 w.heap.size (fun k_ => some k_ ≠ (o4 : Value).ownBlock ∧ some k_ ≠ (m4 : Value).ownBlock ∧ some k_ ≠ (.slice z2 k0.length s2 : Value).ownBlock) (.slice v2 j0.length q2) j0) := ⟨h5_⟩
    have n6_ : Aside0 (Kd.R k50 50 w27 w.heap.size (fun k_ => some k_ ≠ (a5 : Value).ownBlock) (.slice j3 m0.length g3) m0) := ⟨h6_⟩
    have n7_ : Aside0 (w27.heap[q1]? = some (.cells #[.slice none 0 0, .slice none 0 0, .slice none 0 0] 29 (0, 0))) := ⟨h7_⟩
    have n8_ : Aside0 (w27.heap[m1]? = some (.cells #[.slice z2 k0.length s2, .slice v2 j0.length q2, .slice j3 m0.length g3] 29 (0, 0))) := ⟨h8_⟩
    have n9_ : Aside0 (w27.heap[v0]? = some (.cells #[.slice none 0 0, .slice none 0 0, .slice none 0 0] 29 (0, 0))) := ⟨h9_⟩
    have n10_ : Aside0 (w.heap.size ≤ v0) := ⟨h10_⟩
    have n11_ : Aside0 (w0.heap.size ≤ v0) := ⟨h11_⟩
    have n12_ : Aside0 (g ≠ v0) := ⟨h12_⟩
    have n13_ : Aside0 (v0 ≠ g) := ⟨h13_⟩
    have n14_ : Aside0 (q1 ≠ v0) := ⟨h14_⟩
    have n15_ : Aside0 (v0 ≠ q1) := ⟨h15_⟩
    have n16_ : Aside0 (m1 ≠ v0) := ⟨h16_⟩
    have n17_ : Aside0 (v0 ≠ m1) := ⟨h17_⟩
    have n18_ : Aside0 (IsS80 w0 w27 g s0_0 s4 q4) := ⟨h18_⟩
    have n19_ : Aside0 (KeepBut w w27 g none) := ⟨h19_⟩
    have n20_ : Aside0 (Below w0.heap.size w0 w27) := ⟨h20_⟩
    clear d0
    clear b0
    clear g0
    clear s0
    clear o0
    clear HI0
    clear HK
    clear HB
    clear h0_ h1_ h2_ h3_ h4_ h5_ h6_ h7_ h8_ h9_ h10_ h11_ h12_ h13_ h14_ h15_ h16_ h17_ h18_ h19_ h20_
    have o2 := n0_
    have m2 := n1_
    have k2 := n2_
    have d3 := n3_
    have d0 := n4_
    have b0 := n5_
    have g0 := n6_
    have s0 := n7_
    have o0 := n8_
    have o1 := n9_
    have j4 := n10_
    have k4 := n11_
    have v1 := n12_
    have s1 := n13_
    have d1 := n14_
    have b1 := n15_
    have q0 := n16_
    have z0 := n17_
    have HI0 := n18_
    have HK := n19_
    have HB := n20_
    clear n0_ n1_ n2_ n3_ n4_ n5_ n6_ n7_ n8_ n9_ n10_ n11_ n12_ n13_ n14_ n15_ n16_ n17_ n18_ n19_ n20_
    have hHeld : w27.cell? ⟨m1, 0, none⟩ = some (.slice z2 k0.length s2) ∧ w27.cell? ⟨m1, 1, none⟩ = some (.slice v2 j0.length q2) ∧ w27.cell? ⟨m1, 2, none⟩ = some (.slice j3 m0.length g3) := hS_
    obtain ⟨ka3, qa2, m9⟩ := Kd.R_slice o2.out
    (first | subst m9 | (injection m9 with f1_ f2_ f3_; have f4_ := f1_.symm; have f5_ := f3_.symm; clear f1_ f2_ f3_; subst f4_; subst f5_))
    obtain ⟨ja3, oa2, k9⟩ := Kd.R_slice m2.out
    (first | subst k9 | (injection k9 with f1_ f2_ f3_; have f4_ := f1_.symm; have f5_ := f3_.symm; clear f1_ f2_ f3_; subst f4_; subst f5_))
    obtain ⟨ga3, ma2, j9⟩ := Kd.R_slice k2.out
    (first | subst j9 | (injection j9 with f1_ f2_ f3_; have f4_ := f1_.symm; have f5_ := f3_.symm; clear f1_ f2_ f3_; subst f4_; subst f5_))
    refine norm_ (a' := ?_) ?_ ?_
    rotate_left
    ·simp only [putAll, Act.put, List.setIfInBounds_toArray, List.set_cons_zero, List.set_cons_succ]
     rfl
    refine one_ (i := 10) (N := none) #[T_, T_, T_, T_, T_, T_, T_, T_, T_, T_, T_, F_, F_] rfl rfl (one_of HT_.out (by kernel_rfl)) (by decide) (fun K hK => ?_)
    have hs29 : w27.cell? ⟨v0, 0, none⟩ = some (.slice none 0 0) := (blk_cell o1.out 0).trans rfl
    have hfs29 := blk_frozen o1.out 0
    have hns29_0 := d1.out
    have hns29_1 := q0.out
    have hms29_0 := b1.out
    have hms29_1 := z0.out
    have hs31 : w27.cell? ⟨v0, 1, none⟩ = some (.slice none 0 0) := (blk_cell o1.out 1).trans rfl
    have hfs31 := blk_frozen o1.out 1
    have hns31_0 := d1.out
    have hns31_1 := q0.out
    have hms31_0 := b1.out
    have hms31_1 := z0.out
    have hs33 : w27.cell? ⟨v0, 2, none⟩ = some (.slice none 0 0) := (blk_cell o1.out 2).trans rfl
    have hfs33 := blk_frozen o1.out 2
    have hns33_0 := d1.out
    have hns33_1 := q0.out
    have hms33_0 := b1.out
    have hms33_1 := z0.out
    refine skip_ (w1 := ?_) (by rfl) rfl ?_ ?_
    rotate_left
    ·go_simp
     rfl
    refine hK.out _ _ ⟨((cell_far (p := ⟨v0, _, none⟩) q0.out _).trans (((cell_far (p := ⟨v0, _, none⟩) q0.out _).trans (((cell_far (p := ⟨v0, _, none⟩) q0.out _).trans (hHeld.1)))))), ((cell_far (p := ⟨v0, _, none⟩) q0.out _).trans (((cell_far (p := ⟨v0, _, none⟩) q0.out _).trans (((cell_far (p := ⟨v0, _, none⟩) q0.out _).trans (hHeld.2.1)))))), ((cell_far (p := ⟨v0, _, none⟩) q0.out _).trans (((cell_far (p := ⟨v0, _, none⟩) q0.out _).trans (((cell_far (p := ⟨v0, _, none⟩) q0.out _).trans (hHeld.2.2))))))⟩ (fun hHeld => ?_)
    clear hK K
    refine pu 11 6 (tf 12 1) ?_
    refine pu 12 7 (tf 13 0) ?_
    refine done_ (done_of HT_.out (by kernel_rfl)) ?_
    have ja1 := b1.out
    have oa0 := d1.out
    have ga1 := z0.out
    have ma0 := q0.out
    have da1 := s1.out
    have ka0 := v1.out
    obtain ⟨z8, y8, v8, a8, z7, y7⟩ := bz3 o1
    have ba1 := d2.out
    have ja0 := g2.out
    have aa1 := z1.out
    have ga0 := a4.out
    obtain ⟨s8, q8, o8, v7, s7, q7⟩ := bz3 o0
    try go_wp2
    go_roundg k1
    case measure => have := HK1.out; omega
    case rel => exact ⟨(wrap64 (j6 - 1)), (s4), (q4), (m5), (k5), (j5), (.slice ka3 m5.length qa2), (.slice ja3 k5.length oa2), (.slice ga3 j5.length ma2), (by first | rfl | (simp; done) | (simp [*]; done)), H', ⟨by have := HK1.out; omega⟩, ⟨(by exact rm (rs2 o2 o1 o0))⟩, ⟨(by exact rm (rs2 m2 o1 o0))⟩, ⟨(by exact rm (rs2 k2 o1 o0))⟩, ⟨bq⟩, ⟨bq⟩, ⟨is0⟩, ⟨ke⟩, ⟨bm⟩⟩
   ·have a9 : decide (0 < j6) = false := decide_eq_false c17
    clear c17
    simp only [Option.some.injEq, Prod.mk.injEq] at H
    obtain ⟨rfl, rfl, rfl, rfl, rfl⟩ := H
    have za0 := d2.out
    have da0 := g2.out
    have ya0 := z1.out
    have ba0 := a4.out
    obtain ⟨m8, k8, j8, o7, m7, k7⟩ := bz3 o0
    obtain ⟨da3, ka2, sa1⟩ := Kd.R_slice d0.out
    subst sa1
    have va0 := j2.out
    have aa0 := g6.out
    obtain ⟨g8, d8, b8, j7, g7, d7⟩ := bz3 s0
    obtain ⟨ba3, ja2, qa1⟩ := Kd.R_slice b0.out
    subst qa1
    obtain ⟨aa3, ga2, oa1⟩ := Kd.R_slice g0.out
    subst oa1
    go_wp2
    refine bodyPost_ret (results_cell_row rfl _ _ q1 29 #[.slice da3 k0.length ka2, .slice ba3 j0.length ja2, .slice aa3 m0.length ga2] (0, 0) _ rfl bq Try.underlying29 rfl (by kernel_rfl)) rfl ?_
    exact ⟨_, _, _, rx, (by exact rm (rs1 d0 s0)), (by exact rm (rs1 b0 s0)), (by exact rm (rs1 g0 s0)), is0, bm, ke⟩

end Go.Proofs.Ytlikcmonejefoab.PFnRipples
