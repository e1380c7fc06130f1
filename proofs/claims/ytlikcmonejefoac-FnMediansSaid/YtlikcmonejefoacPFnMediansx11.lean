-- printed by a program of this session, a turned copy of the print of the kit
import Derived.Test.YtlikcmonejefoacSq
import Derived.Test.YtlikcmonejefoacPFnMediansx0
import Derived.Test.YtlikcmonejefoacPFnMediansx2
import Derived.Test.YtlikcmonejefoacPFnMediansx3
import Derived.Test.YtlikcmonejefoacPFnMediansx10
namespace Go.Proofs.Ytlikcmonejefoac.PFnMedians
open Go.RowKit Go.Proofs.YtlikcmonejefoacW.PrintWords Go.Proofs.YtlikcmonejefoacW.PrintLast Go.Proofs.YtlikcmonejefoacW.PrintMore Go.Proofs.Ytlikcmonejefoac.Sq
attribute [local go_sem] max2_int min2_int max_two min_two max_three min_three max_four min_four Giv.cell_twice   -- for this text's walks alone
set_option linter.unusedVariables false
set_option linter.unusedSimpArgs false

/-! ### spec_l4Cracker: function 63 -/
def spec_l4Cracker.l0 : Nat → Int → List Int → Int → Int → List Int → List Int → List (S90) → Option (List Int × List Int × (List (S90)) × Int × Int)
 | 0, _, _, _, _, _, _, _ => none
 | k + 1, x4, x1000, x1001, x1002, x419000, x419001, x419002 => if x4 > 0 then ((spec_l4Value.f k x1000 x1001 x1002 x419000 x419001 x419002).bind fun bt422 => ((spec_CrackAt.f k x419000 x419001 x419002 bt422.1).bind fun bt425 => (spec_l4Cracker.l0 k (wrap64 (x4 - 1)) x1000 bt422.2.1 bt422.2.2 bt425.1 bt425.2.1 bt425.2.2.1))) else (some (x419000, x419001, x419002, x1001, x1002))
def spec_l4Cracker.f (k : Nat) (s0_0 : List Int) (s0_1 : Int) (s0_2 : Int) : Option (List Int × List Int × (List (S90)) × Int × Int) := (spec_l2Values.f k s0_0 s0_1 s0_2 14).bind fun bt404 => ((spec_NewCracker.f k bt404.1).bind fun bt409 => ((spec_l1Below.f s0_0 bt404.2.1 bt404.2.2 5).bind fun bt419 => (spec_l4Cracker.l0 k bt419.1 s0_0 bt419.2.1 bt419.2.2 bt409.1 bt409.2.1 bt409.2.2)))
theorem spec_l4Cracker.mono_l : ∀ k, (∀ y0 y1 y2 y3 y4 y5 y6, LeO (spec_l4Cracker.l0 k y0 y1 y2 y3 y4 y5 y6) (spec_l4Cracker.l0 (k + 1) y0 y1 y2 y3 y4 y5 y6))
 | 0 => fun _ _ _ _ _ _ _ r h => by simp [spec_l4Cracker.l0] at h
 | k + 1 => by
  have ih0 := spec_l4Cracker.mono_l k
  ·intro y0 y1 y2 y3 y4 y5 y6
   unfold spec_l4Cracker.l0
   exact mo
theorem spec_l4Cracker.mono : ∀ a0 a1 a2 k, LeO (spec_l4Cracker.f k a0 a1 a2) (spec_l4Cracker.f (k + 1) a0 a1 a2) := by
 intro a0 a1 a2 k
 have ih0 := spec_l4Cracker.mono_l k
 unfold spec_l4Cracker.f
 exact mo
instance spec_l4Cracker.mi (a0 a1 a2 k) : LeC (spec_l4Cracker.f k a0 a1 a2) (spec_l4Cracker.f (k + 1) a0 a1 a2) := ⟨spec_l4Cracker.mono a0 a1 a2 k⟩
def spec_l4Cracker.T5 : Bool × List (List Nat × List Nat) := (true, [([], []), ([], []), ([], []), ([1, 2], [1, 2]), ([0, 3, 3], [0, 3]), ([4], [4]), ([5], [5]), ([5], [5]), ([5], [5]), ([], []), ([9, 6, 4, 0, 1, 2, 3, 4, 5, 6, 9], [6, 9]), ([7, 10, 0, 1, 2, 3, 4, 5, 6, 7, 9, 10], [7]), ([8, 11, 0, 1, 2, 3, 4, 5, 6, 7, 8, 9, 10, 11], [8])])
def spec_l4Cracker.B5 : List Nat := [0, 0, 0, 6, 15, 31, 63, 63, 63, 0, 639, 1791, 4095]
theorem spec_l4Cracker.tab5 : rtab .any (opsOf Try.f63 5) = spec_l4Cracker.T5 := by kernel_rfl
theorem spec_l4Cracker.bits5 : waitsOk spec_l4Cracker.T5.2 spec_l4Cracker.B5 = true := by kernel_rfl
set_option maxHeartbeats 8000000 in
set_option maxRecDepth 100000 in
theorem spec_l4Cracker.calls (k : Nat) (g : Nat) (s0_0 : List Int) (s0_1 : Int) (s0_2 : Int) (r1 : List Int) (r2 : List Int) (r3 : List (S90)) (r4 : Int) (r5 : Int) (w0 w : World) (hI : IsS88 w0 w g s0_0 s0_1 s0_2) (hB : Below w0.heap.size w0 w) (h : spec_l4Cracker.f k s0_0 s0_1 s0_2 = some (r1, r2, r3, r4, r5)) :
  Calls Try.prog 63 #[.pointer (some ⟨g, 0, none⟩)] w fun e w' => ∃ v0_ v1_ v2_ : Value, e = .returned (.agg #[v0_, v1_, v2_]) ∧ Kd.R (Kd.int .i64) 3 w' w.heap.size (fun k_ => some k_ ≠ (v1_ : Value).ownBlock) v0_ r1 ∧ Kd.R (Kd.int .i64) 3 w' w.heap.size (fun k_ => some k_ ≠ (v0_ : Value).ownBlock) v1_ r2 ∧ Kd.R k90 90 w' w.heap.size (fun _ => True) v2_ r3 ∧ IsS88 w0 w' g s0_0 r4 r5 ∧ Below w0.heap.size w0 w' ∧ KeepBut w w' g none := by
 have hu45 := Try.underlying45
 have HI0 := Aside0.mk hI
 have HK := Aside0.mk (KeepBut.refl w g none)
 have HL := Aside0.mk hB.size
 clear hI
 have HW0 := Aside0.mk hB.size
 have HB := Aside0.mk hB
 clear hB
 have H : ((spec_l2Values.f k s0_0 s0_1 s0_2 14).bind fun bt404 => ((spec_NewCracker.f k bt404.1).bind fun bt409 => ((spec_l1Below.f s0_0 bt404.2.1 bt404.2.2 5).bind fun bt419 => (spec_l4Cracker.l0 k bt419.1 s0_0 bt419.2.1 bt419.2.2 bt409.1 bt409.2.1 bt409.2.2)))) = some (r1, r2, r3, r4, r5) := h
 clear h
 revert H; refine bo ?_; rintro ⟨t404, t407, t408⟩ A2 H
 dsimp only at H
 revert H; refine bo ?_; rintro ⟨t409, t412, t415⟩ A3 H
 dsimp only at H
 revert H; refine bo ?_; rintro ⟨t419, t420, t421⟩ A4 H
 dsimp only at H
 have H' := Aside0.mk H
 clear H
 go_enter Try.func63, Try.ntmps63
 go_wp2_with (first | ((with_reducible refine gate_dst (N := 2) rfl ?_); refine bx 2 #[.slice none 0 0, .slice none 0 0, .slice none 0 0] 45 ?_; intro gb403 hg w5 hbox hb; replace HB := mk (below_step (by repeat (first | (with_reducible first | exact HB.out | apply below_alloc | apply pw_below_drewN | apply below_drew1 | refine below_set ?_ (IsS88.ge HI0.out)) | exact HB.out)) hb); have BK403 := mk hbox; have GW403 := mk ((by rw [hg]; exact (keep_size (w := w) (g := g) (row := none) (by repeat (first | (with_reducible first | exact HK.out | apply KeepBut.set_ | apply keep_drewN | apply keep_drew | apply keep_alloc) | exact HK.out))) : w.heap.size ≤ gb403)); have GE403 := mk ((Nat.le_trans HW0.out (by rw [hg]; exact (keep_size (w := w) (g := g) (row := none) (by repeat (first | (with_reducible first | exact HK.out | apply KeepBut.set_ | apply keep_drewN | apply keep_drew | apply keep_alloc) | exact HK.out))) : w.heap.size ≤ gb403) : w0.heap.size ≤ gb403)); replace HK := mk (KeepBut.trans (by repeat (first | (with_reducible first | exact HK.out | apply KeepBut.set_ | apply keep_drewN | apply keep_drew | apply keep_alloc) | exact HK.out)) (KeepBut.of_below hb g none) (.inl rfl)); have NB0_403 := mk ((by rw [hg]; exact Nat.ne_of_lt (IsS88.lt (show IsS88 w0 _ g s0_0 s0_1 s0_2 from by repeat (first | (with_reducible first | exact HI0.out | apply IsS88.alloc | apply IsS88.drewN | apply IsS88.drew | apply IsS88.set_1 | apply IsS88.set_2) | exact HI0.out))) : g ≠ gb403)); have NB403_0 := mk ((by rw [hg]; exact Nat.ne_of_gt (IsS88.lt (show IsS88 w0 _ g s0_0 s0_1 s0_2 from by repeat (first | (with_reducible first | exact HI0.out | apply IsS88.alloc | apply IsS88.drewN | apply IsS88.drew | apply IsS88.set_1 | apply IsS88.set_2) | exact HI0.out))) : gb403 ≠ g)); replace HI0 := mk (IsS88.below (by repeat (first | (with_reducible first | exact HI0.out | apply IsS88.alloc | apply IsS88.drewN | apply IsS88.drew | apply IsS88.set_1 | apply IsS88.set_2) | exact HI0.out)) hb); clear hb hbox hg) | ((with_reducible refine gate_callee (f := 40) rfl ?_); refine gl (some 9) rfl Try.func40 #[.pointer (some ⟨g, 0, none⟩), .int .i64 14] ?_; (with_reducible refine (spec_l2Values.calls k g s0_0 s0_1 s0_2 14 t404 t407 t408 w0 _ ?side1 ?side2 A2.out).mono ?_); (case side1 => repeat (first | (with_reducible first | exact HI0.out | apply IsS88.alloc | apply IsS88.drewN | apply IsS88.drew | apply IsS88.set_1 | apply IsS88.set_2 | refine IsS88.far ?_ NB0_403.out _) | exact HI0.out)); (case side2 => repeat (first | (with_reducible first | exact HB.out | apply below_alloc | apply pw_below_drewN | apply below_drew1 | refine below_set ?_ (IsS88.ge HI0.out) | refine below_set ?_ GE403.out) | exact HB.out)); rintro e w6 ⟨v405, rfl, ho0, hi, hb, hk⟩; refine ⟨_, rfl, ?_⟩; replace BK403 := mk (KeepBut.blk hk (g' := gb403) (o := .cells #[.slice none 0 0, .slice none 0 0, .slice none 0 0] 45 (0, 0)) (ub BK403.out) NB403_0.out (by simp)); have HO406 := mk (Kd.R_lower ho0 (keep_size (w := w) (g := g) (row := none) (by repeat (first | (with_reducible first | exact HK.out | apply KeepBut.set_ | apply keep_drewN | apply keep_drew | apply keep_alloc | refine keep_far ?_ GW403.out _) | exact HK.out)))); replace HK := mk (KeepBut.trans (by repeat (first | (with_reducible first | exact HK.out | apply KeepBut.set_ | apply keep_drewN | apply keep_drew | apply keep_alloc | refine keep_far ?_ GW403.out _) | exact HK.out)) hk (.inl rfl)); replace HB := mk hb; replace HI0 := mk hi; (try clear hb); (try clear hb2); (try clear hk); (try clear hi); (try clear ho0); obtain ⟨Ao7, co7, eo7⟩ := Kd.R_slice HO406.out; subst eo7) | ((with_reducible refine gate_callee (f := 75) rfl ?_); refine gl (some 10) rfl Try.func75 #[.slice Ao7 t404.length co7] ?_; (with_reducible refine (spec_NewCracker.calls k _ _ t404 t409 t412 t415 _ ?side1 ?side2 A3.out).mono ?_); (case side1 => exact uc (Kd.R_reads' HO406.out).2.2); (case side2 => exact (Kd.R_reads' HO406.out).2.1); rintro e w8 ⟨v410, v413, v416, rfl, ho0, ho1, ho2, hb⟩; refine ⟨_, rfl, ?_⟩; have HO411 := mk (Kd.R_lower (Kd.R_new' ho0 (Kd.R_lt (up HO406.out))) (keep_size (w := w) (g := g) (row := none) (by repeat (first | (with_reducible first | exact HK.out | apply KeepBut.set_ | apply keep_drewN | apply keep_drew | apply keep_alloc | refine keep_far ?_ GW403.out _) | exact HK.out)))); have HO414 := mk (Kd.R_lower (Kd.R_new' ho1 (Kd.R_lt (up HO406.out))) (keep_size (w := w) (g := g) (row := none) (by repeat (first | (with_reducible first | exact HK.out | apply KeepBut.set_ | apply keep_drewN | apply keep_drew | apply keep_alloc | refine keep_far ?_ GW403.out _) | exact HK.out)))); replace HO406 := mk (Kd.R_mono (Kd.R_told (Kd.R_told (Kd.R_old (up HO406.out) hb) (Kd.R_base ho0)) (Kd.R_base ho1)) (fun _ h_ => h_.1)); have HO417 := mk (Kd.R_lower ho2 (keep_size (w := w) (g := g) (row := none) (by repeat (first | (with_reducible first | exact HK.out | apply KeepBut.set_ | apply keep_drewN | apply keep_drew | apply keep_alloc | refine keep_far ?_ GW403.out _) | exact HK.out)))); replace BK403 := wb BK403 hb; replace HK := mk (KeepBut.trans (by repeat (first | (with_reducible first | exact HK.out | apply KeepBut.set_ | apply keep_drewN | apply keep_drew | apply keep_alloc | refine keep_far ?_ GW403.out _) | exact HK.out)) (KeepBut.of_below hb g none) (.inl rfl)); replace HB := mk (below_step (by repeat (first | (with_reducible first | exact HB.out | apply below_alloc | apply pw_below_drewN | apply below_drew1 | refine below_set ?_ (IsS88.ge HI0.out) | refine below_set ?_ GE403.out) | exact HB.out)) hb); replace HI0 := mk (IsS88.below (by repeat (first | (with_reducible first | exact HI0.out | apply IsS88.alloc | apply IsS88.drewN | apply IsS88.drew | apply IsS88.set_1 | apply IsS88.set_2 | refine IsS88.far ?_ NB0_403.out _) | exact HI0.out)) hb); (try clear hb); (try clear hb2); (try clear hk); (try clear hi); (try clear ho0); (try clear ho1); (try clear ho2)) | ((with_reducible refine gate_dst (N := 3) rfl ?_); refine bx 3 #[.slice none 0 0, .slice none 0 0, .slice none 0 0] 45 ?_; intro gb418 hg w9 hbox hb; replace HO406 := mk (Kd.R_below (up HO406.out) hb); replace HO411 := mk (Kd.R_below (up HO411.out) hb); replace HO414 := mk (Kd.R_below (up HO414.out) hb); replace HO417 := mk (Kd.R_below (up HO417.out) hb); replace HB := mk (below_step (by repeat (first | (with_reducible first | exact HB.out | apply below_alloc | apply pw_below_drewN | apply below_drew1 | refine below_set ?_ (IsS88.ge HI0.out) | refine below_set ?_ GE403.out) | exact HB.out)) hb); have BK418 := mk hbox; have GW418 := mk ((by rw [hg]; exact (keep_size (w := w) (g := g) (row := none) (by repeat (first | (with_reducible first | exact HK.out | apply KeepBut.set_ | apply keep_drewN | apply keep_drew | apply keep_alloc | refine keep_far ?_ GW403.out _) | exact HK.out))) : w.heap.size ≤ gb418)); have GE418 := mk ((Nat.le_trans HW0.out (by rw [hg]; exact (keep_size (w := w) (g := g) (row := none) (by repeat (first | (with_reducible first | exact HK.out | apply KeepBut.set_ | apply keep_drewN | apply keep_drew | apply keep_alloc | refine keep_far ?_ GW403.out _) | exact HK.out))) : w.heap.size ≤ gb418) : w0.heap.size ≤ gb418)); replace HK := mk (KeepBut.trans (by repeat (first | (with_reducible first | exact HK.out | apply KeepBut.set_ | apply keep_drewN | apply keep_drew | apply keep_alloc | refine keep_far ?_ GW403.out _) | exact HK.out)) (KeepBut.of_below hb g none) (.inl rfl)); have NB403_418 := nl BK403 hg; have NB418_403 := nr BK403 hg; replace BK403 := wb BK403 hb; have NB0_418 := mk ((by rw [hg]; exact Nat.ne_of_lt (IsS88.lt (show IsS88 w0 _ g s0_0 t407 t408 from by repeat (first | (with_reducible first | exact HI0.out | apply IsS88.alloc | apply IsS88.drewN | apply IsS88.drew | apply IsS88.set_1 | apply IsS88.set_2 | refine IsS88.far ?_ NB0_403.out _) | exact HI0.out))) : g ≠ gb418)); have NB418_0 := mk ((by rw [hg]; exact Nat.ne_of_gt (IsS88.lt (show IsS88 w0 _ g s0_0 t407 t408 from by repeat (first | (with_reducible first | exact HI0.out | apply IsS88.alloc | apply IsS88.drewN | apply IsS88.drew | apply IsS88.set_1 | apply IsS88.set_2 | refine IsS88.far ?_ NB0_403.out _) | exact HI0.out))) : gb418 ≠ g)); replace HI0 := mk (IsS88.below (by repeat (first | (with_reducible first | exact HI0.out | apply IsS88.alloc | apply IsS88.drewN | apply IsS88.drew | apply IsS88.set_1 | apply IsS88.set_2 | refine IsS88.far ?_ NB0_403.out _) | exact HI0.out)) hb); clear hb hbox hg; obtain ⟨Ao10, co10, eo10⟩ := Kd.R_slice HO411.out; subst eo10; have hnb11 := NB418_403.out; have hnc11 := NB403_418.out; have hnb12 := NB418_0.out; have hnc12 := NB0_418.out; obtain ⟨hcz13_0, hcz13_1, hcz13_2, hfz13_0, hfz13_1, hfz13_2⟩ := bz3 BK418; obtain ⟨Ao14, co14, eo14⟩ := Kd.R_slice HO414.out; subst eo14; obtain ⟨Ao15, co15, eo15⟩ := Kd.R_slice HO417.out; subst eo15) | ((with_reducible refine gate_callee (f := 44) rfl ?_); refine gl (some 12) rfl Try.func44 #[.pointer (some ⟨g, 0, none⟩), .int .i64 5] ?_; (with_reducible refine (spec_l1Below.calls g s0_0 t407 t408 5 t419 t420 t421 w0 _ ?side1 ?side2 A4.out).mono ?_); (case side1 => repeat (first | (with_reducible first | exact HI0.out | apply IsS88.alloc | apply IsS88.drewN | apply IsS88.drew | apply IsS88.set_1 | apply IsS88.set_2 | refine IsS88.far ?_ NB0_403.out _ | refine IsS88.far ?_ NB0_418.out _) | exact HI0.out)); (case side2 => repeat (first | (with_reducible first | exact HB.out | apply below_alloc | apply pw_below_drewN | apply below_drew1 | refine below_set ?_ (IsS88.ge HI0.out) | refine below_set ?_ GE403.out | refine below_set ?_ GE418.out) | exact HB.out)); rintro e w16 ⟨rfl, hi, hb, hk⟩; refine ⟨_, rfl, ?_⟩; have n0_ := Aside0.mk (KeepBut.blk hk (g' := gb403) (o := .cells #[.slice none 0 0, .slice none 0 0, .slice none 0 0] 45 (0, 0)) bq NB403_0.out (by simp)); have n1_ := Aside0.mk (Kd.R_mono (Kd.R_keep (IsS88.apart (show IsS88 w0 _ g s0_0 t407 t408 from by repeat (first | (with_reducible first | exact HI0.out | apply IsS88.alloc | apply IsS88.drewN | apply IsS88.drew | apply IsS88.set_1 | apply IsS88.set_2 | refine IsS88.far ?_ NB0_403.out _ | refine IsS88.far ?_ NB0_418.out _) | exact HI0.out)) (by exact rs1 HO406 BK418) (by decide)) hk (fun _ h => h.2)) (fun _ h => h.1)); have n2_ := Aside0.mk (Kd.R_mono (Kd.R_keep (IsS88.apart (show IsS88 w0 _ g s0_0 t407 t408 from by repeat (first | (with_reducible first | exact HI0.out | apply IsS88.alloc | apply IsS88.drewN | apply IsS88.drew | apply IsS88.set_1 | apply IsS88.set_2 | refine IsS88.far ?_ NB0_403.out _ | refine IsS88.far ?_ NB0_418.out _) | exact HI0.out)) (by exact rs1 HO411 BK418) (by decide)) hk (fun _ h => h.2)) (fun _ h => h.1)); have n3_ := Aside0.mk (Kd.R_mono (Kd.R_keep (IsS88.apart (show IsS88 w0 _ g s0_0 t407 t408 from by repeat (first | (with_reducible first | exact HI0.out | apply IsS88.alloc | apply IsS88.drewN | apply IsS88.drew | apply IsS88.set_1 | apply IsS88.set_2 | refine IsS88.far ?_ NB0_403.out _ | refine IsS88.far ?_ NB0_418.out _) | exact HI0.out)) (by exact rs1 HO414 BK418) (by decide)) hk (fun _ h => h.2)) (fun _ h => h.1)); have n4_ := Aside0.mk (Kd.R_mono (Kd.R_keep (IsS88.apart (show IsS88 w0 _ g s0_0 t407 t408 from by repeat (first | (with_reducible first | exact HI0.out | apply IsS88.alloc | apply IsS88.drewN | apply IsS88.drew | apply IsS88.set_1 | apply IsS88.set_2 | refine IsS88.far ?_ NB0_403.out _ | refine IsS88.far ?_ NB0_418.out _) | exact HI0.out)) (by exact rs1 HO417 BK418) (by decide)) hk (fun _ h => h.2)) (fun _ h => h.1)); have n5_ := Aside0.mk (KeepBut.blk hk (g' := gb418) (o := .cells #[.slice Ao10 t409.length co10, .slice Ao14 t412.length co14, .slice Ao15 t415.length co15] 45 (0, 0)) bq NB418_0.out (by simp)); have n6_ := Aside0.mk (KeepBut.trans (by repeat (first | (with_reducible first | exact HK.out | apply KeepBut.set_ | apply keep_drewN | apply keep_drew | apply keep_alloc | refine keep_far ?_ GW403.out _ | refine keep_far ?_ GW418.out _) | exact HK.out)) hk (.inl rfl)); have n7_ := Aside0.mk (hb); have n8_ := Aside0.mk (hi); clear BK403; clear HO406; clear HO411; clear HO414; clear HO417; clear BK418; clear HK; clear HB; clear HI0; have BK403 := n0_; have HO406 := n1_; have HO411 := n2_; have HO414 := n3_; have HO417 := n4_; have BK418 := n5_; have HK := n6_; have HB := n7_; have HI0 := n8_; clear n0_ n1_ n2_ n3_ n4_ n5_ n6_ n7_ n8_; (try clear hb); (try clear hb2); (try clear hk); (try clear hi)))
 go_loopg [4] k (fun kq v4 w' => ∃ (x4_1 : Int) (x1001_1 : Int) (x1002_1 : Int) (x419000_1 : List Int) (x419001_1 : List Int) (x419002_1 : List (S90)) (u419000 : Value) (u419001 : Value) (u419002 : Value), v4 = .int .i64 x4_1 ∧ Aside0 (spec_l4Cracker.l0 kq x4_1 s0_0 x1001_1 x1002_1 x419000_1 x419001_1 x419002_1 = some (r1, r2, r3, r4, r5)) ∧ Aside0 (kq ≤ k) ∧ Aside0 (Kd.R (Kd.int .i64) 3 w' w.heap.size (fun k_ => some k_ ≠ (u419001 : Value).ownBlock) u419000 x419000_1) ∧ Aside0 (Kd.R (Kd.int .i64) 3 w' w.heap.size (fun k_ => some k_ ≠ (u419000 : Value).ownBlock) u419001 x419001_1) ∧ Aside0 (Kd.R k90 90 w' w.heap.size (fun _ => True) u419002 x419002_1) ∧ Aside0 (w'.heap[gb403]? = some (.cells #[(.slice none 0 0), (.slice none 0 0), (.slice none 0 0)] 45 (0, 0))) ∧ Aside0 (w'.heap[gb418]? = some (.cells #[u419000, u419001, u419002] 45 (0, 0))) ∧ Aside0 (IsS88 w0 w' g s0_0 x1001_1 x1002_1) ∧ Aside0 (KeepBut w w' g none) ∧ Aside0 (Below w0.heap.size w0 w'))
 case atStart => exact ⟨(t419), (t420), (t421), (t409), (t412), (t415), (.slice Ao10 t409.length co10), (.slice Ao14 t412.length co14), (.slice Ao15 t415.length co15), (by first | rfl | (simp; done) | (simp [*]; done)), H', ⟨Nat.le_refl _⟩, ⟨by exact up (Kd.R_mono HO411.out (fun _ hk => hk.1))⟩, ⟨by exact up (Kd.R_mono HO414.out (fun _ hk => hk.1))⟩, ⟨up HO417.out⟩, ⟨ub BK403.out⟩, ⟨ub BK418.out⟩, ⟨by repeat (first | (with_reducible first | exact HI0.out | apply IsS88.alloc | apply IsS88.drewN | apply IsS88.drew | apply IsS88.set_1 | apply IsS88.set_2 | refine IsS88.far ?_ NB0_403.out _ | refine IsS88.far ?_ NB0_418.out _) | exact HI0.out)⟩, ⟨by repeat (first | (with_reducible first | exact HK.out | apply KeepBut.set_ | apply keep_drewN | apply keep_drew | apply keep_alloc | refine keep_far ?_ GW403.out _ | refine keep_far ?_ GW418.out _) | exact HK.out)⟩, ⟨by repeat (first | (with_reducible first | exact HB.out | apply below_alloc | apply pw_below_drewN | apply below_drew1 | refine below_set ?_ (IsS88.ge HI0.out) | refine below_set ?_ GE403.out | refine below_set ?_ GE418.out) | exact HB.out)⟩⟩
 case round =>
  clear H'
  try clear c1
  try clear p2
  try clear c4
  try clear c6
  try clear c7
  try clear c11
  try clear c12
  try clear hcz13_0
  try clear hcz13_1
  try clear hcz13_2
  try clear hfz13_0
  try clear hfz13_1
  try clear hfz13_2
  obtain ⟨x4_1, x1001_1, x1002_1, x419000_1, x419001_1, x419002_1, u419000, u419001, u419002, rfl, HA, HK1, HO_419000, HO_419001, HO_419002, BK403, BK418, HI0, HK, HB⟩ := hrel
  cases gk with
  | zero => exact absurd HA.out (by simp [spec_l4Cracker.l0])
  | succ k1 =>
   have H := HA.out
   clear HA
   simp only [spec_l4Cracker.l0] at H
   by_cases c17 : x4_1 > 0
   ·rw [if_pos c17] at H
    have c17b0 : decide (0 < x4_1) = true := decide_eq_true c17
    clear c17
    revert H; refine bo ?_; rintro ⟨t422, t423, t424⟩ A18 H
    dsimp only at H
    revert H; refine bo ?_; rintro ⟨t425, t428, t431, t434, t437⟩ A19 H
    dsimp only at H
    have H' := Aside0.mk H
    clear H
    obtain ⟨Ao20, co20, eo20⟩ := Kd.R_slice HO_419000.out
    subst eo20
    obtain ⟨Ao21, co21, eo21⟩ := Kd.R_slice HO_419001.out
    subst eo21
    obtain ⟨Ao22, co22, eo22⟩ := Kd.R_slice HO_419002.out
    subst eo22
    try go_wp2
    replace HO_419000 := mk (Kd.R_drew HO_419000.out)
    replace HO_419001 := mk (Kd.R_drew HO_419001.out)
    replace HO_419002 := mk (Kd.R_drew HO_419002.out)
    replace BK403 := wd BK403
    replace BK418 := wd BK418
    replace HI0 := mk (IsS88.drew HI0.out)
    replace HK := mk (keep_drew HK.out)
    replace HB := mk (below_drew1 HB.out)
    refine start_ (n := 13) (S := fun w' => w'.cell? ⟨gb418, 0, none⟩ = some (.slice Ao20 x419000_1.length co20) ∧ w'.cell? ⟨gb418, 1, none⟩ = some (.slice Ao21 x419001_1.length co21) ∧ w'.cell? ⟨gb418, 2, none⟩ = some (.slice Ao22 x419002_1.length co22)) (ds := []) #[F_, F_, F_, F_, F_, F_, F_, F_, F_, F_, F_, F_, F_] (by kernel_rfl) rfl rfl ⟨(blk_cell BK418.out 0).trans rfl, (blk_cell BK418.out 1).trans rfl, (blk_cell BK418.out 2).trans rfl⟩ (fun hHeld => ?_); refine with_tabW spec_l4Cracker.tab5 spec_l4Cracker.bits5 (fun HT_ HW_ => ?_)
    generalize wr.drew = w23 at HO_419000 HO_419001 HO_419002 BK403 BK418 HI0 HK HB hHeld ⊢
    refine pu 1 19 #[F_,T_,F_,F_,F_,F_,F_,F_,F_,F_,F_,F_,F_] ?_
    refine tk 0 18 (tf 2 11) hHeld ?_
    refine tk 2 20 (tf 3 10) hHeld ?_
    refine join_ (σ := Value × Value × Value × Value × Nat) 3 #[T_, T_, T_, T_, T_, T_, T_, T_, T_, T_, F_, F_, F_] (fun s_ => [(21, .int .i64 t422), (22, .tuple #[.agg #[s_.1, s_.2.1, s_.2.2.1], s_.2.2.2.1, .bool t437]), (5, .pointer (some ⟨s_.2.2.2.2, 0, none⟩)), (17, .tuple #[.agg #[s_.1, s_.2.1, s_.2.2.1], s_.2.2.2.1, .bool t437]), (23, .agg #[s_.1, s_.2.1, s_.2.2.1]), (24, s_.2.2.2.1), (25, .bool t437)]) (fun s_ w' => (w'.cell? ⟨gb418, 0, none⟩ = some (.slice Ao20 x419000_1.length co20) ∧ w'.cell? ⟨gb418, 1, none⟩ = some (.slice Ao21 x419001_1.length co21) ∧ w'.cell? ⟨gb418, 2, none⟩ = some (.slice Ao22 x419002_1.length co22)) ∧ (Kd.R (Kd.int .i64) 3 w' w.heap.size (fun k_ => some k_ ≠ (s_.2.1 : Value).ownBlock ∧ some k_ ≠ (.slice Ao20 x419000_1.length co20 : Value).ownBlock ∧ some k_ ≠ (.slice Ao21 x419001_1.length co21 : Value).ownBlock) s_.1 t425) ∧ (Kd.R (Kd.int .i64) 3 w' w.heap.size (fun k_ => some k_ ≠ (s_.1 : Value).ownBlock ∧ some k_ ≠ (.slice Ao20 x419000_1.length co20 : Value).ownBlock ∧ some k_ ≠ (.slice Ao21 x419001_1.length co21 : Value).ownBlock) s_.2.1 t428) ∧ (Kd.R k90 90 w' w.heap.size (fun k_ => some k_ ≠ (.slice Ao22 x419002_1.length co22 : Value).ownBlock) s_.2.2.1 t431) ∧ (Kd.R k134 134 w' w.heap.size (fun _ => True) s_.2.2.2.1 t434) ∧ (Kd.R (Kd.int .i64) 3 w' w.heap.size (fun k_ => some k_ ≠ (s_.1 : Value).ownBlock ∧ some k_ ≠ (s_.2.1 : Value).ownBlock ∧ some k_ ≠ (.slice Ao21 x419001_1.length co21 : Value).ownBlock) (.slice Ao20 x419000_1.length co20) x419000_1) ∧ (Kd.R (Kd.int .i64) 3 w' w.heap.size (fun k_ => some k_ ≠ (s_.1 : Value).ownBlock ∧ some k_ ≠ (s_.2.1 : Value).ownBlock ∧ some k_ ≠ (.slice Ao20 x419000_1.length co20 : Value).ownBlock) (.slice Ao21 x419001_1.length co21) x419001_1) ∧ (Kd.R k90 90 w' w.heap.size (fun k_ => some k_ ≠ (s_.2.2.1 : Value).ownBlock) (.slice Ao22 x419002_1.length co22) x419002_1) ∧ (w'.heap[gb403]? = some (.cells #[.slice none 0 0, .slice none 0 0, .slice none 0 0] 45 (0, 0))) ∧ (w'.heap[gb418]? = some (.cells #[.slice Ao20 x419000_1.length co20, .slice Ao21 x419001_1.length co21, .slice Ao22 x419002_1.length co22] 45 (0, 0))) ∧ (w'.heap[s_.2.2.2.2]? = some (.cells #[.slice none 0 0, .slice none 0 0, .slice none 0 0] 45 (0, 0))) ∧ (w.heap.size ≤ s_.2.2.2.2) ∧ (w0.heap.size ≤ s_.2.2.2.2) ∧ (g ≠ s_.2.2.2.2) ∧ (s_.2.2.2.2 ≠ g) ∧ (gb403 ≠ s_.2.2.2.2) ∧ (s_.2.2.2.2 ≠ gb403) ∧ (gb418 ≠ s_.2.2.2.2) ∧ (s_.2.2.2.2 ≠ gb418) ∧ (IsS88 w0 w' g s0_0 t423 t424) ∧ (KeepBut w w' g none) ∧ (Below w0.heap.size w0 w')) ?_ ?_
    rotate_left
    ·intro hCont
     refine two_ (i := 3) (j := 9) (Ni := some 21) (Nj := some 5) #[T_, T_, T_, T_, F_, F_, F_, F_, F_, F_, F_, F_, F_] #[T_, T_, T_, F_, F_, F_, F_, F_, F_, T_, F_, F_, F_] rfl rfl rfl rfl (two_of HT_.out (by kernel_rfl)) (by decide) (by decide) (fun K hK => ?_) (fun K hK => ?_)
     ·skip
      refine gs Try.func77 #[.pointer (some ⟨g, 0, none⟩), .agg #[.slice Ao20 x419000_1.length co20, .slice Ao21 x419001_1.length co21, .slice Ao22 x419002_1.length co22]] ?_
      with_reducible refine (spec_l4Value.calls k1 g s0_0 x1001_1 x1002_1 _ _ x419000_1 _ _ x419001_1 _ _ x419002_1 t422 t423 t424 w0 _ ?side1 ?side2 ?side3 ?side4 ?side5 ?side6 ?side7 ?side8 ?side9 ?side10 A18.out).mono ?_
      (case side1 => repeat (first | (with_reducible first | exact HI0.out | apply IsS88.alloc | apply IsS88.drewN | apply IsS88.drew | apply IsS88.set_1 | apply IsS88.set_2 | refine IsS88.far ?_ NB0_403.out _ | refine IsS88.far ?_ NB0_418.out _) | exact HI0.out))
      (case side2 => repeat (first | (with_reducible first | exact HB.out | apply below_alloc | apply pw_below_drewN | apply below_drew1 | refine below_set ?_ (IsS88.ge HI0.out) | refine below_set ?_ GE403.out | refine below_set ?_ GE418.out) | exact HB.out))
      (case side3 => exact uc (Kd.R_reads' HO_419000.out).2.2)
      (case side4 => exact (Kd.R_reads' HO_419000.out).2.1)
      (case side5 => exact far_slice (IsS88.own_ne HI0.out HO_419000.out (by decide)))
      (case side6 => exact uc (Kd.R_reads' HO_419001.out).2.2)
      (case side7 => exact (Kd.R_reads' HO_419001.out).2.1)
      (case side8 => exact far_slice (IsS88.own_ne HI0.out HO_419001.out (by decide)))
      (case side9 => exact Kd.C_foot_own (IsS88.apart (show IsS88 w0 _ g s0_0 x1001_1 x1002_1 from by repeat (first | (with_reducible first | exact HI0.out | apply IsS88.alloc | apply IsS88.drewN | apply IsS88.drew | apply IsS88.set_1 | apply IsS88.set_2 | refine IsS88.far ?_ NB0_403.out _ | refine IsS88.far ?_ NB0_418.out _) | exact HI0.out)) (up HO_419002.out) (by decide)) (fun _ h_ => h_.2))
      (case side10 => exact (Kd.R_reads' HO_419002.out).2.1)
      rintro e w24 ⟨rfl, hi, hb, hk⟩
      refine ⟨_, rfl, ?_⟩
      replace HO_419000 := mk (Kd.R_mono (Kd.R_keep (IsS88.apart (show IsS88 w0 _ g s0_0 x1001_1 x1002_1 from by repeat (first | (with_reducible first | exact HI0.out | apply IsS88.alloc | apply IsS88.drewN | apply IsS88.drew | apply IsS88.set_1 | apply IsS88.set_2 | refine IsS88.far ?_ NB0_403.out _ | refine IsS88.far ?_ NB0_418.out _) | exact HI0.out)) (up HO_419000.out) (by decide)) hk (fun _ h => h.2)) (fun _ h => h.1))
      replace HO_419001 := mk (Kd.R_mono (Kd.R_keep (IsS88.apart (show IsS88 w0 _ g s0_0 x1001_1 x1002_1 from by repeat (first | (with_reducible first | exact HI0.out | apply IsS88.alloc | apply IsS88.drewN | apply IsS88.drew | apply IsS88.set_1 | apply IsS88.set_2 | refine IsS88.far ?_ NB0_403.out _ | refine IsS88.far ?_ NB0_418.out _) | exact HI0.out)) (up HO_419001.out) (by decide)) hk (fun _ h => h.2)) (fun _ h => h.1))
      replace HO_419002 := mk (Kd.R_mono (Kd.R_keep (IsS88.apart (show IsS88 w0 _ g s0_0 x1001_1 x1002_1 from by repeat (first | (with_reducible first | exact HI0.out | apply IsS88.alloc | apply IsS88.drewN | apply IsS88.drew | apply IsS88.set_1 | apply IsS88.set_2 | refine IsS88.far ?_ NB0_403.out _ | refine IsS88.far ?_ NB0_418.out _) | exact HI0.out)) (up HO_419002.out) (by decide)) hk (fun _ h => h.2)) (fun _ h => h.1))
      replace BK403 := mk (KeepBut.blk hk (g' := gb403) (o := .cells #[.slice none 0 0, .slice none 0 0, .slice none 0 0] 45 (0, 0)) (ub BK403.out) NB403_0.out (by simp))
      replace BK418 := mk (KeepBut.blk hk (g' := gb418) (o := .cells #[.slice Ao20 x419000_1.length co20, .slice Ao21 x419001_1.length co21, .slice Ao22 x419002_1.length co22] 45 (0, 0)) (ub BK418.out) NB418_0.out (by simp))
      replace HK := mk (KeepBut.trans (by repeat (first | (with_reducible first | exact HK.out | apply KeepBut.set_ | apply keep_drewN | apply keep_drew | apply keep_alloc | refine keep_far ?_ GW403.out _ | refine keep_far ?_ GW418.out _) | exact HK.out)) hk (.inl rfl))
      replace HB := mk hb
      replace HI0 := mk hi
      (try clear hb)
      (try clear hb2)
      (try clear hk)
      (try clear hi)
      refine hK.out _ _ ⟨(blk_cell BK418.out 0).trans rfl, (blk_cell BK418.out 1).trans rfl, (blk_cell BK418.out 2).trans rfl⟩ (fun hHeld => ?_)
      clear hK K
      refine nm 21 ?_
      refine two_ (i := 4) (j := 9) (Ni := some 22) (Nj := some 5) #[T_, T_, T_, T_, T_, F_, F_, F_, F_, F_, F_, F_, F_] #[T_, T_, T_, T_, F_, F_, F_, F_, F_, T_, F_, F_, F_] rfl rfl rfl rfl (two_of HT_.out (by kernel_rfl)) (by decide) (by decide) (fun K hK => ?_) (fun K hK => ?_)
      ·skip
       refine gs Try.func76 #[.agg #[.slice Ao20 x419000_1.length co20, .slice Ao21 x419001_1.length co21, .slice Ao22 x419002_1.length co22], .int .i64 t422] ?_
       with_reducible refine (spec_CrackAt.calls k1 _ _ x419000_1 _ _ x419001_1 _ _ x419002_1 t422 t425 t428 t431 t434 t437 _ ?side1 ?side2 ?side3 ?side4 ?side5 ?side6 A19.out).mono ?_
       (case side1 => exact uc (Kd.R_reads' HO_419000.out).2.2)
       (case side2 => exact (Kd.R_reads' HO_419000.out).2.1)
       (case side3 => exact uc (Kd.R_reads' HO_419001.out).2.2)
       (case side4 => exact (Kd.R_reads' HO_419001.out).2.1)
       (case side5 => exact uc (Kd.R_reads' HO_419002.out).2.2)
       (case side6 => exact (Kd.R_reads' HO_419002.out).2.1)
       rintro e w25 ⟨v426, v429, v432, v435, rfl, ho0, ho1, ho2, ho3, hb⟩
       refine ⟨_, rfl, ?_⟩
       have HO427 := mk (Kd.R_lower (Kd.R_new' (Kd.R_new' ho0 (Kd.R_lt (up HO_419000.out))) (Kd.R_lt (up HO_419001.out))) (keep_size (w := w) (g := g) (row := none) (by repeat (first | (with_reducible first | exact HK.out | apply KeepBut.set_ | apply keep_drewN | apply keep_drew | apply keep_alloc | refine keep_far ?_ GW403.out _ | refine keep_far ?_ GW418.out _) | exact HK.out))))
       have HO430 := mk (Kd.R_lower (Kd.R_new' (Kd.R_new' ho1 (Kd.R_lt (up HO_419000.out))) (Kd.R_lt (up HO_419001.out))) (keep_size (w := w) (g := g) (row := none) (by repeat (first | (with_reducible first | exact HK.out | apply KeepBut.set_ | apply keep_drewN | apply keep_drew | apply keep_alloc | refine keep_far ?_ GW403.out _ | refine keep_far ?_ GW418.out _) | exact HK.out))))
       replace HO_419000 := mk (Kd.R_mono (Kd.R_told (Kd.R_told (Kd.R_old (up HO_419000.out) hb) (Kd.R_base ho0)) (Kd.R_base ho1)) (fun _ h_ => h_.1))
       replace HO_419001 := mk (Kd.R_mono (Kd.R_told (Kd.R_told (Kd.R_old (up HO_419001.out) hb) (Kd.R_base ho0)) (Kd.R_base ho1)) (fun _ h_ => h_.1))
       have HO433 := mk (Kd.R_lower (Kd.R_new' ho2 (Kd.R_lt (up HO_419002.out))) (keep_size (w := w) (g := g) (row := none) (by repeat (first | (with_reducible first | exact HK.out | apply KeepBut.set_ | apply keep_drewN | apply keep_drew | apply keep_alloc | refine keep_far ?_ GW403.out _ | refine keep_far ?_ GW418.out _) | exact HK.out))))
       replace HO_419002 := mk (Kd.R_elder' (up HO_419002.out) (Kd.R_base ho2) hb)
       have HO436 := mk (Kd.R_lower ho3 (keep_size (w := w) (g := g) (row := none) (by repeat (first | (with_reducible first | exact HK.out | apply KeepBut.set_ | apply keep_drewN | apply keep_drew | apply keep_alloc | refine keep_far ?_ GW403.out _ | refine keep_far ?_ GW418.out _) | exact HK.out))))
       replace BK403 := wb BK403 hb
       replace BK418 := wb BK418 hb
       replace HK := mk (KeepBut.trans (by repeat (first | (with_reducible first | exact HK.out | apply KeepBut.set_ | apply keep_drewN | apply keep_drew | apply keep_alloc | refine keep_far ?_ GW403.out _ | refine keep_far ?_ GW418.out _) | exact HK.out)) (KeepBut.of_below hb g none) (.inl rfl))
       replace HB := mk (below_step (by repeat (first | (with_reducible first | exact HB.out | apply below_alloc | apply pw_below_drewN | apply below_drew1 | refine below_set ?_ (IsS88.ge HI0.out) | refine below_set ?_ GE403.out | refine below_set ?_ GE418.out) | exact HB.out)) hb)
       replace HI0 := mk (IsS88.below (by repeat (first | (with_reducible first | exact HI0.out | apply IsS88.alloc | apply IsS88.drewN | apply IsS88.drew | apply IsS88.set_1 | apply IsS88.set_2 | refine IsS88.far ?_ NB0_403.out _ | refine IsS88.far ?_ NB0_418.out _) | exact HI0.out)) hb)
       (try clear hb)
       (try clear hb2)
       (try clear hk)
       (try clear hi)
       (try clear ho0)
       (try clear ho1)
       (try clear ho2)
       (try clear ho3)
       refine hK.out _ _ ⟨(blk_cell BK418.out 0).trans rfl, (blk_cell BK418.out 1).trans rfl, (blk_cell BK418.out 2).trans rfl⟩ (fun hHeld => ?_)
       clear hK K
       refine nm 22 ?_
       refine pu 5 17 (tf 6 7) ?_
       refine pu 6 23 (tf 7 6) ?_
       refine pu 7 24 (tf 8 5) ?_
       refine pu 8 25 (tf 9 4) ?_
       refine on 9 5 (tf 10 3) (fun K hK => ?_)
       refine box_step ?hg (N := 5) ?hd (cs := #[.slice none 0 0, .slice none 0 0, .slice none 0 0]) (t := 45) ?hr ?_; (case hd => rfl); (case hg => rfl); (case hr => first | (go_simp; done) | (go_simp; rfl))
       intro gb438 hg w26 hbox hb
       replace HO_419000 := mk (Kd.R_below (up HO_419000.out) hb)
       replace HO_419001 := mk (Kd.R_below (up HO_419001.out) hb)
       replace HO_419002 := mk (Kd.R_below (up HO_419002.out) hb)
       replace HO427 := mk (Kd.R_below (up HO427.out) hb)
       replace HO430 := mk (Kd.R_below (up HO430.out) hb)
       replace HO433 := mk (Kd.R_below (up HO433.out) hb)
       replace HO436 := mk (Kd.R_below (up HO436.out) hb)
       replace HB := mk (below_step (by repeat (first | (with_reducible first | exact HB.out | apply below_alloc | apply pw_below_drewN | apply below_drew1 | refine below_set ?_ (IsS88.ge HI0.out) | refine below_set ?_ GE403.out | refine below_set ?_ GE418.out) | exact HB.out)) hb)
       have BK438 := mk hbox
       have GW438 := mk ((by rw [hg]; exact (keep_size (w := w) (g := g) (row := none) (by repeat (first | (with_reducible first | exact HK.out | apply KeepBut.set_ | apply keep_drewN | apply keep_drew | apply keep_alloc | refine keep_far ?_ GW403.out _ | refine keep_far ?_ GW418.out _) | exact HK.out))) : w.heap.size ≤ gb438))
       have GE438 := mk ((Nat.le_trans HW0.out (by rw [hg]; exact (keep_size (w := w) (g := g) (row := none) (by repeat (first | (with_reducible first | exact HK.out | apply KeepBut.set_ | apply keep_drewN | apply keep_drew | apply keep_alloc | refine keep_far ?_ GW403.out _ | refine keep_far ?_ GW418.out _) | exact HK.out))) : w.heap.size ≤ gb438) : w0.heap.size ≤ gb438))
       replace HK := mk (KeepBut.trans (by repeat (first | (with_reducible first | exact HK.out | apply KeepBut.set_ | apply keep_drewN | apply keep_drew | apply keep_alloc | refine keep_far ?_ GW403.out _ | refine keep_far ?_ GW418.out _) | exact HK.out)) (KeepBut.of_below hb g none) (.inl rfl))
       have NB403_438 := nl BK403 hg
       have NB438_403 := nr BK403 hg
       replace BK403 := wb BK403 hb
       have NB418_438 := nl BK418 hg
       have NB438_418 := nr BK418 hg
       replace BK418 := wb BK418 hb
       have NB0_438 := mk ((by rw [hg]; exact Nat.ne_of_lt (IsS88.lt (show IsS88 w0 _ g s0_0 t423 t424 from by repeat (first | (with_reducible first | exact HI0.out | apply IsS88.alloc | apply IsS88.drewN | apply IsS88.drew | apply IsS88.set_1 | apply IsS88.set_2 | refine IsS88.far ?_ NB0_403.out _ | refine IsS88.far ?_ NB0_418.out _) | exact HI0.out))) : g ≠ gb438))
       have NB438_0 := mk ((by rw [hg]; exact Nat.ne_of_gt (IsS88.lt (show IsS88 w0 _ g s0_0 t423 t424 from by repeat (first | (with_reducible first | exact HI0.out | apply IsS88.alloc | apply IsS88.drewN | apply IsS88.drew | apply IsS88.set_1 | apply IsS88.set_2 | refine IsS88.far ?_ NB0_403.out _ | refine IsS88.far ?_ NB0_418.out _) | exact HI0.out))) : gb438 ≠ g))
       replace HI0 := mk (IsS88.below (by repeat (first | (with_reducible first | exact HI0.out | apply IsS88.alloc | apply IsS88.drewN | apply IsS88.drew | apply IsS88.set_1 | apply IsS88.set_2 | refine IsS88.far ?_ NB0_403.out _ | refine IsS88.far ?_ NB0_418.out _) | exact HI0.out)) hb)
       clear hb hbox hg
       refine hK.out _ _ ⟨(blk_cell BK418.out 0).trans rfl, (blk_cell BK418.out 1).trans rfl, (blk_cell BK418.out 2).trans rfl⟩ (fun hHeld => ?_)
       clear hK K
       refine nm 5 ?_
       exact norm_ (by simp only [putAll, Act.put, List.setIfInBounds_toArray, List.set_cons_zero, List.set_cons_succ]) (hCont (v426, v429, v432, v435, gb438) _ ⟨hHeld, (by exact up (Kd.R_mono HO427.out (fun _ hk => by first | exact ⟨hk.1.1, ⟨hk.1.2, hk.2⟩⟩ | (revert hk; simp only [and_imp]; intros; (repeat' (refine And.intro ?_ ?_)) <;> assumption)))), (by exact up (Kd.R_mono HO430.out (fun _ hk => by first | exact ⟨hk.1.1, ⟨hk.1.2, hk.2⟩⟩ | (revert hk; simp only [and_imp]; intros; (repeat' (refine And.intro ?_ ?_)) <;> assumption)))), (by exact up (Kd.R_mono HO433.out (fun _ hk => hk.2))), (up HO436.out), (by exact up (Kd.R_mono HO_419000.out (fun _ hk => by first | exact ⟨hk.1.2, ⟨hk.2, hk.1.1⟩⟩ | (revert hk; simp only [and_imp]; intros; (repeat' (refine And.intro ?_ ?_)) <;> assumption)))), (by exact up (Kd.R_mono HO_419001.out (fun _ hk => by first | exact ⟨hk.1.2, ⟨hk.2, hk.1.1⟩⟩ | (revert hk; simp only [and_imp]; intros; (repeat' (refine And.intro ?_ ?_)) <;> assumption)))), (by exact up (Kd.R_mono HO_419002.out (fun _ hk => hk.2))), (ub BK403.out), (ub BK418.out), (ub BK438.out), GW438.out, GE438.out, NB0_438.out, NB438_0.out, NB403_438.out, NB438_403.out, NB418_438.out, NB438_418.out, (by repeat (first | (with_reducible first | exact HI0.out | apply IsS88.alloc | apply IsS88.drewN | apply IsS88.drew | apply IsS88.set_1 | apply IsS88.set_2 | refine IsS88.far ?_ NB0_403.out _ | refine IsS88.far ?_ NB0_418.out _ | refine IsS88.far ?_ NB0_438.out _) | exact HI0.out)), (by repeat (first | (with_reducible first | exact HK.out | apply KeepBut.set_ | apply keep_drewN | apply keep_drew | apply keep_alloc | refine keep_far ?_ GW403.out _ | refine keep_far ?_ GW418.out _ | refine keep_far ?_ GW438.out _) | exact HK.out)), (by repeat (first | (with_reducible first | exact HB.out | apply below_alloc | apply pw_below_drewN | apply below_drew1 | refine below_set ?_ (IsS88.ge HI0.out) | refine below_set ?_ GE403.out | refine below_set ?_ GE418.out | refine below_set ?_ GE438.out) | exact HB.out))⟩)
      ·skip
       refine box_step ?hg (N := 5) ?hd (cs := #[.slice none 0 0, .slice none 0 0, .slice none 0 0]) (t := 45) ?hr ?_; (case hd => rfl); (case hg => rfl); (case hr => first | (go_simp; done) | (go_simp; rfl))
       intro gb438 hg w25 hbox hb
       replace HO_419000 := mk (Kd.R_below (up HO_419000.out) hb)
       replace HO_419001 := mk (Kd.R_below (up HO_419001.out) hb)
       replace HO_419002 := mk (Kd.R_below (up HO_419002.out) hb)
       replace HB := mk (below_step (by repeat (first | (with_reducible first | exact HB.out | apply below_alloc | apply pw_below_drewN | apply below_drew1 | refine below_set ?_ (IsS88.ge HI0.out) | refine below_set ?_ GE403.out | refine below_set ?_ GE418.out) | exact HB.out)) hb)
       have BK438 := mk hbox
       have GW438 := mk ((by rw [hg]; exact (keep_size (w := w) (g := g) (row := none) (by repeat (first | (with_reducible first | exact HK.out | apply KeepBut.set_ | apply keep_drewN | apply keep_drew | apply keep_alloc | refine keep_far ?_ GW403.out _ | refine keep_far ?_ GW418.out _) | exact HK.out))) : w.heap.size ≤ gb438))
       have GE438 := mk ((Nat.le_trans HW0.out (by rw [hg]; exact (keep_size (w := w) (g := g) (row := none) (by repeat (first | (with_reducible first | exact HK.out | apply KeepBut.set_ | apply keep_drewN | apply keep_drew | apply keep_alloc | refine keep_far ?_ GW403.out _ | refine keep_far ?_ GW418.out _) | exact HK.out))) : w.heap.size ≤ gb438) : w0.heap.size ≤ gb438))
       replace HK := mk (KeepBut.trans (by repeat (first | (with_reducible first | exact HK.out | apply KeepBut.set_ | apply keep_drewN | apply keep_drew | apply keep_alloc | refine keep_far ?_ GW403.out _ | refine keep_far ?_ GW418.out _) | exact HK.out)) (KeepBut.of_below hb g none) (.inl rfl))
       have NB403_438 := nl BK403 hg
       have NB438_403 := nr BK403 hg
       replace BK403 := wb BK403 hb
       have NB418_438 := nl BK418 hg
       have NB438_418 := nr BK418 hg
       replace BK418 := wb BK418 hb
       have NB0_438 := mk ((by rw [hg]; exact Nat.ne_of_lt (IsS88.lt (show IsS88 w0 _ g s0_0 t423 t424 from by repeat (first | (with_reducible first | exact HI0.out | apply IsS88.alloc | apply IsS88.drewN | apply IsS88.drew | apply IsS88.set_1 | apply IsS88.set_2 | refine IsS88.far ?_ NB0_403.out _ | refine IsS88.far ?_ NB0_418.out _) | exact HI0.out))) : g ≠ gb438))
       have NB438_0 := mk ((by rw [hg]; exact Nat.ne_of_gt (IsS88.lt (show IsS88 w0 _ g s0_0 t423 t424 from by repeat (first | (with_reducible first | exact HI0.out | apply IsS88.alloc | apply IsS88.drewN | apply IsS88.drew | apply IsS88.set_1 | apply IsS88.set_2 | refine IsS88.far ?_ NB0_403.out _ | refine IsS88.far ?_ NB0_418.out _) | exact HI0.out))) : gb438 ≠ g))
       replace HI0 := mk (IsS88.below (by repeat (first | (with_reducible first | exact HI0.out | apply IsS88.alloc | apply IsS88.drewN | apply IsS88.drew | apply IsS88.set_1 | apply IsS88.set_2 | refine IsS88.far ?_ NB0_403.out _ | refine IsS88.far ?_ NB0_418.out _) | exact HI0.out)) hb)
       clear hb hbox hg
       refine hK.out _ _ ⟨(blk_cell BK418.out 0).trans rfl, (blk_cell BK418.out 1).trans rfl, (blk_cell BK418.out 2).trans rfl⟩ (fun hHeld => ?_)
       clear hK K
       refine nm 5 ?_
       refine on 4 22 #[T_,T_,T_,T_,T_,F_,F_,F_,F_,T_,F_,F_,F_] (fun K hK => ?_)
       refine gs Try.func76 #[.agg #[.slice Ao20 x419000_1.length co20, .slice Ao21 x419001_1.length co21, .slice Ao22 x419002_1.length co22], .int .i64 t422] ?_
       with_reducible refine (spec_CrackAt.calls k1 _ _ x419000_1 _ _ x419001_1 _ _ x419002_1 t422 t425 t428 t431 t434 t437 _ ?side1 ?side2 ?side3 ?side4 ?side5 ?side6 A19.out).mono ?_
       (case side1 => exact uc (Kd.R_reads' HO_419000.out).2.2)
       (case side2 => exact (Kd.R_reads' HO_419000.out).2.1)
       (case side3 => exact uc (Kd.R_reads' HO_419001.out).2.2)
       (case side4 => exact (Kd.R_reads' HO_419001.out).2.1)
       (case side5 => exact uc (Kd.R_reads' HO_419002.out).2.2)
       (case side6 => exact (Kd.R_reads' HO_419002.out).2.1)
       rintro e w26 ⟨v426, v429, v432, v435, rfl, ho0, ho1, ho2, ho3, hb⟩
       refine ⟨_, rfl, ?_⟩
       have HO427 := mk (Kd.R_lower (Kd.R_new' (Kd.R_new' ho0 (Kd.R_lt (up HO_419000.out))) (Kd.R_lt (up HO_419001.out))) (keep_size (w := w) (g := g) (row := none) (by repeat (first | (with_reducible first | exact HK.out | apply KeepBut.set_ | apply keep_drewN | apply keep_drew | apply keep_alloc | refine keep_far ?_ GW403.out _ | refine keep_far ?_ GW418.out _ | refine keep_far ?_ GW438.out _) | exact HK.out))))
       have HO430 := mk (Kd.R_lower (Kd.R_new' (Kd.R_new' ho1 (Kd.R_lt (up HO_419000.out))) (Kd.R_lt (up HO_419001.out))) (keep_size (w := w) (g := g) (row := none) (by repeat (first | (with_reducible first | exact HK.out | apply KeepBut.set_ | apply keep_drewN | apply keep_drew | apply keep_alloc | refine keep_far ?_ GW403.out _ | refine keep_far ?_ GW418.out _ | refine keep_far ?_ GW438.out _) | exact HK.out))))
       replace HO_419000 := mk (Kd.R_mono (Kd.R_told (Kd.R_told (Kd.R_old (up HO_419000.out) hb) (Kd.R_base ho0)) (Kd.R_base ho1)) (fun _ h_ => h_.1))
       replace HO_419001 := mk (Kd.R_mono (Kd.R_told (Kd.R_told (Kd.R_old (up HO_419001.out) hb) (Kd.R_base ho0)) (Kd.R_base ho1)) (fun _ h_ => h_.1))
       have HO433 := mk (Kd.R_lower (Kd.R_new' ho2 (Kd.R_lt (up HO_419002.out))) (keep_size (w := w) (g := g) (row := none) (by repeat (first | (with_reducible first | exact HK.out | apply KeepBut.set_ | apply keep_drewN | apply keep_drew | apply keep_alloc | refine keep_far ?_ GW403.out _ | refine keep_far ?_ GW418.out _ | refine keep_far ?_ GW438.out _) | exact HK.out))))
       replace HO_419002 := mk (Kd.R_elder' (up HO_419002.out) (Kd.R_base ho2) hb)
       have HO436 := mk (Kd.R_lower ho3 (keep_size (w := w) (g := g) (row := none) (by repeat (first | (with_reducible first | exact HK.out | apply KeepBut.set_ | apply keep_drewN | apply keep_drew | apply keep_alloc | refine keep_far ?_ GW403.out _ | refine keep_far ?_ GW418.out _ | refine keep_far ?_ GW438.out _) | exact HK.out))))
       replace BK403 := wb BK403 hb
       replace BK418 := wb BK418 hb
       replace BK438 := wb BK438 hb
       replace HK := mk (KeepBut.trans (by repeat (first | (with_reducible first | exact HK.out | apply KeepBut.set_ | apply keep_drewN | apply keep_drew | apply keep_alloc | refine keep_far ?_ GW403.out _ | refine keep_far ?_ GW418.out _ | refine keep_far ?_ GW438.out _) | exact HK.out)) (KeepBut.of_below hb g none) (.inl rfl))
       replace HB := mk (below_step (by repeat (first | (with_reducible first | exact HB.out | apply below_alloc | apply pw_below_drewN | apply below_drew1 | refine below_set ?_ (IsS88.ge HI0.out) | refine below_set ?_ GE403.out | refine below_set ?_ GE418.out | refine below_set ?_ GE438.out) | exact HB.out)) hb)
       replace HI0 := mk (IsS88.below (by repeat (first | (with_reducible first | exact HI0.out | apply IsS88.alloc | apply IsS88.drewN | apply IsS88.drew | apply IsS88.set_1 | apply IsS88.set_2 | refine IsS88.far ?_ NB0_403.out _ | refine IsS88.far ?_ NB0_418.out _ | refine IsS88.far ?_ NB0_438.out _) | exact HI0.out)) hb)
       (try clear hb)
       (try clear hb2)
       (try clear hk)
       (try clear hi)
       (try clear ho0)
       (try clear ho1)
       (try clear ho2)
       (try clear ho3)
       refine hK.out _ _ ⟨(blk_cell BK418.out 0).trans rfl, (blk_cell BK418.out 1).trans rfl, (blk_cell BK418.out 2).trans rfl⟩ (fun hHeld => ?_)
       clear hK K
       refine nm 22 ?_
       refine pu 5 17 #[T_,T_,T_,T_,T_,T_,F_,F_,F_,T_,F_,F_,F_] ?_
       refine pu 6 23 #[T_,T_,T_,T_,T_,T_,T_,F_,F_,T_,F_,F_,F_] ?_
       refine pu 7 24 #[T_,T_,T_,T_,T_,T_,T_,T_,F_,T_,F_,F_,F_] ?_
       refine pu 8 25 (tf 10 3) ?_
       exact norm_ (by simp only [putAll, Act.put, List.setIfInBounds_toArray, List.set_cons_zero, List.set_cons_succ]) (hCont (v426, v429, v432, v435, gb438) _ ⟨hHeld, (by exact up (Kd.R_mono HO427.out (fun _ hk => by first | exact ⟨hk.1.1, ⟨hk.1.2, hk.2⟩⟩ | (revert hk; simp only [and_imp]; intros; (repeat' (refine And.intro ?_ ?_)) <;> assumption)))), (by exact up (Kd.R_mono HO430.out (fun _ hk => by first | exact ⟨hk.1.1, ⟨hk.1.2, hk.2⟩⟩ | (revert hk; simp only [and_imp]; intros; (repeat' (refine And.intro ?_ ?_)) <;> assumption)))), (by exact up (Kd.R_mono HO433.out (fun _ hk => hk.2))), (up HO436.out), (by exact up (Kd.R_mono HO_419000.out (fun _ hk => by first | exact ⟨hk.1.2, ⟨hk.2, hk.1.1⟩⟩ | (revert hk; simp only [and_imp]; intros; (repeat' (refine And.intro ?_ ?_)) <;> assumption)))), (by exact up (Kd.R_mono HO_419001.out (fun _ hk => by first | exact ⟨hk.1.2, ⟨hk.2, hk.1.1⟩⟩ | (revert hk; simp only [and_imp]; intros; (repeat' (refine And.intro ?_ ?_)) <;> assumption)))), (by exact up (Kd.R_mono HO_419002.out (fun _ hk => hk.2))), (ub BK403.out), (ub BK418.out), (ub BK438.out), GW438.out, GE438.out, NB0_438.out, NB438_0.out, NB403_438.out, NB438_403.out, NB418_438.out, NB438_418.out, (by repeat (first | (with_reducible first | exact HI0.out | apply IsS88.alloc | apply IsS88.drewN | apply IsS88.drew | apply IsS88.set_1 | apply IsS88.set_2 | refine IsS88.far ?_ NB0_403.out _ | refine IsS88.far ?_ NB0_418.out _ | refine IsS88.far ?_ NB0_438.out _) | exact HI0.out)), (by repeat (first | (with_reducible first | exact HK.out | apply KeepBut.set_ | apply keep_drewN | apply keep_drew | apply keep_alloc | refine keep_far ?_ GW403.out _ | refine keep_far ?_ GW418.out _ | refine keep_far ?_ GW438.out _) | exact HK.out)), (by repeat (first | (with_reducible first | exact HB.out | apply below_alloc | apply pw_below_drewN | apply below_drew1 | refine below_set ?_ (IsS88.ge HI0.out) | refine below_set ?_ GE403.out | refine below_set ?_ GE418.out | refine below_set ?_ GE438.out) | exact HB.out))⟩)
     ·skip
      refine box_step ?hg (N := 5) ?hd (cs := #[.slice none 0 0, .slice none 0 0, .slice none 0 0]) (t := 45) ?hr ?_; (case hd => rfl); (case hg => rfl); (case hr => first | (go_simp; done) | (go_simp; rfl))
      intro gb438 hg w24 hbox hb
      replace HO_419000 := mk (Kd.R_below (up HO_419000.out) hb)
      replace HO_419001 := mk (Kd.R_below (up HO_419001.out) hb)
      replace HO_419002 := mk (Kd.R_below (up HO_419002.out) hb)
      replace HB := mk (below_step (by repeat (first | (with_reducible first | exact HB.out | apply below_alloc | apply pw_below_drewN | apply below_drew1 | refine below_set ?_ (IsS88.ge HI0.out) | refine below_set ?_ GE403.out | refine below_set ?_ GE418.out) | exact HB.out)) hb)
      have BK438 := mk hbox
      have GW438 := mk ((by rw [hg]; exact (keep_size (w := w) (g := g) (row := none) (by repeat (first | (with_reducible first | exact HK.out | apply KeepBut.set_ | apply keep_drewN | apply keep_drew | apply keep_alloc | refine keep_far ?_ GW403.out _ | refine keep_far ?_ GW418.out _) | exact HK.out))) : w.heap.size ≤ gb438))
      have GE438 := mk ((Nat.le_trans HW0.out (by rw [hg]; exact (keep_size (w := w) (g := g) (row := none) (by repeat (first | (with_reducible first | exact HK.out | apply KeepBut.set_ | apply keep_drewN | apply keep_drew | apply keep_alloc | refine keep_far ?_ GW403.out _ | refine keep_far ?_ GW418.out _) | exact HK.out))) : w.heap.size ≤ gb438) : w0.heap.size ≤ gb438))
      replace HK := mk (KeepBut.trans (by repeat (first | (with_reducible first | exact HK.out | apply KeepBut.set_ | apply keep_drewN | apply keep_drew | apply keep_alloc | refine keep_far ?_ GW403.out _ | refine keep_far ?_ GW418.out _) | exact HK.out)) (KeepBut.of_below hb g none) (.inl rfl))
      have NB403_438 := nl BK403 hg
      have NB438_403 := nr BK403 hg
      replace BK403 := wb BK403 hb
      have NB418_438 := nl BK418 hg
      have NB438_418 := nr BK418 hg
      replace BK418 := wb BK418 hb
      have NB0_438 := mk ((by rw [hg]; exact Nat.ne_of_lt (IsS88.lt (show IsS88 w0 _ g s0_0 x1001_1 x1002_1 from by repeat (first | (with_reducible first | exact HI0.out | apply IsS88.alloc | apply IsS88.drewN | apply IsS88.drew | apply IsS88.set_1 | apply IsS88.set_2 | refine IsS88.far ?_ NB0_403.out _ | refine IsS88.far ?_ NB0_418.out _) | exact HI0.out))) : g ≠ gb438))
      have NB438_0 := mk ((by rw [hg]; exact Nat.ne_of_gt (IsS88.lt (show IsS88 w0 _ g s0_0 x1001_1 x1002_1 from by repeat (first | (with_reducible first | exact HI0.out | apply IsS88.alloc | apply IsS88.drewN | apply IsS88.drew | apply IsS88.set_1 | apply IsS88.set_2 | refine IsS88.far ?_ NB0_403.out _ | refine IsS88.far ?_ NB0_418.out _) | exact HI0.out))) : gb438 ≠ g))
      replace HI0 := mk (IsS88.below (by repeat (first | (with_reducible first | exact HI0.out | apply IsS88.alloc | apply IsS88.drewN | apply IsS88.drew | apply IsS88.set_1 | apply IsS88.set_2 | refine IsS88.far ?_ NB0_403.out _ | refine IsS88.far ?_ NB0_418.out _) | exact HI0.out)) hb)
      clear hb hbox hg
      refine hK.out _ _ ⟨(blk_cell BK418.out 0).trans rfl, (blk_cell BK418.out 1).trans rfl, (blk_cell BK418.out 2).trans rfl⟩ (fun hHeld => ?_)
      clear hK K
      refine nm 5 ?_
      refine on 3 21 #[T_,T_,T_,T_,F_,F_,F_,F_,F_,T_,F_,F_,F_] (fun K hK => ?_)
      refine gs Try.func77 #[.pointer (some ⟨g, 0, none⟩), .agg #[.slice Ao20 x419000_1.length co20, .slice Ao21 x419001_1.length co21, .slice Ao22 x419002_1.length co22]] ?_
      with_reducible refine (spec_l4Value.calls k1 g s0_0 x1001_1 x1002_1 _ _ x419000_1 _ _ x419001_1 _ _ x419002_1 t422 t423 t424 w0 _ ?side1 ?side2 ?side3 ?side4 ?side5 ?side6 ?side7 ?side8 ?side9 ?side10 A18.out).mono ?_
      (case side1 => repeat (first | (with_reducible first | exact HI0.out | apply IsS88.alloc | apply IsS88.drewN | apply IsS88.drew | apply IsS88.set_1 | apply IsS88.set_2 | refine IsS88.far ?_ NB0_403.out _ | refine IsS88.far ?_ NB0_418.out _ | refine IsS88.far ?_ NB0_438.out _) | exact HI0.out))
      (case side2 => repeat (first | (with_reducible first | exact HB.out | apply below_alloc | apply pw_below_drewN | apply below_drew1 | refine below_set ?_ (IsS88.ge HI0.out) | refine below_set ?_ GE403.out | refine below_set ?_ GE418.out | refine below_set ?_ GE438.out) | exact HB.out))
      (case side3 => exact uc (Kd.R_reads' HO_419000.out).2.2)
      (case side4 => exact (Kd.R_reads' HO_419000.out).2.1)
      (case side5 => exact far_slice (IsS88.own_ne HI0.out HO_419000.out (by decide)))
      (case side6 => exact uc (Kd.R_reads' HO_419001.out).2.2)
      (case side7 => exact (Kd.R_reads' HO_419001.out).2.1)
      (case side8 => exact far_slice (IsS88.own_ne HI0.out HO_419001.out (by decide)))
      (case side9 => exact Kd.C_foot_own (IsS88.apart (show IsS88 w0 _ g s0_0 x1001_1 x1002_1 from by repeat (first | (with_reducible first | exact HI0.out | apply IsS88.alloc | apply IsS88.drewN | apply IsS88.drew | apply IsS88.set_1 | apply IsS88.set_2 | refine IsS88.far ?_ NB0_403.out _ | refine IsS88.far ?_ NB0_418.out _ | refine IsS88.far ?_ NB0_438.out _) | exact HI0.out)) (up HO_419002.out) (by decide)) (fun _ h_ => h_.2))
      (case side10 => exact (Kd.R_reads' HO_419002.out).2.1)
      rintro e w25 ⟨rfl, hi, hb, hk⟩
      refine ⟨_, rfl, ?_⟩
      replace HO_419000 := mk (Kd.R_mono (Kd.R_keep (IsS88.apart (show IsS88 w0 _ g s0_0 x1001_1 x1002_1 from by repeat (first | (with_reducible first | exact HI0.out | apply IsS88.alloc | apply IsS88.drewN | apply IsS88.drew | apply IsS88.set_1 | apply IsS88.set_2 | refine IsS88.far ?_ NB0_403.out _ | refine IsS88.far ?_ NB0_418.out _ | refine IsS88.far ?_ NB0_438.out _) | exact HI0.out)) (up HO_419000.out) (by decide)) hk (fun _ h => h.2)) (fun _ h => h.1))
      replace HO_419001 := mk (Kd.R_mono (Kd.R_keep (IsS88.apart (show IsS88 w0 _ g s0_0 x1001_1 x1002_1 from by repeat (first | (with_reducible first | exact HI0.out | apply IsS88.alloc | apply IsS88.drewN | apply IsS88.drew | apply IsS88.set_1 | apply IsS88.set_2 | refine IsS88.far ?_ NB0_403.out _ | refine IsS88.far ?_ NB0_418.out _ | refine IsS88.far ?_ NB0_438.out _) | exact HI0.out)) (up HO_419001.out) (by decide)) hk (fun _ h => h.2)) (fun _ h => h.1))
      replace HO_419002 := mk (Kd.R_mono (Kd.R_keep (IsS88.apart (show IsS88 w0 _ g s0_0 x1001_1 x1002_1 from by repeat (first | (with_reducible first | exact HI0.out | apply IsS88.alloc | apply IsS88.drewN | apply IsS88.drew | apply IsS88.set_1 | apply IsS88.set_2 | refine IsS88.far ?_ NB0_403.out _ | refine IsS88.far ?_ NB0_418.out _ | refine IsS88.far ?_ NB0_438.out _) | exact HI0.out)) (up HO_419002.out) (by decide)) hk (fun _ h => h.2)) (fun _ h => h.1))
      replace BK403 := mk (KeepBut.blk hk (g' := gb403) (o := .cells #[.slice none 0 0, .slice none 0 0, .slice none 0 0] 45 (0, 0)) (ub BK403.out) NB403_0.out (by simp))
      replace BK418 := mk (KeepBut.blk hk (g' := gb418) (o := .cells #[.slice Ao20 x419000_1.length co20, .slice Ao21 x419001_1.length co21, .slice Ao22 x419002_1.length co22] 45 (0, 0)) (ub BK418.out) NB418_0.out (by simp))
      replace BK438 := mk (KeepBut.blk hk (g' := gb438) (o := .cells #[.slice none 0 0, .slice none 0 0, .slice none 0 0] 45 (0, 0)) (ub BK438.out) NB438_0.out (by simp))
      replace HK := mk (KeepBut.trans (by repeat (first | (with_reducible first | exact HK.out | apply KeepBut.set_ | apply keep_drewN | apply keep_drew | apply keep_alloc | refine keep_far ?_ GW403.out _ | refine keep_far ?_ GW418.out _ | refine keep_far ?_ GW438.out _) | exact HK.out)) hk (.inl rfl))
      replace HB := mk hb
      replace HI0 := mk hi
      (try clear hb)
      (try clear hb2)
      (try clear hk)
      (try clear hi)
      refine hK.out _ _ ⟨(blk_cell BK418.out 0).trans rfl, (blk_cell BK418.out 1).trans rfl, (blk_cell BK418.out 2).trans rfl⟩ (fun hHeld => ?_)
      clear hK K
      refine nm 21 ?_
      refine on 4 22 #[T_,T_,T_,T_,T_,F_,F_,F_,F_,T_,F_,F_,F_] (fun K hK => ?_)
      refine gs Try.func76 #[.agg #[.slice Ao20 x419000_1.length co20, .slice Ao21 x419001_1.length co21, .slice Ao22 x419002_1.length co22], .int .i64 t422] ?_
      with_reducible refine (spec_CrackAt.calls k1 _ _ x419000_1 _ _ x419001_1 _ _ x419002_1 t422 t425 t428 t431 t434 t437 _ ?side1 ?side2 ?side3 ?side4 ?side5 ?side6 A19.out).mono ?_
      (case side1 => exact uc (Kd.R_reads' HO_419000.out).2.2)
      (case side2 => exact (Kd.R_reads' HO_419000.out).2.1)
      (case side3 => exact uc (Kd.R_reads' HO_419001.out).2.2)
      (case side4 => exact (Kd.R_reads' HO_419001.out).2.1)
      (case side5 => exact uc (Kd.R_reads' HO_419002.out).2.2)
      (case side6 => exact (Kd.R_reads' HO_419002.out).2.1)
      rintro e w26 ⟨v426, v429, v432, v435, rfl, ho0, ho1, ho2, ho3, hb⟩
      refine ⟨_, rfl, ?_⟩
      have HO427 := mk (Kd.R_lower (Kd.R_new' (Kd.R_new' ho0 (Kd.R_lt (up HO_419000.out))) (Kd.R_lt (up HO_419001.out))) (keep_size (w := w) (g := g) (row := none) (by repeat (first | (with_reducible first | exact HK.out | apply KeepBut.set_ | apply keep_drewN | apply keep_drew | apply keep_alloc | refine keep_far ?_ GW403.out _ | refine keep_far ?_ GW418.out _ | refine keep_far ?_ GW438.out _) | exact HK.out))))
      have HO430 := mk (Kd.R_lower (Kd.R_new' (Kd.R_new' ho1 (Kd.R_lt (up HO_419000.out))) (Kd.R_lt (up HO_419001.out))) (keep_size (w := w) (g := g) (row := none) (by repeat (first | (with_reducible first | exact HK.out | apply KeepBut.set_ | apply keep_drewN | apply keep_drew | apply keep_alloc | refine keep_far ?_ GW403.out _ | refine keep_far ?_ GW418.out _ | refine keep_far ?_ GW438.out _) | exact HK.out))))
      replace HO_419000 := mk (Kd.R_mono (Kd.R_told (Kd.R_told (Kd.R_old (up HO_419000.out) hb) (Kd.R_base ho0)) (Kd.R_base ho1)) (fun _ h_ => h_.1))
      replace HO_419001 := mk (Kd.R_mono (Kd.R_told (Kd.R_told (Kd.R_old (up HO_419001.out) hb) (Kd.R_base ho0)) (Kd.R_base ho1)) (fun _ h_ => h_.1))
      have HO433 := mk (Kd.R_lower (Kd.R_new' ho2 (Kd.R_lt (up HO_419002.out))) (keep_size (w := w) (g := g) (row := none) (by repeat (first | (with_reducible first | exact HK.out | apply KeepBut.set_ | apply keep_drewN | apply keep_drew | apply keep_alloc | refine keep_far ?_ GW403.out _ | refine keep_far ?_ GW418.out _ | refine keep_far ?_ GW438.out _) | exact HK.out))))
      replace HO_419002 := mk (Kd.R_elder' (up HO_419002.out) (Kd.R_base ho2) hb)
      have HO436 := mk (Kd.R_lower ho3 (keep_size (w := w) (g := g) (row := none) (by repeat (first | (with_reducible first | exact HK.out | apply KeepBut.set_ | apply keep_drewN | apply keep_drew | apply keep_alloc | refine keep_far ?_ GW403.out _ | refine keep_far ?_ GW418.out _ | refine keep_far ?_ GW438.out _) | exact HK.out))))
      replace BK403 := wb BK403 hb
      replace BK418 := wb BK418 hb
      replace BK438 := wb BK438 hb
      replace HK := mk (KeepBut.trans (by repeat (first | (with_reducible first | exact HK.out | apply KeepBut.set_ | apply keep_drewN | apply keep_drew | apply keep_alloc | refine keep_far ?_ GW403.out _ | refine keep_far ?_ GW418.out _ | refine keep_far ?_ GW438.out _) | exact HK.out)) (KeepBut.of_below hb g none) (.inl rfl))
      replace HB := mk (below_step (by repeat (first | (with_reducible first | exact HB.out | apply below_alloc | apply pw_below_drewN | apply below_drew1 | refine below_set ?_ (IsS88.ge HI0.out) | refine below_set ?_ GE403.out | refine below_set ?_ GE418.out | refine below_set ?_ GE438.out) | exact HB.out)) hb)
      replace HI0 := mk (IsS88.below (by repeat (first | (with_reducible first | exact HI0.out | apply IsS88.alloc | apply IsS88.drewN | apply IsS88.drew | apply IsS88.set_1 | apply IsS88.set_2 | refine IsS88.far ?_ NB0_403.out _ | refine IsS88.far ?_ NB0_418.out _ | refine IsS88.far ?_ NB0_438.out _) | exact HI0.out)) hb)
      (try clear hb)
      (try clear hb2)
      (try clear hk)
      (try clear hi)
      (try clear ho0)
      (try clear ho1)
      (try clear ho2)
      (try clear ho3)
      refine hK.out _ _ ⟨(blk_cell BK418.out 0).trans rfl, (blk_cell BK418.out 1).trans rfl, (blk_cell BK418.out 2).trans rfl⟩ (fun hHeld => ?_)
      clear hK K
      refine nm 22 ?_
      refine pu 5 17 #[T_,T_,T_,T_,T_,T_,F_,F_,F_,T_,F_,F_,F_] ?_
      refine pu 6 23 #[T_,T_,T_,T_,T_,T_,T_,F_,F_,T_,F_,F_,F_] ?_
      refine pu 7 24 #[T_,T_,T_,T_,T_,T_,T_,T_,F_,T_,F_,F_,F_] ?_
      refine pu 8 25 (tf 10 3) ?_
      exact norm_ (by simp only [putAll, Act.put, List.setIfInBounds_toArray, List.set_cons_zero, List.set_cons_succ]) (hCont (v426, v429, v432, v435, gb438) _ ⟨hHeld, (by exact up (Kd.R_mono HO427.out (fun _ hk => by first | exact ⟨hk.1.1, ⟨hk.1.2, hk.2⟩⟩ | (revert hk; simp only [and_imp]; intros; (repeat' (refine And.intro ?_ ?_)) <;> assumption)))), (by exact up (Kd.R_mono HO430.out (fun _ hk => by first | exact ⟨hk.1.1, ⟨hk.1.2, hk.2⟩⟩ | (revert hk; simp only [and_imp]; intros; (repeat' (refine And.intro ?_ ?_)) <;> assumption)))), (by exact up (Kd.R_mono HO433.out (fun _ hk => hk.2))), (up HO436.out), (by exact up (Kd.R_mono HO_419000.out (fun _ hk => by first | exact ⟨hk.1.2, ⟨hk.2, hk.1.1⟩⟩ | (revert hk; simp only [and_imp]; intros; (repeat' (refine And.intro ?_ ?_)) <;> assumption)))), (by exact up (Kd.R_mono HO_419001.out (fun _ hk => by first | exact ⟨hk.1.2, ⟨hk.2, hk.1.1⟩⟩ | (revert hk; simp only [and_imp]; intros; (repeat' (refine And.intro ?_ ?_)) <;> assumption)))), (by exact up (Kd.R_mono HO_419002.out (fun _ hk => hk.2))), (ub BK403.out), (ub BK418.out), (ub BK438.out), GW438.out, GE438.out, NB0_438.out, NB438_0.out, NB403_438.out, NB438_403.out, NB418_438.out, NB438_418.out, (by repeat (first | (with_reducible first | exact HI0.out | apply IsS88.alloc | apply IsS88.drewN | apply IsS88.drew | apply IsS88.set_1 | apply IsS88.set_2 | refine IsS88.far ?_ NB0_403.out _ | refine IsS88.far ?_ NB0_418.out _ | refine IsS88.far ?_ NB0_438.out _) | exact HI0.out)), (by repeat (first | (with_reducible first | exact HK.out | apply KeepBut.set_ | apply keep_drewN | apply keep_drew | apply keep_alloc | refine keep_far ?_ GW403.out _ | refine keep_far ?_ GW418.out _ | refine keep_far ?_ GW438.out _) | exact HK.out)), (by repeat (first | (with_reducible first | exact HB.out | apply below_alloc | apply pw_below_drewN | apply below_drew1 | refine below_set ?_ (IsS88.ge HI0.out) | refine below_set ?_ GE403.out | refine below_set ?_ GE418.out | refine below_set ?_ GE438.out) | exact HB.out))⟩)
    rintro ⟨v426, v429, v432, v435, gb438⟩ w27 ⟨hS_, h0_, h1_, h2_, h3_, h4_, h5_, h6_, h7_, h8_, h9_, h10_, h11_, h12_, h13_, h14_, h15_, h16_, h17_, h18_, h19_, h20_⟩
    have n0_ : Aside0 (Kd.R (Kd.int .i64) 3 w27 w.heap.size (fun k_ => some k_ ≠ (v429 : Value).ownBlock ∧ some k_ ≠ (.slice Ao20 x419000_1.length co20 : Value).ownBlock ∧ some k_ ≠ (.slice Ao21 x419001_1.length co21 : Value).ownBlock) v426 t425) := ⟨h0_⟩
    have n1_ : Aside0 (Kd.R (Kd.int .i64) 3 w27 w.heap.size (fun k_ => some k_ ≠ (v426 : Value).ownBlock ∧ some k_ ≠ (.slice Ao20 x419000_1.length co20 : Value).ownBlock ∧ some k_ ≠ (.slice Ao21 x419001_1.length co21 : Value).ownBlock) v429 t428) := ⟨h1_⟩
    have n2_ : Aside0 (Kd.R k90 90 w27 w.heap.size (fun k_ => some k_ ≠ (.slice Ao22 x419002_1.length co22 : Value).ownBlock) v432 t431) := ⟨h2_⟩
    have n3_ : Aside0 (Kd.R k134 134 w27 w.heap.size (fun _ => True) v435 t434) := ⟨h3_⟩
    have n4_ : Aside0 (Kd.R (Kd.int .i64) 3 w27 w.heap.size (fun k_ => some k_ ≠ (v426 : Value).ownBlock ∧ some k_ ≠ (v429 : Value).ownBlock ∧ some k_ ≠ (.slice Ao21 x419001_1.length co21 : Value).ownBlock) (.slice Ao20 x419000_1.length co20) x419000_1) := ⟨h4_⟩
    have n5_ : Aside0 (Kd.R (Kd.int .i64) 3 w27 w.heap.size (fun k_ => some k_ ≠ (v426 : Value).ownBlock ∧ some k_ ≠ (v429 : Value).ownBlock ∧ some k_ ≠ (.slice Ao20 x419000_1.length co20 : Value).ownBlock) (.slice Ao21 x419001_1.length co21) x419001_1) := ⟨h5_⟩
    have n6_ : Aside0 (Kd.R k90 90 w27 w.heap.size (fun k_ => some k_ ≠ (v432 : Value).ownBlock) (.slice Ao22 x419002_1.length co22) x419002_1) := ⟨h6_⟩
    have n7_ : Aside0 (w27.heap[gb403]? = some (.cells #[.slice none 0 0, .slice none 0 0, .slice none 0 0] 45 (0, 0))) := ⟨h7_⟩
    have n8_ : Aside0 (w27.heap[gb418]? = some (.cells #[.slice Ao20 x419000_1.length co20, .slice Ao21 x419001_1.length co21, .slice Ao22 x419002_1.length co22] 45 (0, 0))) := ⟨h8_⟩
    have n9_ : Aside0 (w27.heap[gb438]? = some (.cells #[.slice none 0 0, .slice none 0 0, .slice none 0 0] 45 (0, 0))) := ⟨h9_⟩
    have n10_ : Aside0 (w.heap.size ≤ gb438) := ⟨h10_⟩
    have n11_ : Aside0 (w0.heap.size ≤ gb438) := ⟨h11_⟩
    have n12_ : Aside0 (g ≠ gb438) := ⟨h12_⟩
    have n13_ : Aside0 (gb438 ≠ g) := ⟨h13_⟩
    have n14_ : Aside0 (gb403 ≠ gb438) := ⟨h14_⟩
    have n15_ : Aside0 (gb438 ≠ gb403) := ⟨h15_⟩
    have n16_ : Aside0 (gb418 ≠ gb438) := ⟨h16_⟩
    have n17_ : Aside0 (gb438 ≠ gb418) := ⟨h17_⟩
    have n18_ : Aside0 (IsS88 w0 w27 g s0_0 t423 t424) := ⟨h18_⟩
    have n19_ : Aside0 (KeepBut w w27 g none) := ⟨h19_⟩
    have n20_ : Aside0 (Below w0.heap.size w0 w27) := ⟨h20_⟩
    clear HO_419000
    clear HO_419001
    clear HO_419002
    clear BK403
    clear BK418
    clear HI0
    clear HK
    clear HB
    clear h0_ h1_ h2_ h3_ h4_ h5_ h6_ h7_ h8_ h9_ h10_ h11_ h12_ h13_ h14_ h15_ h16_ h17_ h18_ h19_ h20_
    have HO427 := n0_
    have HO430 := n1_
    have HO433 := n2_
    have HO436 := n3_
    have HO_419000 := n4_
    have HO_419001 := n5_
    have HO_419002 := n6_
    have BK403 := n7_
    have BK418 := n8_
    have BK438 := n9_
    have GW438 := n10_
    have GE438 := n11_
    have NB0_438 := n12_
    have NB438_0 := n13_
    have NB403_438 := n14_
    have NB438_403 := n15_
    have NB418_438 := n16_
    have NB438_418 := n17_
    have HI0 := n18_
    have HK := n19_
    have HB := n20_
    clear n0_ n1_ n2_ n3_ n4_ n5_ n6_ n7_ n8_ n9_ n10_ n11_ n12_ n13_ n14_ n15_ n16_ n17_ n18_ n19_ n20_
    have hHeld : w27.cell? ⟨gb418, 0, none⟩ = some (.slice Ao20 x419000_1.length co20) ∧ w27.cell? ⟨gb418, 1, none⟩ = some (.slice Ao21 x419001_1.length co21) ∧ w27.cell? ⟨gb418, 2, none⟩ = some (.slice Ao22 x419002_1.length co22) := hS_
    obtain ⟨Ao28, co28, eo28⟩ := Kd.R_slice HO427.out
    (first | subst eo28 | (injection eo28 with f1_ f2_ f3_; have f4_ := f1_.symm; have f5_ := f3_.symm; clear f1_ f2_ f3_; subst f4_; subst f5_))
    obtain ⟨Ao30, co30, eo30⟩ := Kd.R_slice HO430.out
    (first | subst eo30 | (injection eo30 with f1_ f2_ f3_; have f4_ := f1_.symm; have f5_ := f3_.symm; clear f1_ f2_ f3_; subst f4_; subst f5_))
    obtain ⟨Ao32, co32, eo32⟩ := Kd.R_slice HO433.out
    (first | subst eo32 | (injection eo32 with f1_ f2_ f3_; have f4_ := f1_.symm; have f5_ := f3_.symm; clear f1_ f2_ f3_; subst f4_; subst f5_))
    refine norm_ (a' := ?_) ?_ ?_
    rotate_left
    ·simp only [putAll, Act.put, List.setIfInBounds_toArray, List.set_cons_zero, List.set_cons_succ]
     rfl
    refine one_ (i := 10) (N := none) #[T_, T_, T_, T_, T_, T_, T_, T_, T_, T_, T_, F_, F_] rfl rfl (one_of HT_.out (by kernel_rfl)) (by decide) (fun K hK => ?_)
    have hs29 : w27.cell? ⟨gb438, 0, none⟩ = some (.slice none 0 0) := (blk_cell BK438.out 0).trans rfl
    have hfs29 := blk_frozen BK438.out 0
    have hns29_0 := NB403_438.out
    have hns29_1 := NB418_438.out
    have hms29_0 := NB438_403.out
    have hms29_1 := NB438_418.out
    have hs31 : w27.cell? ⟨gb438, 1, none⟩ = some (.slice none 0 0) := (blk_cell BK438.out 1).trans rfl
    have hfs31 := blk_frozen BK438.out 1
    have hns31_0 := NB403_438.out
    have hns31_1 := NB418_438.out
    have hms31_0 := NB438_403.out
    have hms31_1 := NB438_418.out
    have hs33 : w27.cell? ⟨gb438, 2, none⟩ = some (.slice none 0 0) := (blk_cell BK438.out 2).trans rfl
    have hfs33 := blk_frozen BK438.out 2
    have hns33_0 := NB403_438.out
    have hns33_1 := NB418_438.out
    have hms33_0 := NB438_403.out
    have hms33_1 := NB438_418.out
    refine skip_ (w1 := ?_) (by rfl) rfl ?_ ?_
    rotate_left
    ·go_simp
     rfl
    refine hK.out _ _ ⟨((cell_far (p := ⟨gb438, _, none⟩) NB418_438.out _).trans (((cell_far (p := ⟨gb438, _, none⟩) NB418_438.out _).trans (((cell_far (p := ⟨gb438, _, none⟩) NB418_438.out _).trans (hHeld.1)))))), ((cell_far (p := ⟨gb438, _, none⟩) NB418_438.out _).trans (((cell_far (p := ⟨gb438, _, none⟩) NB418_438.out _).trans (((cell_far (p := ⟨gb438, _, none⟩) NB418_438.out _).trans (hHeld.2.1)))))), ((cell_far (p := ⟨gb438, _, none⟩) NB418_438.out _).trans (((cell_far (p := ⟨gb438, _, none⟩) NB418_438.out _).trans (((cell_far (p := ⟨gb438, _, none⟩) NB418_438.out _).trans (hHeld.2.2))))))⟩ (fun hHeld => ?_)
    clear hK K
    refine pu 11 6 (tf 12 1) ?_
    refine pu 12 7 (tf 13 0) ?_
    refine done_ (done_of HT_.out (by kernel_rfl)) ?_
    have hnb34 := NB438_403.out
    have hnc34 := NB403_438.out
    have hnb35 := NB438_418.out
    have hnc35 := NB418_438.out
    have hnb36 := NB438_0.out
    have hnc36 := NB0_438.out
    obtain ⟨hcz37_0, hcz37_1, hcz37_2, hfz37_0, hfz37_1, hfz37_2⟩ := bz3 BK438
    have hnb38 := NB418_403.out
    have hnc38 := NB403_418.out
    have hnb39 := NB418_0.out
    have hnc39 := NB0_418.out
    obtain ⟨hcz40_0, hcz40_1, hcz40_2, hfz40_0, hfz40_1, hfz40_2⟩ := bz3 BK418
    try go_wp2
    go_roundg k1
    case measure => have := HK1.out; omega
    case rel => exact ⟨(wrap64 (x4_1 - 1)), (t423), (t424), (t425), (t428), (t431), (.slice Ao28 t425.length co28), (.slice Ao30 t428.length co30), (.slice Ao32 t431.length co32), (by first | rfl | (simp; done) | (simp [*]; done)), H', ⟨by have := HK1.out; omega⟩, ⟨(by exact rm (rs2 HO427 BK438 BK418))⟩, ⟨(by exact rm (rs2 HO430 BK438 BK418))⟩, ⟨(by exact rm (rs2 HO433 BK438 BK418))⟩, ⟨bq⟩, ⟨bq⟩, ⟨by repeat (first | (with_reducible first | exact HI0.out | apply IsS88.alloc | apply IsS88.drewN | apply IsS88.drew | apply IsS88.set_1 | apply IsS88.set_2 | refine IsS88.far ?_ NB0_403.out _ | refine IsS88.far ?_ NB0_418.out _ | refine IsS88.far ?_ NB0_438.out _) | exact HI0.out)⟩, ⟨by repeat (first | (with_reducible first | exact HK.out | apply KeepBut.set_ | apply keep_drewN | apply keep_drew | apply keep_alloc | refine keep_far ?_ GW403.out _ | refine keep_far ?_ GW418.out _ | refine keep_far ?_ GW438.out _) | exact HK.out)⟩, ⟨by repeat (first | (with_reducible first | exact HB.out | apply below_alloc | apply pw_below_drewN | apply below_drew1 | refine below_set ?_ (IsS88.ge HI0.out) | refine below_set ?_ GE403.out | refine below_set ?_ GE418.out | refine below_set ?_ GE438.out) | exact HB.out)⟩⟩
   ·rw [if_neg c17] at H
    have c17b0 : decide (0 < x4_1) = false := decide_eq_false c17
    clear c17
    simp only [Option.some.injEq, Prod.mk.injEq] at H
    obtain ⟨rfl, rfl, rfl, rfl, rfl⟩ := H
    have hnb41 := NB418_403.out
    have hnc41 := NB403_418.out
    have hnb42 := NB418_0.out
    have hnc42 := NB0_418.out
    obtain ⟨hcz43_0, hcz43_1, hcz43_2, hfz43_0, hfz43_1, hfz43_2⟩ := bz3 BK418
    obtain ⟨Ao44, co44, eo44⟩ := Kd.R_slice HO_419000.out
    subst eo44
    have hnb45 := NB403_0.out
    have hnc45 := NB0_403.out
    obtain ⟨hcz46_0, hcz46_1, hcz46_2, hfz46_0, hfz46_1, hfz46_2⟩ := bz3 BK403
    obtain ⟨Ao47, co47, eo47⟩ := Kd.R_slice HO_419001.out
    subst eo47
    obtain ⟨Ao48, co48, eo48⟩ := Kd.R_slice HO_419002.out
    subst eo48
    go_wp2
    refine bodyPost_ret (results_cell_row rfl _ _ gb403 45 #[.slice Ao44 x419000_1.length co44, .slice Ao47 x419001_1.length co47, .slice Ao48 x419002_1.length co48] (0, 0) _ rfl bq Try.underlying45 rfl (by kernel_rfl)) rfl ?_
    exact ⟨_, _, _, by first | rfl | (simp [errW_none, errW_some] <;> rfl) | (simp [*, errW_none, errW_some] <;> rfl), (by exact rm (rs1 HO_419000 BK403)), (by exact rm (rs1 HO_419001 BK403)), (by exact rm (rs1 HO_419002 BK403)), by repeat (first | (with_reducible first | exact HI0.out | apply IsS88.alloc | apply IsS88.drewN | apply IsS88.drew | apply IsS88.set_1 | apply IsS88.set_2 | refine IsS88.far ?_ NB0_403.out _ | refine IsS88.far ?_ NB0_418.out _) | exact HI0.out), by repeat (first | (with_reducible first | exact HB.out | apply below_alloc | apply pw_below_drewN | apply below_drew1 | refine below_set ?_ (IsS88.ge HI0.out) | refine below_set ?_ GE403.out | refine below_set ?_ GE418.out) | exact HB.out), by repeat (first | (with_reducible first | exact HK.out | apply KeepBut.set_ | apply keep_drewN | apply keep_drew | apply keep_alloc | refine keep_far ?_ GW403.out _ | refine keep_far ?_ GW418.out _) | exact HK.out)⟩

end Go.Proofs.Ytlikcmonejefoac.PFnMedians
