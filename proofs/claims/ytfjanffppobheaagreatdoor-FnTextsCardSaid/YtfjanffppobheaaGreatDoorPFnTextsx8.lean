-- printed by a program of this session, a turned copy of the print of the kit
import Derived.Test.YtfjanffppobheaaGreatDoorSq
import Derived.Test.YtfjanffppobheaaGreatDoorPFnTextsx0
import Derived.Test.YtfjanffppobheaaGreatDoorPFnTextsx2
import Derived.Test.YtfjanffppobheaaGreatDoorPFnTextsx3
import Derived.Test.YtfjanffppobheaaGreatDoorPFnTextsx6
import Derived.Test.YtfjanffppobheaaGreatDoorPFnTextsx7
namespace Go.Proofs.YtfjanffppobheaaGreatDoor.PFnTexts
open Go.RowKit Go.Proofs.YtfjanffppobheaaGreatDoorW.PrintWords Go.Proofs.YtfjanffppobheaaGreatDoorW.PrintLast Go.Proofs.YtfjanffppobheaaGreatDoorW.PrintMore Go.Proofs.YtfjanffppobheaaGreatDoor.Sq
attribute [local go_sem] max2_int min2_int max_two min_two max_three min_three max_four min_four Giv.cell_twice   -- for this text's walks alone
set_option linter.unusedVariables false
set_option linter.unusedSimpArgs false

/-! ### spec_l3Any: function 35 -/
def spec_l3Any.f (s0_0 : List Int) (s0_1 : Int) (s0_2 : Int) : Option (Int × Int × Int × Int) := (spec_l3Range.f s0_0 s0_1 s0_2).bind fun bt296 => ((spec_l1Below.f s0_0 bt296.2.2.1 bt296.2.2.2 10).bind fun bt301 => (if bt301.1 = 0 then ((spec_l1PickInt.f s0_0 bt301.2.1 bt301.2.2 (([(-1001), (-1000), 1000, 1001] : List Int))).bind fun bt307 => (some (bt307.1, bt296.2.1, bt307.2.1, bt307.2.2))) else (if bt301.1 = 1 then ((spec_l1PickInt.f s0_0 bt301.2.1 bt301.2.2 (([(-1001), (-1000), 1000, 1001] : List Int))).bind fun bt313 => (some (bt296.1, bt313.1, bt313.2.1, bt313.2.2))) else (some (bt296.1, bt296.2.1, bt301.2.1, bt301.2.2)))))
set_option maxHeartbeats 8000000 in
set_option maxRecDepth 100000 in
theorem spec_l3Any.calls (g : Nat) (s0_0 : List Int) (s0_1 : Int) (s0_2 : Int) (r1 : Int) (r2 : Int) (r3 : Int) (r4 : Int) (w0 w : World) (hI : IsS78 w0 w g s0_0 s0_1 s0_2) (hB : Below w0.heap.size w0 w) (h : spec_l3Any.f s0_0 s0_1 s0_2 = some (r1, r2, r3, r4)) :
  Calls Tryz.prog 35 #[.pointer (some ⟨g, 0, none⟩)] w fun e w' => e = .returned (.agg #[.int .i64 r1, .int .i64 r2]) ∧ IsS78 w0 w' g s0_0 r3 r4 ∧ Below w0.heap.size w0 w' ∧ KeepBut w w' g none := by
 have hu32 := Tryz.underlying32
 have HI0 := Aside0.mk hI
 have HK := Aside0.mk (KeepBut.refl w g none)
 have HL := Aside0.mk hB.size
 clear hI
 have HW0 := Aside0.mk hB.size
 have HB := Aside0.mk hB
 clear hB
 have H : ((spec_l3Range.f s0_0 s0_1 s0_2).bind fun bt296 => ((spec_l1Below.f s0_0 bt296.2.2.1 bt296.2.2.2 10).bind fun bt301 => (if bt301.1 = 0 then ((spec_l1PickInt.f s0_0 bt301.2.1 bt301.2.2 (([(-1001), (-1000), 1000, 1001] : List Int))).bind fun bt307 => (some (bt307.1, bt296.2.1, bt307.2.1, bt307.2.2))) else (if bt301.1 = 1 then ((spec_l1PickInt.f s0_0 bt301.2.1 bt301.2.2 (([(-1001), (-1000), 1000, 1001] : List Int))).bind fun bt313 => (some (bt296.1, bt313.1, bt313.2.1, bt313.2.2))) else (some (bt296.1, bt296.2.1, bt301.2.1, bt301.2.2)))))) = some (r1, r2, r3, r4) := h
 clear h
 revert H; refine bo ?_; rintro ⟨t296, t297, t298, t299⟩ A2 H
 dsimp only at H
 revert H; refine bo ?_; rintro ⟨t301, t302, t303⟩ A3 H
 dsimp only at H
 by_cases c4 : t301 = 0
 ·rw [if_pos c4] at H
  have c4b0 : (t301 == 0) = true := beq_iff_eq.mpr c4
  have c4b1 : (t301 != 0) = false := bne_eq_false_iff_eq.mpr c4
  clear c4
  obtain ⟨y304, hy304⟩ : ∃ y_ : List Int, y_ = (([(-1001), (-1000), 1000, 1001] : List Int)) := ⟨_, rfl⟩
  replace H : ((spec_l1PickInt.f s0_0 t302 t303 y304).bind fun bt307 => (some (bt307.1, t297, bt307.2.1, bt307.2.2))) = some (r1, r2, r3, r4) := by first | (rw [hy304]; with_reducible exact H) | (have H2_ := (Option.bind_some _ _).symm.trans H; rw [hy304]; with_reducible exact H2_) | (have H2_ := (Option.bind_some _ _).symm.trans H; with_reducible exact H2_) | with_reducible exact H | (rw [hy304]; exact H) | exact H
  have Ny304 := Aside0.mk hy304
  clear hy304
  revert H; refine bo ?_; rintro ⟨t307, t308, t309⟩ A5 H
  dsimp only at H
  simp only [Option.some.injEq, Prod.mk.injEq] at H
  obtain ⟨rfl, rfl, rfl, rfl⟩ := H
  go_enter Tryz.func35, Tryz.ntmps35
  go_wp2_with (first | ((with_reducible refine gate_dst (N := 2) rfl ?_); refine bx 2 #[.int .i64 0, .int .i64 0] 32 ?_; intro gb295 hg w6 hbox hb; replace HB := mk (below_step (by repeat (first | (with_reducible first | exact HB.out | apply below_alloc | apply pw_below_drewN | apply below_drew1 | refine below_set ?_ (IsS78.ge HI0.out)) | exact HB.out)) hb); have BK295 := mk hbox; have GW295 := mk ((by rw [hg]; exact (keep_size (w := w) (g := g) (row := none) (by repeat (first | (with_reducible first | exact HK.out | apply KeepBut.set_ | apply keep_drewN | apply keep_drew | apply keep_alloc) | exact HK.out))) : w.heap.size ≤ gb295)); have GE295 := mk ((Nat.le_trans HW0.out (by rw [hg]; exact (keep_size (w := w) (g := g) (row := none) (by repeat (first | (with_reducible first | exact HK.out | apply KeepBut.set_ | apply keep_drewN | apply keep_drew | apply keep_alloc) | exact HK.out))) : w.heap.size ≤ gb295) : w0.heap.size ≤ gb295)); replace HK := mk (KeepBut.trans (by repeat (first | (with_reducible first | exact HK.out | apply KeepBut.set_ | apply keep_drewN | apply keep_drew | apply keep_alloc) | exact HK.out)) (KeepBut.of_below hb g none) (.inl rfl)); have NB0_295 := mk ((by rw [hg]; exact Nat.ne_of_lt (IsS78.lt (show IsS78 w0 _ g s0_0 s0_1 s0_2 from by repeat (first | (with_reducible first | exact HI0.out | apply IsS78.alloc | apply IsS78.drewN | apply IsS78.drew | apply IsS78.set_1 | apply IsS78.set_2) | exact HI0.out))) : g ≠ gb295)); have NB295_0 := mk ((by rw [hg]; exact Nat.ne_of_gt (IsS78.lt (show IsS78 w0 _ g s0_0 s0_1 s0_2 from by repeat (first | (with_reducible first | exact HI0.out | apply IsS78.alloc | apply IsS78.drewN | apply IsS78.drew | apply IsS78.set_1 | apply IsS78.set_2) | exact HI0.out))) : gb295 ≠ g)); replace HI0 := mk (IsS78.below (by repeat (first | (with_reducible first | exact HI0.out | apply IsS78.alloc | apply IsS78.drewN | apply IsS78.drew | apply IsS78.set_1 | apply IsS78.set_2) | exact HI0.out)) hb); clear hb hbox hg) | ((with_reducible refine gate_callee (f := 57) rfl ?_); refine gl (some 5) rfl Tryz.func57 #[.pointer (some ⟨g, 0, none⟩)] ?_; (with_reducible refine (spec_l3Range.calls g s0_0 s0_1 s0_2 t296 t297 t298 t299 w0 _ ?side1 ?side2 A2.out).mono ?_); (case side1 => exact (by repeat (first | (with_reducible first | exact HI0.out | apply IsS78.alloc | apply IsS78.drewN | apply IsS78.drew | apply IsS78.set_1 | apply IsS78.set_2 | refine IsS78.far ?_ NB0_295.out _) | exact HI0.out))); (case side2 => exact (by repeat (first | (with_reducible first | exact HB.out | apply below_alloc | apply pw_below_drewN | apply below_drew1 | refine below_set ?_ (IsS78.ge HI0.out) | refine below_set ?_ GE295.out) | exact HB.out))); rintro e w7 ⟨rfl, hi, hb, hk⟩; refine ⟨_, rfl, ?_⟩; replace BK295 := mk (KeepBut.blk hk (g' := gb295) (o := .cells #[.int .i64 0, .int .i64 0] 32 (0, 0)) (ub BK295.out) NB295_0.out (by simp)); replace HK := mk (KeepBut.trans (by repeat (first | (with_reducible first | exact HK.out | apply KeepBut.set_ | apply keep_drewN | apply keep_drew | apply keep_alloc | refine keep_far ?_ GW295.out _) | exact HK.out)) hk (.inl rfl)); replace HB := mk hb; replace HI0 := mk hi; (try clear hb); (try clear hb2); (try clear hk); (try clear hi)) | ((with_reducible refine gate_dst (N := 3) rfl ?_); refine bx 3 #[.int .i64 0, .int .i64 0] 32 ?_; intro gb300 hg w8 hbox hb; replace HB := mk (below_step (by repeat (first | (with_reducible first | exact HB.out | apply below_alloc | apply pw_below_drewN | apply below_drew1 | refine below_set ?_ (IsS78.ge HI0.out) | refine below_set ?_ GE295.out) | exact HB.out)) hb); have BK300 := mk hbox; have GW300 := mk ((by rw [hg]; exact (keep_size (w := w) (g := g) (row := none) (by repeat (first | (with_reducible first | exact HK.out | apply KeepBut.set_ | apply keep_drewN | apply keep_drew | apply keep_alloc | refine keep_far ?_ GW295.out _) | exact HK.out))) : w.heap.size ≤ gb300)); have GE300 := mk ((Nat.le_trans HW0.out (by rw [hg]; exact (keep_size (w := w) (g := g) (row := none) (by repeat (first | (with_reducible first | exact HK.out | apply KeepBut.set_ | apply keep_drewN | apply keep_drew | apply keep_alloc | refine keep_far ?_ GW295.out _) | exact HK.out))) : w.heap.size ≤ gb300) : w0.heap.size ≤ gb300)); replace HK := mk (KeepBut.trans (by repeat (first | (with_reducible first | exact HK.out | apply KeepBut.set_ | apply keep_drewN | apply keep_drew | apply keep_alloc | refine keep_far ?_ GW295.out _) | exact HK.out)) (KeepBut.of_below hb g none) (.inl rfl)); have NB295_300 := nl BK295 hg; have NB300_295 := nr BK295 hg; replace BK295 := wb BK295 hb; have NB0_300 := mk ((by rw [hg]; exact Nat.ne_of_lt (IsS78.lt (show IsS78 w0 _ g s0_0 t298 t299 from by repeat (first | (with_reducible first | exact HI0.out | apply IsS78.alloc | apply IsS78.drewN | apply IsS78.drew | apply IsS78.set_1 | apply IsS78.set_2 | refine IsS78.far ?_ NB0_295.out _) | exact HI0.out))) : g ≠ gb300)); have NB300_0 := mk ((by rw [hg]; exact Nat.ne_of_gt (IsS78.lt (show IsS78 w0 _ g s0_0 t298 t299 from by repeat (first | (with_reducible first | exact HI0.out | apply IsS78.alloc | apply IsS78.drewN | apply IsS78.drew | apply IsS78.set_1 | apply IsS78.set_2 | refine IsS78.far ?_ NB0_295.out _) | exact HI0.out))) : gb300 ≠ g)); replace HI0 := mk (IsS78.below (by repeat (first | (with_reducible first | exact HI0.out | apply IsS78.alloc | apply IsS78.drewN | apply IsS78.drew | apply IsS78.set_1 | apply IsS78.set_2 | refine IsS78.far ?_ NB0_295.out _) | exact HI0.out)) hb); clear hb hbox hg; have hnb9 := NB300_295.out; have hnc9 := NB295_300.out; have hnb10 := NB300_0.out; have hnc10 := NB0_300.out; obtain ⟨hcz11_0, hcz11_1, hfz11_0, hfz11_1⟩ := bz2 BK300) | ((with_reducible refine gate_callee (f := 43) rfl ?_); refine gl (some 7) rfl Tryz.func43 #[.pointer (some ⟨g, 0, none⟩), .int .i64 10] ?_; (with_reducible refine (spec_l1Below.calls g s0_0 t298 t299 10 t301 t302 t303 w0 _ ?side1 ?side2 A3.out).mono ?_); (case side1 => exact (by repeat (first | (with_reducible first | exact HI0.out | apply IsS78.alloc | apply IsS78.drewN | apply IsS78.drew | apply IsS78.set_1 | apply IsS78.set_2 | refine IsS78.far ?_ NB0_295.out _ | refine IsS78.far ?_ NB0_300.out _) | exact HI0.out))); (case side2 => exact (by repeat (first | (with_reducible first | exact HB.out | apply below_alloc | apply pw_below_drewN | apply below_drew1 | refine below_set ?_ (IsS78.ge HI0.out) | refine below_set ?_ GE295.out | refine below_set ?_ GE300.out) | exact HB.out))); rintro e w12 ⟨rfl, hi, hb, hk⟩; refine ⟨_, rfl, ?_⟩; have n0_ := Aside0.mk (KeepBut.blk hk (g' := gb295) (o := .cells #[.int .i64 0, .int .i64 0] 32 (0, 0)) bq NB295_0.out (by simp)); have n1_ := Aside0.mk (KeepBut.blk hk (g' := gb300) (o := .cells #[.int .i64 t296, .int .i64 t297] 32 (0, 0)) bq NB300_0.out (by simp)); have n2_ := Aside0.mk (KeepBut.trans (by repeat (first | (with_reducible first | exact HK.out | apply KeepBut.set_ | apply keep_drewN | apply keep_drew | apply keep_alloc | refine keep_far ?_ GW295.out _ | refine keep_far ?_ GW300.out _) | exact HK.out)) hk (.inl rfl)); have n3_ := Aside0.mk (hb); have n4_ := Aside0.mk (hi); clear BK295; clear BK300; clear HK; clear HB; clear HI0; have BK295 := n0_; have BK300 := n1_; have HK := n2_; have HB := n3_; have HI0 := n4_; clear n0_ n1_ n2_ n3_ n4_; (try clear hb); (try clear hb2); (try clear hk); (try clear hi)) | ((with_reducible refine gate_dst (N := 11) rfl ?_); refine Kd.R_lit (Kd.int .i64) _ 3 ?hg (N := 11) ?hd (xs := ([(-1001), (-1000), 1000, 1001] : List Int)) (inner := [.int .i64 (-1001), .int .i64 (-1000), .int .i64 1000, .int .i64 1001]) (ok := fun _ => True) (okp := fun _ => True) ?hr ?hp (fun _ hk => hk) trivial (Below.refl _ _) (Nat.le_refl _) (by simp) ?_; (case hd => rfl); (case hg => rfl); (case hr => first | (go_simp; done) | (go_simp; rfl)); (case hp => exact (Reps.one (show Kd.M (Kd.int .i64) _ _ _ (-1001) [.int .i64 (-1001)] from rfl) (Reps.one (show Kd.M (Kd.int .i64) _ _ _ (-1000) [.int .i64 (-1000)] from rfl) (Reps.one (show Kd.M (Kd.int .i64) _ _ _ 1000 [.int .i64 1000] from rfl) (Reps.one (show Kd.M (Kd.int .i64) _ _ _ 1001 [.int .i64 1001] from rfl) (Reps.none _ _)))))); intro v305 w13 ho14 hb hg_ hnew_; clear hg_ hnew_; (first | rw [← Ny304.out] at ho14 | (simp only [Int.reduceToNat] at ho14; rw [← Ny304.out] at ho14)); have HO306 := mk (Kd.R_lower ho14 (keep_size (w := w) (g := g) (row := none) (by repeat (first | (with_reducible first | exact HK.out | apply KeepBut.set_ | apply keep_drewN | apply keep_drew | apply keep_alloc | refine keep_far ?_ GW295.out _ | refine keep_far ?_ GW300.out _) | exact HK.out)))); replace BK295 := wb BK295 hb; replace BK300 := wb BK300 hb; replace HK := mk (KeepBut.trans (by repeat (first | (with_reducible first | exact HK.out | apply KeepBut.set_ | apply keep_drewN | apply keep_drew | apply keep_alloc | refine keep_far ?_ GW295.out _ | refine keep_far ?_ GW300.out _) | exact HK.out)) (KeepBut.of_below hb g none) (.inl rfl)); replace HB := mk (below_step (by repeat (first | (with_reducible first | exact HB.out | apply below_alloc | apply pw_below_drewN | apply below_drew1 | refine below_set ?_ (IsS78.ge HI0.out) | refine below_set ?_ GE295.out | refine below_set ?_ GE300.out) | exact HB.out)) hb); replace HI0 := mk (IsS78.below (by repeat (first | (with_reducible first | exact HI0.out | apply IsS78.alloc | apply IsS78.drewN | apply IsS78.drew | apply IsS78.set_1 | apply IsS78.set_2 | refine IsS78.far ?_ NB0_295.out _ | refine IsS78.far ?_ NB0_300.out _) | exact HI0.out)) hb); clear hb ho14; obtain ⟨Ao15, co15, eo15⟩ := Kd.R_slice HO306.out; subst eo15) | ((with_reducible refine gate_callee (f := 49) rfl ?_); refine gl (some 12) rfl Tryz.func49 #[.pointer (some ⟨g, 0, none⟩), .slice Ao15 y304.length co15] ?_; (with_reducible refine (spec_l1PickInt.calls g s0_0 t302 t303 _ _ y304 t307 t308 t309 w0 _ ?side1 ?side2 ?side3 ?side4 ?side5 A5.out).mono ?_); (case side1 => exact (by repeat (first | (with_reducible first | exact HI0.out | apply IsS78.alloc | apply IsS78.drewN | apply IsS78.drew | apply IsS78.set_1 | apply IsS78.set_2 | refine IsS78.far ?_ NB0_295.out _ | refine IsS78.far ?_ NB0_300.out _) | exact HI0.out))); (case side2 => exact (by repeat (first | (with_reducible first | exact HB.out | apply below_alloc | apply pw_below_drewN | apply below_drew1 | refine below_set ?_ (IsS78.ge HI0.out) | refine below_set ?_ GE295.out | refine below_set ?_ GE300.out) | exact HB.out))); (case side3 => exact uc (Kd.R_reads' HO306.out).2.2); (case side4 => exact (Kd.R_reads' HO306.out).2.1); (case side5 => exact far_slice (IsS78.own_ne HI0.out HO306.out (by decide))); rintro e w16 ⟨rfl, hi, hb, hk⟩; refine ⟨_, rfl, ?_⟩; replace BK295 := mk (KeepBut.blk hk (g' := gb295) (o := .cells #[.int .i64 0, .int .i64 0] 32 (0, 0)) (ub BK295.out) NB295_0.out (by simp)); replace BK300 := mk (KeepBut.blk hk (g' := gb300) (o := .cells #[.int .i64 t296, .int .i64 t297] 32 (0, 0)) (ub BK300.out) NB300_0.out (by simp)); replace HO306 := mk (Kd.R_mono (Kd.R_keep (IsS78.apart (show IsS78 w0 _ g s0_0 t302 t303 from by repeat (first | (with_reducible first | exact HI0.out | apply IsS78.alloc | apply IsS78.drewN | apply IsS78.drew | apply IsS78.set_1 | apply IsS78.set_2 | refine IsS78.far ?_ NB0_295.out _ | refine IsS78.far ?_ NB0_300.out _) | exact HI0.out)) (up HO306.out) (by decide)) hk (fun _ h => h.2)) (fun _ h => h.1)); replace HK := mk (KeepBut.trans (by repeat (first | (with_reducible first | exact HK.out | apply KeepBut.set_ | apply keep_drewN | apply keep_drew | apply keep_alloc | refine keep_far ?_ GW295.out _ | refine keep_far ?_ GW300.out _) | exact HK.out)) hk (.inl rfl)); replace HB := mk hb; replace HI0 := mk hi; (try clear hb); (try clear hb2); (try clear hk); (try clear hi); obtain ⟨hcz17_0, hcz17_1, hfz17_0, hfz17_1⟩ := bz2 BK300; have hnb18 := NB295_0.out; have hnc18 := NB0_295.out; obtain ⟨hcz19_0, hcz19_1, hfz19_0, hfz19_1⟩ := bz2 BK295))
  refine bodyPost_ret (results_cell_row rfl _ _ gb295 32 #[.int .i64 t307, .int .i64 t297] (0, 0) _ rfl bq Tryz.underlying32 rfl (by kernel_rfl)) rfl ?_
  exact ⟨by first | rfl | (simp [errW_none, errW_some] <;> rfl) | (simp [*, errW_none, errW_some] <;> rfl), by repeat (first | (with_reducible first | exact HI0.out | apply IsS78.alloc | apply IsS78.drewN | apply IsS78.drew | apply IsS78.set_1 | apply IsS78.set_2 | refine IsS78.far ?_ NB0_295.out _ | refine IsS78.far ?_ NB0_300.out _) | exact HI0.out), by repeat (first | (with_reducible first | exact HB.out | apply below_alloc | apply pw_below_drewN | apply below_drew1 | refine below_set ?_ (IsS78.ge HI0.out) | refine below_set ?_ GE295.out | refine below_set ?_ GE300.out) | exact HB.out), by repeat (first | (with_reducible first | exact HK.out | apply KeepBut.set_ | apply keep_drewN | apply keep_drew | apply keep_alloc | refine keep_far ?_ GW295.out _ | refine keep_far ?_ GW300.out _) | exact HK.out)⟩
 ·rw [if_neg c4] at H
  have c4b0 : (t301 == 0) = false := beq_eq_false_iff_ne.mpr c4
  have c4b1 : (t301 != 0) = true := bne_iff_ne.mpr c4
  by_cases c20 : t301 = 1
  ·rw [if_pos c20] at H
   have c20b0 : (t301 == 1) = true := beq_iff_eq.mpr c20
   have c20b1 : (t301 != 1) = false := bne_eq_false_iff_eq.mpr c20
   clear c20
   obtain ⟨y310, hy310⟩ : ∃ y_ : List Int, y_ = (([(-1001), (-1000), 1000, 1001] : List Int)) := ⟨_, rfl⟩
   replace H : ((spec_l1PickInt.f s0_0 t302 t303 y310).bind fun bt313 => (some (t296, bt313.1, bt313.2.1, bt313.2.2))) = some (r1, r2, r3, r4) := by first | (rw [hy310]; with_reducible exact H) | (have H2_ := (Option.bind_some _ _).symm.trans H; rw [hy310]; with_reducible exact H2_) | (have H2_ := (Option.bind_some _ _).symm.trans H; with_reducible exact H2_) | with_reducible exact H | (rw [hy310]; exact H) | exact H
   have Ny310 := Aside0.mk hy310
   clear hy310
   revert H; refine bo ?_; rintro ⟨t313, t314, t315⟩ A21 H
   dsimp only at H
   simp only [Option.some.injEq, Prod.mk.injEq] at H
   obtain ⟨rfl, rfl, rfl, rfl⟩ := H
   go_enter Tryz.func35, Tryz.ntmps35
   go_wp2_with (first | ((with_reducible refine gate_dst (N := 2) rfl ?_); refine bx 2 #[.int .i64 0, .int .i64 0] 32 ?_; intro gb295 hg w22 hbox hb; replace HB := mk (below_step (by repeat (first | (with_reducible first | exact HB.out | apply below_alloc | apply pw_below_drewN | apply below_drew1 | refine below_set ?_ (IsS78.ge HI0.out)) | exact HB.out)) hb); have BK295 := mk hbox; have GW295 := mk ((by rw [hg]; exact (keep_size (w := w) (g := g) (row := none) (by repeat (first | (with_reducible first | exact HK.out | apply KeepBut.set_ | apply keep_drewN | apply keep_drew | apply keep_alloc) | exact HK.out))) : w.heap.size ≤ gb295)); have GE295 := mk ((Nat.le_trans HW0.out (by rw [hg]; exact (keep_size (w := w) (g := g) (row := none) (by repeat (first | (with_reducible first | exact HK.out | apply KeepBut.set_ | apply keep_drewN | apply keep_drew | apply keep_alloc) | exact HK.out))) : w.heap.size ≤ gb295) : w0.heap.size ≤ gb295)); replace HK := mk (KeepBut.trans (by repeat (first | (with_reducible first | exact HK.out | apply KeepBut.set_ | apply keep_drewN | apply keep_drew | apply keep_alloc) | exact HK.out)) (KeepBut.of_below hb g none) (.inl rfl)); have NB0_295 := mk ((by rw [hg]; exact Nat.ne_of_lt (IsS78.lt (show IsS78 w0 _ g s0_0 s0_1 s0_2 from by repeat (first | (with_reducible first | exact HI0.out | apply IsS78.alloc | apply IsS78.drewN | apply IsS78.drew | apply IsS78.set_1 | apply IsS78.set_2) | exact HI0.out))) : g ≠ gb295)); have NB295_0 := mk ((by rw [hg]; exact Nat.ne_of_gt (IsS78.lt (show IsS78 w0 _ g s0_0 s0_1 s0_2 from by repeat (first | (with_reducible first | exact HI0.out | apply IsS78.alloc | apply IsS78.drewN | apply IsS78.drew | apply IsS78.set_1 | apply IsS78.set_2) | exact HI0.out))) : gb295 ≠ g)); replace HI0 := mk (IsS78.below (by repeat (first | (with_reducible first | exact HI0.out | apply IsS78.alloc | apply IsS78.drewN | apply IsS78.drew | apply IsS78.set_1 | apply IsS78.set_2) | exact HI0.out)) hb); clear hb hbox hg) | ((with_reducible refine gate_callee (f := 57) rfl ?_); refine gl (some 5) rfl Tryz.func57 #[.pointer (some ⟨g, 0, none⟩)] ?_; (with_reducible refine (spec_l3Range.calls g s0_0 s0_1 s0_2 t296 t297 t298 t299 w0 _ ?side1 ?side2 A2.out).mono ?_); (case side1 => exact (by repeat (first | (with_reducible first | exact HI0.out | apply IsS78.alloc | apply IsS78.drewN | apply IsS78.drew | apply IsS78.set_1 | apply IsS78.set_2 | refine IsS78.far ?_ NB0_295.out _) | exact HI0.out))); (case side2 => exact (by repeat (first | (with_reducible first | exact HB.out | apply below_alloc | apply pw_below_drewN | apply below_drew1 | refine below_set ?_ (IsS78.ge HI0.out) | refine below_set ?_ GE295.out) | exact HB.out))); rintro e w23 ⟨rfl, hi, hb, hk⟩; refine ⟨_, rfl, ?_⟩; replace BK295 := mk (KeepBut.blk hk (g' := gb295) (o := .cells #[.int .i64 0, .int .i64 0] 32 (0, 0)) (ub BK295.out) NB295_0.out (by simp)); replace HK := mk (KeepBut.trans (by repeat (first | (with_reducible first | exact HK.out | apply KeepBut.set_ | apply keep_drewN | apply keep_drew | apply keep_alloc | refine keep_far ?_ GW295.out _) | exact HK.out)) hk (.inl rfl)); replace HB := mk hb; replace HI0 := mk hi; (try clear hb); (try clear hb2); (try clear hk); (try clear hi)) | ((with_reducible refine gate_dst (N := 3) rfl ?_); refine bx 3 #[.int .i64 0, .int .i64 0] 32 ?_; intro gb300 hg w24 hbox hb; replace HB := mk (below_step (by repeat (first | (with_reducible first | exact HB.out | apply below_alloc | apply pw_below_drewN | apply below_drew1 | refine below_set ?_ (IsS78.ge HI0.out) | refine below_set ?_ GE295.out) | exact HB.out)) hb); have BK300 := mk hbox; have GW300 := mk ((by rw [hg]; exact (keep_size (w := w) (g := g) (row := none) (by repeat (first | (with_reducible first | exact HK.out | apply KeepBut.set_ | apply keep_drewN | apply keep_drew | apply keep_alloc | refine keep_far ?_ GW295.out _) | exact HK.out))) : w.heap.size ≤ gb300)); have GE300 := mk ((Nat.le_trans HW0.out (by rw [hg]; exact (keep_size (w := w) (g := g) (row := none) (by repeat (first | (with_reducible first | exact HK.out | apply KeepBut.set_ | apply keep_drewN | apply keep_drew | apply keep_alloc | refine keep_far ?_ GW295.out _) | exact HK.out))) : w.heap.size ≤ gb300) : w0.heap.size ≤ gb300)); replace HK := mk (KeepBut.trans (by repeat (first | (with_reducible first | exact HK.out | apply KeepBut.set_ | apply keep_drewN | apply keep_drew | apply keep_alloc | refine keep_far ?_ GW295.out _) | exact HK.out)) (KeepBut.of_below hb g none) (.inl rfl)); have NB295_300 := nl BK295 hg; have NB300_295 := nr BK295 hg; replace BK295 := wb BK295 hb; have NB0_300 := mk ((by rw [hg]; exact Nat.ne_of_lt (IsS78.lt (show IsS78 w0 _ g s0_0 t298 t299 from by repeat (first | (with_reducible first | exact HI0.out | apply IsS78.alloc | apply IsS78.drewN | apply IsS78.drew | apply IsS78.set_1 | apply IsS78.set_2 | refine IsS78.far ?_ NB0_295.out _) | exact HI0.out))) : g ≠ gb300)); have NB300_0 := mk ((by rw [hg]; exact Nat.ne_of_gt (IsS78.lt (show IsS78 w0 _ g s0_0 t298 t299 from by repeat (first | (with_reducible first | exact HI0.out | apply IsS78.alloc | apply IsS78.drewN | apply IsS78.drew | apply IsS78.set_1 | apply IsS78.set_2 | refine IsS78.far ?_ NB0_295.out _) | exact HI0.out))) : gb300 ≠ g)); replace HI0 := mk (IsS78.below (by repeat (first | (with_reducible first | exact HI0.out | apply IsS78.alloc | apply IsS78.drewN | apply IsS78.drew | apply IsS78.set_1 | apply IsS78.set_2 | refine IsS78.far ?_ NB0_295.out _) | exact HI0.out)) hb); clear hb hbox hg; have hnb25 := NB300_295.out; have hnc25 := NB295_300.out; have hnb26 := NB300_0.out; have hnc26 := NB0_300.out; obtain ⟨hcz27_0, hcz27_1, hfz27_0, hfz27_1⟩ := bz2 BK300) | ((with_reducible refine gate_callee (f := 43) rfl ?_); refine gl (some 7) rfl Tryz.func43 #[.pointer (some ⟨g, 0, none⟩), .int .i64 10] ?_; (with_reducible refine (spec_l1Below.calls g s0_0 t298 t299 10 t301 t302 t303 w0 _ ?side1 ?side2 A3.out).mono ?_); (case side1 => exact (by repeat (first | (with_reducible first | exact HI0.out | apply IsS78.alloc | apply IsS78.drewN | apply IsS78.drew | apply IsS78.set_1 | apply IsS78.set_2 | refine IsS78.far ?_ NB0_295.out _ | refine IsS78.far ?_ NB0_300.out _) | exact HI0.out))); (case side2 => exact (by repeat (first | (with_reducible first | exact HB.out | apply below_alloc | apply pw_below_drewN | apply below_drew1 | refine below_set ?_ (IsS78.ge HI0.out) | refine below_set ?_ GE295.out | refine below_set ?_ GE300.out) | exact HB.out))); rintro e w28 ⟨rfl, hi, hb, hk⟩; refine ⟨_, rfl, ?_⟩; have n0_ := Aside0.mk (KeepBut.blk hk (g' := gb295) (o := .cells #[.int .i64 0, .int .i64 0] 32 (0, 0)) bq NB295_0.out (by simp)); have n1_ := Aside0.mk (KeepBut.blk hk (g' := gb300) (o := .cells #[.int .i64 t296, .int .i64 t297] 32 (0, 0)) bq NB300_0.out (by simp)); have n2_ := Aside0.mk (KeepBut.trans (by repeat (first | (with_reducible first | exact HK.out | apply KeepBut.set_ | apply keep_drewN | apply keep_drew | apply keep_alloc | refine keep_far ?_ GW295.out _ | refine keep_far ?_ GW300.out _) | exact HK.out)) hk (.inl rfl)); have n3_ := Aside0.mk (hb); have n4_ := Aside0.mk (hi); clear BK295; clear BK300; clear HK; clear HB; clear HI0; have BK295 := n0_; have BK300 := n1_; have HK := n2_; have HB := n3_; have HI0 := n4_; clear n0_ n1_ n2_ n3_ n4_; (try clear hb); (try clear hb2); (try clear hk); (try clear hi)) | ((with_reducible refine gate_dst (N := 17) rfl ?_); refine Kd.R_lit (Kd.int .i64) _ 3 ?hg (N := 17) ?hd (xs := ([(-1001), (-1000), 1000, 1001] : List Int)) (inner := [.int .i64 (-1001), .int .i64 (-1000), .int .i64 1000, .int .i64 1001]) (ok := fun _ => True) (okp := fun _ => True) ?hr ?hp (fun _ hk => hk) trivial (Below.refl _ _) (Nat.le_refl _) (by simp) ?_; (case hd => rfl); (case hg => rfl); (case hr => first | (go_simp; done) | (go_simp; rfl)); (case hp => exact (Reps.one (show Kd.M (Kd.int .i64) _ _ _ (-1001) [.int .i64 (-1001)] from rfl) (Reps.one (show Kd.M (Kd.int .i64) _ _ _ (-1000) [.int .i64 (-1000)] from rfl) (Reps.one (show Kd.M (Kd.int .i64) _ _ _ 1000 [.int .i64 1000] from rfl) (Reps.one (show Kd.M (Kd.int .i64) _ _ _ 1001 [.int .i64 1001] from rfl) (Reps.none _ _)))))); intro v311 w29 ho30 hb hg_ hnew_; clear hg_ hnew_; (first | rw [← Ny310.out] at ho30 | (simp only [Int.reduceToNat] at ho30; rw [← Ny310.out] at ho30)); have HO312 := mk (Kd.R_lower ho30 (keep_size (w := w) (g := g) (row := none) (by repeat (first | (with_reducible first | exact HK.out | apply KeepBut.set_ | apply keep_drewN | apply keep_drew | apply keep_alloc | refine keep_far ?_ GW295.out _ | refine keep_far ?_ GW300.out _) | exact HK.out)))); replace BK295 := wb BK295 hb; replace BK300 := wb BK300 hb; replace HK := mk (KeepBut.trans (by repeat (first | (with_reducible first | exact HK.out | apply KeepBut.set_ | apply keep_drewN | apply keep_drew | apply keep_alloc | refine keep_far ?_ GW295.out _ | refine keep_far ?_ GW300.out _) | exact HK.out)) (KeepBut.of_below hb g none) (.inl rfl)); replace HB := mk (below_step (by repeat (first | (with_reducible first | exact HB.out | apply below_alloc | apply pw_below_drewN | apply below_drew1 | refine below_set ?_ (IsS78.ge HI0.out) | refine below_set ?_ GE295.out | refine below_set ?_ GE300.out) | exact HB.out)) hb); replace HI0 := mk (IsS78.below (by repeat (first | (with_reducible first | exact HI0.out | apply IsS78.alloc | apply IsS78.drewN | apply IsS78.drew | apply IsS78.set_1 | apply IsS78.set_2 | refine IsS78.far ?_ NB0_295.out _ | refine IsS78.far ?_ NB0_300.out _) | exact HI0.out)) hb); clear hb ho30; obtain ⟨Ao31, co31, eo31⟩ := Kd.R_slice HO312.out; subst eo31) | ((with_reducible refine gate_callee (f := 49) rfl ?_); refine gl (some 18) rfl Tryz.func49 #[.pointer (some ⟨g, 0, none⟩), .slice Ao31 y310.length co31] ?_; (with_reducible refine (spec_l1PickInt.calls g s0_0 t302 t303 _ _ y310 t313 t314 t315 w0 _ ?side1 ?side2 ?side3 ?side4 ?side5 A21.out).mono ?_); (case side1 => exact (by repeat (first | (with_reducible first | exact HI0.out | apply IsS78.alloc | apply IsS78.drewN | apply IsS78.drew | apply IsS78.set_1 | apply IsS78.set_2 | refine IsS78.far ?_ NB0_295.out _ | refine IsS78.far ?_ NB0_300.out _) | exact HI0.out))); (case side2 => exact (by repeat (first | (with_reducible first | exact HB.out | apply below_alloc | apply pw_below_drewN | apply below_drew1 | refine below_set ?_ (IsS78.ge HI0.out) | refine below_set ?_ GE295.out | refine below_set ?_ GE300.out) | exact HB.out))); (case side3 => exact uc (Kd.R_reads' HO312.out).2.2); (case side4 => exact (Kd.R_reads' HO312.out).2.1); (case side5 => exact far_slice (IsS78.own_ne HI0.out HO312.out (by decide))); rintro e w32 ⟨rfl, hi, hb, hk⟩; refine ⟨_, rfl, ?_⟩; replace BK295 := mk (KeepBut.blk hk (g' := gb295) (o := .cells #[.int .i64 0, .int .i64 0] 32 (0, 0)) (ub BK295.out) NB295_0.out (by simp)); replace BK300 := mk (KeepBut.blk hk (g' := gb300) (o := .cells #[.int .i64 t296, .int .i64 t297] 32 (0, 0)) (ub BK300.out) NB300_0.out (by simp)); replace HO312 := mk (Kd.R_mono (Kd.R_keep (IsS78.apart (show IsS78 w0 _ g s0_0 t302 t303 from by repeat (first | (with_reducible first | exact HI0.out | apply IsS78.alloc | apply IsS78.drewN | apply IsS78.drew | apply IsS78.set_1 | apply IsS78.set_2 | refine IsS78.far ?_ NB0_295.out _ | refine IsS78.far ?_ NB0_300.out _) | exact HI0.out)) (up HO312.out) (by decide)) hk (fun _ h => h.2)) (fun _ h => h.1)); replace HK := mk (KeepBut.trans (by repeat (first | (with_reducible first | exact HK.out | apply KeepBut.set_ | apply keep_drewN | apply keep_drew | apply keep_alloc | refine keep_far ?_ GW295.out _ | refine keep_far ?_ GW300.out _) | exact HK.out)) hk (.inl rfl)); replace HB := mk hb; replace HI0 := mk hi; (try clear hb); (try clear hb2); (try clear hk); (try clear hi); obtain ⟨hcz33_0, hcz33_1, hfz33_0, hfz33_1⟩ := bz2 BK300; have hnb34 := NB295_0.out; have hnc34 := NB0_295.out; obtain ⟨hcz35_0, hcz35_1, hfz35_0, hfz35_1⟩ := bz2 BK295))
   refine bodyPost_ret (results_cell_row rfl _ _ gb295 32 #[.int .i64 t296, .int .i64 t313] (0, 0) _ rfl bq Tryz.underlying32 rfl (by kernel_rfl)) rfl ?_
   exact ⟨by first | rfl | (simp [errW_none, errW_some] <;> rfl) | (simp [*, errW_none, errW_some] <;> rfl), by repeat (first | (with_reducible first | exact HI0.out | apply IsS78.alloc | apply IsS78.drewN | apply IsS78.drew | apply IsS78.set_1 | apply IsS78.set_2 | refine IsS78.far ?_ NB0_295.out _ | refine IsS78.far ?_ NB0_300.out _) | exact HI0.out), by repeat (first | (with_reducible first | exact HB.out | apply below_alloc | apply pw_below_drewN | apply below_drew1 | refine below_set ?_ (IsS78.ge HI0.out) | refine below_set ?_ GE295.out | refine below_set ?_ GE300.out) | exact HB.out), by repeat (first | (with_reducible first | exact HK.out | apply KeepBut.set_ | apply keep_drewN | apply keep_drew | apply keep_alloc | refine keep_far ?_ GW295.out _ | refine keep_far ?_ GW300.out _) | exact HK.out)⟩
  ·rw [if_neg c20] at H
   have c20b0 : (t301 == 1) = false := beq_eq_false_iff_ne.mpr c20
   have c20b1 : (t301 != 1) = true := bne_iff_ne.mpr c20
   simp only [Option.some.injEq, Prod.mk.injEq] at H
   obtain ⟨rfl, rfl, rfl, rfl⟩ := H
   go_enter Tryz.func35, Tryz.ntmps35
   go_wp2_with (first | ((with_reducible refine gate_dst (N := 2) rfl ?_); refine bx 2 #[.int .i64 0, .int .i64 0] 32 ?_; intro gb295 hg w36 hbox hb; replace HB := mk (below_step (by repeat (first | (with_reducible first | exact HB.out | apply below_alloc | apply pw_below_drewN | apply below_drew1 | refine below_set ?_ (IsS78.ge HI0.out)) | exact HB.out)) hb); have BK295 := mk hbox; have GW295 := mk ((by rw [hg]; exact (keep_size (w := w) (g := g) (row := none) (by repeat (first | (with_reducible first | exact HK.out | apply KeepBut.set_ | apply keep_drewN | apply keep_drew | apply keep_alloc) | exact HK.out))) : w.heap.size ≤ gb295)); have GE295 := mk ((Nat.le_trans HW0.out (by rw [hg]; exact (keep_size (w := w) (g := g) (row := none) (by repeat (first | (with_reducible first | exact HK.out | apply KeepBut.set_ | apply keep_drewN | apply keep_drew | apply keep_alloc) | exact HK.out))) : w.heap.size ≤ gb295) : w0.heap.size ≤ gb295)); replace HK := mk (KeepBut.trans (by repeat (first | (with_reducible first | exact HK.out | apply KeepBut.set_ | apply keep_drewN | apply keep_drew | apply keep_alloc) | exact HK.out)) (KeepBut.of_below hb g none) (.inl rfl)); have NB0_295 := mk ((by rw [hg]; exact Nat.ne_of_lt (IsS78.lt (show IsS78 w0 _ g s0_0 s0_1 s0_2 from by repeat (first | (with_reducible first | exact HI0.out | apply IsS78.alloc | apply IsS78.drewN | apply IsS78.drew | apply IsS78.set_1 | apply IsS78.set_2) | exact HI0.out))) : g ≠ gb295)); have NB295_0 := mk ((by rw [hg]; exact Nat.ne_of_gt (IsS78.lt (show IsS78 w0 _ g s0_0 s0_1 s0_2 from by repeat (first | (with_reducible first | exact HI0.out | apply IsS78.alloc | apply IsS78.drewN | apply IsS78.drew | apply IsS78.set_1 | apply IsS78.set_2) | exact HI0.out))) : gb295 ≠ g)); replace HI0 := mk (IsS78.below (by repeat (first | (with_reducible first | exact HI0.out | apply IsS78.alloc | apply IsS78.drewN | apply IsS78.drew | apply IsS78.set_1 | apply IsS78.set_2) | exact HI0.out)) hb); clear hb hbox hg) | ((with_reducible refine gate_callee (f := 57) rfl ?_); refine gl (some 5) rfl Tryz.func57 #[.pointer (some ⟨g, 0, none⟩)] ?_; (with_reducible refine (spec_l3Range.calls g s0_0 s0_1 s0_2 t296 t297 t298 t299 w0 _ ?side1 ?side2 A2.out).mono ?_); (case side1 => exact (by repeat (first | (with_reducible first | exact HI0.out | apply IsS78.alloc | apply IsS78.drewN | apply IsS78.drew | apply IsS78.set_1 | apply IsS78.set_2 | refine IsS78.far ?_ NB0_295.out _) | exact HI0.out))); (case side2 => exact (by repeat (first | (with_reducible first | exact HB.out | apply below_alloc | apply pw_below_drewN | apply below_drew1 | refine below_set ?_ (IsS78.ge HI0.out) | refine below_set ?_ GE295.out) | exact HB.out))); rintro e w37 ⟨rfl, hi, hb, hk⟩; refine ⟨_, rfl, ?_⟩; replace BK295 := mk (KeepBut.blk hk (g' := gb295) (o := .cells #[.int .i64 0, .int .i64 0] 32 (0, 0)) (ub BK295.out) NB295_0.out (by simp)); replace HK := mk (KeepBut.trans (by repeat (first | (with_reducible first | exact HK.out | apply KeepBut.set_ | apply keep_drewN | apply keep_drew | apply keep_alloc | refine keep_far ?_ GW295.out _) | exact HK.out)) hk (.inl rfl)); replace HB := mk hb; replace HI0 := mk hi; (try clear hb); (try clear hb2); (try clear hk); (try clear hi)) | ((with_reducible refine gate_dst (N := 3) rfl ?_); refine bx 3 #[.int .i64 0, .int .i64 0] 32 ?_; intro gb300 hg w38 hbox hb; replace HB := mk (below_step (by repeat (first | (with_reducible first | exact HB.out | apply below_alloc | apply pw_below_drewN | apply below_drew1 | refine below_set ?_ (IsS78.ge HI0.out) | refine below_set ?_ GE295.out) | exact HB.out)) hb); have BK300 := mk hbox; have GW300 := mk ((by rw [hg]; exact (keep_size (w := w) (g := g) (row := none) (by repeat (first | (with_reducible first | exact HK.out | apply KeepBut.set_ | apply keep_drewN | apply keep_drew | apply keep_alloc | refine keep_far ?_ GW295.out _) | exact HK.out))) : w.heap.size ≤ gb300)); have GE300 := mk ((Nat.le_trans HW0.out (by rw [hg]; exact (keep_size (w := w) (g := g) (row := none) (by repeat (first | (with_reducible first | exact HK.out | apply KeepBut.set_ | apply keep_drewN | apply keep_drew | apply keep_alloc | refine keep_far ?_ GW295.out _) | exact HK.out))) : w.heap.size ≤ gb300) : w0.heap.size ≤ gb300)); replace HK := mk (KeepBut.trans (by repeat (first | (with_reducible first | exact HK.out | apply KeepBut.set_ | apply keep_drewN | apply keep_drew | apply keep_alloc | refine keep_far ?_ GW295.out _) | exact HK.out)) (KeepBut.of_below hb g none) (.inl rfl)); have NB295_300 := nl BK295 hg; have NB300_295 := nr BK295 hg; replace BK295 := wb BK295 hb; have NB0_300 := mk ((by rw [hg]; exact Nat.ne_of_lt (IsS78.lt (show IsS78 w0 _ g s0_0 t298 t299 from by repeat (first | (with_reducible first | exact HI0.out | apply IsS78.alloc | apply IsS78.drewN | apply IsS78.drew | apply IsS78.set_1 | apply IsS78.set_2 | refine IsS78.far ?_ NB0_295.out _) | exact HI0.out))) : g ≠ gb300)); have NB300_0 := mk ((by rw [hg]; exact Nat.ne_of_gt (IsS78.lt (show IsS78 w0 _ g s0_0 t298 t299 from by repeat (first | (with_reducible first | exact HI0.out | apply IsS78.alloc | apply IsS78.drewN | apply IsS78.drew | apply IsS78.set_1 | apply IsS78.set_2 | refine IsS78.far ?_ NB0_295.out _) | exact HI0.out))) : gb300 ≠ g)); replace HI0 := mk (IsS78.below (by repeat (first | (with_reducible first | exact HI0.out | apply IsS78.alloc | apply IsS78.drewN | apply IsS78.drew | apply IsS78.set_1 | apply IsS78.set_2 | refine IsS78.far ?_ NB0_295.out _) | exact HI0.out)) hb); clear hb hbox hg; have hnb39 := NB300_295.out; have hnc39 := NB295_300.out; have hnb40 := NB300_0.out; have hnc40 := NB0_300.out; obtain ⟨hcz41_0, hcz41_1, hfz41_0, hfz41_1⟩ := bz2 BK300) | ((with_reducible refine gate_callee (f := 43) rfl ?_); refine gl (some 7) rfl Tryz.func43 #[.pointer (some ⟨g, 0, none⟩), .int .i64 10] ?_; (with_reducible refine (spec_l1Below.calls g s0_0 t298 t299 10 t301 t302 t303 w0 _ ?side1 ?side2 A3.out).mono ?_); (case side1 => exact (by repeat (first | (with_reducible first | exact HI0.out | apply IsS78.alloc | apply IsS78.drewN | apply IsS78.drew | apply IsS78.set_1 | apply IsS78.set_2 | refine IsS78.far ?_ NB0_295.out _ | refine IsS78.far ?_ NB0_300.out _) | exact HI0.out))); (case side2 => exact (by repeat (first | (with_reducible first | exact HB.out | apply below_alloc | apply pw_below_drewN | apply below_drew1 | refine below_set ?_ (IsS78.ge HI0.out) | refine below_set ?_ GE295.out | refine below_set ?_ GE300.out) | exact HB.out))); rintro e w42 ⟨rfl, hi, hb, hk⟩; refine ⟨_, rfl, ?_⟩; have n0_ := Aside0.mk (KeepBut.blk hk (g' := gb295) (o := .cells #[.int .i64 0, .int .i64 0] 32 (0, 0)) bq NB295_0.out (by simp)); have n1_ := Aside0.mk (KeepBut.blk hk (g' := gb300) (o := .cells #[.int .i64 t296, .int .i64 t297] 32 (0, 0)) bq NB300_0.out (by simp)); have n2_ := Aside0.mk (KeepBut.trans (by repeat (first | (with_reducible first | exact HK.out | apply KeepBut.set_ | apply keep_drewN | apply keep_drew | apply keep_alloc | refine keep_far ?_ GW295.out _ | refine keep_far ?_ GW300.out _) | exact HK.out)) hk (.inl rfl)); have n3_ := Aside0.mk (hb); have n4_ := Aside0.mk (hi); clear BK295; clear BK300; clear HK; clear HB; clear HI0; have BK295 := n0_; have BK300 := n1_; have HK := n2_; have HB := n3_; have HI0 := n4_; clear n0_ n1_ n2_ n3_ n4_; (try clear hb); (try clear hb2); (try clear hk); (try clear hi); obtain ⟨hcz43_0, hcz43_1, hfz43_0, hfz43_1⟩ := bz2 BK300; have hnb44 := NB295_0.out; have hnc44 := NB0_295.out; obtain ⟨hcz45_0, hcz45_1, hfz45_0, hfz45_1⟩ := bz2 BK295))
   refine bodyPost_ret (results_cell_row rfl _ _ gb295 32 #[.int .i64 t296, .int .i64 t297] (0, 0) _ rfl bq Tryz.underlying32 rfl (by kernel_rfl)) rfl ?_
   exact ⟨by first | rfl | (simp [errW_none, errW_some] <;> rfl) | (simp [*, errW_none, errW_some] <;> rfl), by repeat (first | (with_reducible first | exact HI0.out | apply IsS78.alloc | apply IsS78.drewN | apply IsS78.drew | apply IsS78.set_1 | apply IsS78.set_2 | refine IsS78.far ?_ NB0_295.out _ | refine IsS78.far ?_ NB0_300.out _) | exact HI0.out), by repeat (first | (with_reducible first | exact HB.out | apply below_alloc | apply pw_below_drewN | apply below_drew1 | refine below_set ?_ (IsS78.ge HI0.out) | refine below_set ?_ GE295.out | refine below_set ?_ GE300.out) | exact HB.out), by repeat (first | (with_reducible first | exact HK.out | apply KeepBut.set_ | apply keep_drewN | apply keep_drew | apply keep_alloc | refine keep_far ?_ GW295.out _ | refine keep_far ?_ GW300.out _) | exact HK.out)⟩

/-! ### spec_DrawFormatRange: function 8 -/
def spec_DrawFormatRange.f (k : Nat) (l0 : List Int) : Option (Int × Int) := (spec_l1New.f k l0).bind fun bt317 => ((spec_l3Any.f bt317.1 bt317.2.1 bt317.2.2).bind fun bt321 => (some (bt321.1, bt321.2.1)))
theorem spec_DrawFormatRange.mono : ∀ a0 k, LeO (spec_DrawFormatRange.f k a0) (spec_DrawFormatRange.f (k + 1) a0) := by
  intro a0 k
  unfold spec_DrawFormatRange.f
  exact mo
instance spec_DrawFormatRange.mi (a0 k) : LeC (spec_DrawFormatRange.f k a0) (spec_DrawFormatRange.f (k + 1) a0) := ⟨spec_DrawFormatRange.mono a0 k⟩
set_option maxHeartbeats 8000000 in
set_option maxRecDepth 100000 in
theorem spec_DrawFormatRange.calls (k : Nat) (A0 : Option Addr) (c0 : Nat) (l0 : List Int) (r1 : Int) (r2 : Int) (w : World) (hr0 : Kd.C (Kd.int .u8) w A0 l0.length l0) (hc0 : l0.length ≤ c0) (h : spec_DrawFormatRange.f k l0 = some (r1, r2)) :
    Calls Tryz.prog 8 #[.slice A0 l0.length c0] w fun e w' => e = .returned (.agg #[.int .i64 r1, .int .i64 r2]) ∧ Below w.heap.size w w' := by
  have hu32 := Tryz.underlying32
  have HR0 := Aside0.mk hr0
  have HC0 := Aside0.mk hc0
  clear hr0 hc0
  have HB := Aside0.mk (Below.refl w.heap.size w)
  have H : ((spec_l1New.f k l0).bind fun bt317 => ((spec_l3Any.f bt317.1 bt317.2.1 bt317.2.2).bind fun bt321 => (some (bt321.1, bt321.2.1)))) = some (r1, r2) := h
  clear h
  revert H; refine bo ?_; rintro ⟨t317, t318, t319⟩ A2 H
  dsimp only at H
  revert H; refine bo ?_; rintro ⟨t321, t322, t323, t324⟩ A3 H
  dsimp only at H
  simp only [Option.some.injEq, Prod.mk.injEq] at H
  obtain ⟨rfl, rfl⟩ := H
  go_enter Tryz.func8, Tryz.ntmps8
  go_wp2_with (first | ((with_reducible refine gate_dst (N := 2) rfl ?_); refine bx 2 #[.int .i64 0, .int .i64 0] 32 ?_; intro gb316 hg w4 hbox hb; have BK316 := mk hbox; have GW316 := wg hg; have GE316 := wg hg; replace HB := wh hb; clear hb hbox hg) | ((with_reducible refine gate_callee (f := 29) rfl ?_); refine gl (some 4) rfl Tryz.func29 #[.slice A0 l0.length c0] ?_; (with_reducible refine (spec_l1New.calls k _ _ l0 t317 t318 t319 w _ ?side1 ?side2 ?side3 A2.out).mono ?_); (case side1 => exact bl); (case side2 => exact HR0.out); (case side3 => exact HC0.out); rintro e w5 ⟨g320, rfl, hi, hb, hb2⟩; refine ⟨_, rfl, ?_⟩; replace HB := mk hb; have HI320 := mk hi; have NB320_316 := mk (IsS78.ne_blk hi (blk_below (g := gb316) (o := .cells #[.int .i64 0, .int .i64 0] 32 (0, 0)) (ub BK316.out) hb2) (by decide)); have NB316_320 := mk (Ne.symm (IsS78.ne_blk hi (blk_below (g := gb316) (o := .cells #[.int .i64 0, .int .i64 0] 32 (0, 0)) (ub BK316.out) hb2) (by decide))); replace BK316 := mk (blk_below (g := gb316) (o := .cells #[.int .i64 0, .int .i64 0] 32 (0, 0)) (ub BK316.out) hb2); (try clear hb); (try clear hb2); (try clear hk); (try clear hi)) | ((with_reducible refine gate_callee (f := 35) rfl ?_); refine gl (some 5) rfl Tryz.func35 #[.pointer (some ⟨g320, 0, none⟩)] ?_; (with_reducible refine (spec_l3Any.calls g320 t317 t318 t319 t321 t322 t323 t324 w _ ?side1 ?side2 A3.out).mono ?_); (case side1 => exact (by repeat (first | (with_reducible first | exact HI320.out | apply IsS78.alloc | apply IsS78.drewN | apply IsS78.drew | apply IsS78.set_1 | apply IsS78.set_2 | refine IsS78.far ?_ NB320_316.out _) | exact HI320.out))); (case side2 => exact (by repeat (first | (with_reducible first | exact HB.out | apply below_alloc | apply pw_below_drewN | apply below_drew1 | refine below_set ?_ (IsS78.ge HI320.out) | refine below_set ?_ GE316.out) | exact HB.out))); rintro e w6 ⟨rfl, hi, hb, hk⟩; refine ⟨_, rfl, ?_⟩; replace BK316 := mk (KeepBut.blk hk (g' := gb316) (o := .cells #[.int .i64 0, .int .i64 0] 32 (0, 0)) (ub BK316.out) NB316_320.out (by simp)); replace HB := mk hb; replace HI320 := mk hi; (try clear hb); (try clear hb2); (try clear hk); (try clear hi); have hnb7 := NB316_320.out; have hnc7 := NB320_316.out; obtain ⟨hcz8_0, hcz8_1, hfz8_0, hfz8_1⟩ := bz2 BK316))
  refine bodyPost_ret (results_cell_row rfl _ _ gb316 32 #[.int .i64 t321, .int .i64 t322] (0, 0) _ rfl bq Tryz.underlying32 rfl (by kernel_rfl)) rfl ?_
  exact ⟨by first | rfl | (simp [errW_none, errW_some] <;> rfl) | (simp [*, errW_none, errW_some] <;> rfl), by repeat (first | (with_reducible first | exact HB.out | apply below_alloc | apply pw_below_drewN | apply below_drew1 | refine below_set ?_ (IsS78.ge HI320.out) | refine below_set ?_ GE316.out) | exact HB.out)⟩

/-! ### impl_IsRange: function 37 -/
def impl_IsRange.f (a0_0 : Int) (a0_1 : Int) : Option (Bool) := if (-1000) ≤ a0_0 then (if a0_0 ≤ a0_1 then (some (decide (a0_1 ≤ 1000))) else (some false)) else (some false)
set_option maxHeartbeats 8000000 in
set_option maxRecDepth 100000 in
theorem impl_IsRange.calls (a0_0 : Int) (a0_1 : Int) (r : Bool) (w : World) (h : impl_IsRange.f a0_0 a0_1 = some r) :
    Calls Tryz.prog 37 #[.agg #[.int .i64 a0_0, .int .i64 a0_1]] w fun e w' => e = .returned (.bool r) ∧ Below w.heap.size w w' := by
  have hu32 := Tryz.underlying32
  have HB := Aside0.mk (Below.refl w.heap.size w)
  have H : (if (-1000) ≤ a0_0 then (if a0_0 ≤ a0_1 then (some (decide (a0_1 ≤ 1000))) else (some false)) else (some false)) = some r := h
  clear h
  by_cases c2 : (-1000) ≤ a0_0
  · rw [if_pos c2] at H
    have c2b0 : decide ((-1000) ≤ a0_0) = true := decide_eq_true c2
    clear c2
    by_cases c3 : a0_0 ≤ a0_1
    · rw [if_pos c3] at H
      have c3b0 : decide (a0_0 ≤ a0_1) = true := decide_eq_true c3
      clear c3
      obtain rfl := Option.some.inj H
      go_enter Tryz.func37, Tryz.ntmps37
      go_wp2_with (first | ((with_reducible refine gate_dst (N := 1) rfl ?_); refine bx 1 #[.int .i64 a0_0, .int .i64 a0_1] 32 ?_; intro gb325 hg w4 hbox hb; have BK325 := mk hbox; have GW325 := wg hg; have GE325 := wg hg; replace HB := wh hb; clear hb hbox hg; obtain ⟨hcz5_0, hcz5_1, hfz5_0, hfz5_1⟩ := bz2 BK325))
      go_ret
      exact ⟨by first | rfl | (simp [errW_none, errW_some] <;> rfl) | (simp [*, errW_none, errW_some] <;> rfl), bl⟩
    · rw [if_neg c3] at H
      have c3b0 : decide (a0_0 ≤ a0_1) = false := decide_eq_false c3
      clear c3
      obtain rfl := Option.some.inj H
      go_enter Tryz.func37, Tryz.ntmps37
      go_wp2_with (first | ((with_reducible refine gate_dst (N := 1) rfl ?_); refine bx 1 #[.int .i64 a0_0, .int .i64 a0_1] 32 ?_; intro gb325 hg w6 hbox hb; have BK325 := mk hbox; have GW325 := wg hg; have GE325 := wg hg; replace HB := wh hb; clear hb hbox hg; obtain ⟨hcz7_0, hcz7_1, hfz7_0, hfz7_1⟩ := bz2 BK325))
      go_ret
      exact ⟨by first | rfl | (simp [errW_none, errW_some] <;> rfl) | (simp [*, errW_none, errW_some] <;> rfl), bl⟩
  · rw [if_neg c2] at H
    have c2b0 : decide ((-1000) ≤ a0_0) = false := decide_eq_false c2
    clear c2
    obtain rfl := Option.some.inj H
    go_enter Tryz.func37, Tryz.ntmps37
    go_wp2_with (first | ((with_reducible refine gate_dst (N := 1) rfl ?_); refine bx 1 #[.int .i64 a0_0, .int .i64 a0_1] 32 ?_; intro gb325 hg w8 hbox hb; have BK325 := mk hbox; have GW325 := wg hg; have GE325 := wg hg; replace HB := wh hb; clear hb hbox hg; obtain ⟨hcz9_0, hcz9_1, hfz9_0, hfz9_1⟩ := bz2 BK325))
    go_ret
    exact ⟨by first | rfl | (simp [errW_none, errW_some] <;> rfl) | (simp [*, errW_none, errW_some] <;> rfl), bl⟩

/-! ### impl_FormatRange: function 10 -/
def impl_FormatRange.f (a0_0 : Int) (a0_1 : Int) : Option (ByteArray) := (impl_IsRange.f a0_0 a0_1).bind fun t327 => (if t327 = true then ((impl_FormatInt.f a0_0).bind fun t328 => (if t328.size + 2 ≤ 9223372036854775807 then ((impl_FormatInt.f a0_1).bind fun t329 => (if (t328 ++ (⟨#[46, 46]⟩ : ByteArray)).size + t329.size ≤ 9223372036854775807 then (some ((t328 ++ (⟨#[46, 46]⟩ : ByteArray)) ++ t329)) else (none))) else (none))) else (some (⟨#[]⟩ : ByteArray)))
def impl_FormatRange.T3 : Bool × List (List Nat × List Nat) := (true, [([], []), ([0], [0]), ([1], [1]), ([2], [2]), ([], []), ([4], [4]), ([5, 2], [5]), ([3, 6], [3, 6]), ([7, 6, 0, 1, 2, 3, 4, 5, 6, 7], [7])])
def impl_FormatRange.B3 : List Nat := [0, 1, 3, 7, 0, 16, 55, 127, 255]
theorem impl_FormatRange.tab3 : rtab .any (opsOf Tryz.f10 3) = impl_FormatRange.T3 := by kernel_rfl
theorem impl_FormatRange.bits3 : waitsOk impl_FormatRange.T3.2 impl_FormatRange.B3 = true := by kernel_rfl
set_option maxHeartbeats 8000000 in
set_option maxRecDepth 100000 in
theorem impl_FormatRange.calls (a0_0 : Int) (a0_1 : Int) (r : ByteArray) (w : World) (TB0 : Aside0 (TabOk w)) (h : impl_FormatRange.f a0_0 a0_1 = some r) :
    Calls Tryz.prog 10 #[.agg #[.int .i64 a0_0, .int .i64 a0_1]] w fun e w' => e = .returned (.string r) ∧ Below w.heap.size w w' := by
  have hu32 := Tryz.underlying32
  have HB := Aside0.mk (Below.refl w.heap.size w)
  have H : ((impl_IsRange.f a0_0 a0_1).bind fun t327 => (if t327 = true then ((impl_FormatInt.f a0_0).bind fun t328 => (if t328.size + 2 ≤ 9223372036854775807 then ((impl_FormatInt.f a0_1).bind fun t329 => (if (t328 ++ (⟨#[46, 46]⟩ : ByteArray)).size + t329.size ≤ 9223372036854775807 then (some ((t328 ++ (⟨#[46, 46]⟩ : ByteArray)) ++ t329)) else (none))) else (none))) else (some (⟨#[]⟩ : ByteArray)))) = some r := h
  clear h
  revert H; refine bo ?_; rintro t327 A2 H
  by_cases c3 : t327 = true
  · subst c3
    rw [if_pos rfl] at H
    revert H; refine bo ?_; rintro t328 A4 H
    by_cases c5 : t328.size + 2 ≤ 9223372036854775807
    · rw [if_pos c5] at H
      have c5b0 := eq_true c5
      have c5b1 : decide (t328.size + 2 ≤ 9223372036854775807) = true := decide_eq_true c5
      try have c5b2 : (9223372036854775807 < t328.size + 2) = False := eq_false (Nat.not_lt.2 c5)
      revert H; refine bo ?_; rintro t329 A6 H
      by_cases c7 : (t328 ++ (⟨#[46, 46]⟩ : ByteArray)).size + t329.size ≤ 9223372036854775807
      · rw [if_pos c7] at H
        have c7b0 := eq_true c7
        have c7b1 : decide ((t328 ++ (⟨#[46, 46]⟩ : ByteArray)).size + t329.size ≤ 9223372036854775807) = true := decide_eq_true c7
        try have c7b2 : (9223372036854775807 < (t328 ++ (⟨#[46, 46]⟩ : ByteArray)).size + t329.size) = False := eq_false (Nat.not_lt.2 c7)
        have c7b4 : (9223372036854775807 < t328.size + 2 + t329.size) = False := eq_false (by have h_ := c7; simp only [ByteArray.size_append, show (⟨#[46, 46]⟩ : ByteArray).size = 2 from rfl] at h_; omega)
        obtain rfl := Option.some.inj H
        go_enter Tryz.func10, Tryz.ntmps10
        try go_wp2_with (first | ((with_reducible refine gate_dst (N := 1) rfl ?_); refine bx 1 #[.int .i64 a0_0, .int .i64 a0_1] 32 ?_; intro gb326 hg w8 hbox hb; have BK326 := mk hbox; have GW326 := wg hg; have GE326 := wg hg; replace HB := wh hb; clear hb hbox hg; obtain ⟨hcz9_0, hcz9_1, hfz9_0, hfz9_1⟩ := bz2 BK326) | ((with_reducible refine gate_callee (f := 37) rfl ?_); refine gl (some 4) rfl Tryz.func37 #[.agg #[.int .i64 a0_0, .int .i64 a0_1]] ?_; (with_reducible refine (impl_IsRange.calls a0_0 a0_1 true _ A2.out).mono ?_); rintro e w10 ⟨rfl, hb⟩; refine ⟨_, rfl, ?_⟩; replace BK326 := wb BK326 hb; replace HB := wh hb; (try clear hb); (try clear hb2); (try clear hk); (try clear hi)))
        replace BK326 := wd BK326
        replace HB := mk (below_drew1 HB.out)
        refine start_ (n := 9) (S := fun w' => w'.cell? ⟨gb326, 0, none⟩ = some (.int .i64 a0_0) ∧ w'.cell? ⟨gb326, 1, none⟩ = some (.int .i64 a0_1)) (ds := []) #[false, false, false, false, false, false, false, false, false] (by kernel_rfl) rfl rfl ⟨bc BK326 0, bc BK326 1⟩ (fun hHeld => ?_); refine with_tabW impl_FormatRange.tab3 impl_FormatRange.bits3 (fun HT_ HW_ => ?_)
        generalize w10.drew = w11 at BK326 HB hHeld ⊢
        refine pu 0 6 (tf 1 8) ?_
        refine pu 4 10 #[T_,F_,F_,F_,T_,F_,F_,F_,F_] ?_
        refine tk 1 7 #[T_,T_,F_,F_,T_,F_,F_,F_,F_] hHeld ?_
        refine tk 5 11 #[T_,T_,F_,F_,T_,T_,F_,F_,F_] hHeld ?_
        refine on 2 8 #[T_,T_,T_,F_,T_,T_,F_,F_,F_] (fun K hK => ?_)
        refine gs Tryz.func38 #[.int .i64 a0_0] ?_
        with_reducible refine (impl_FormatInt.calls a0_0 t328 _ ?side1 A4.out).mono ?_
        (case side1 => exact ⟨TabOk.step TB0.out bl⟩)
        rintro e w12 ⟨rfl, hb⟩
        refine ⟨_, rfl, ?_⟩
        replace BK326 := wb BK326 hb
        replace HB := wh hb
        (try clear hb)
        (try clear hb2)
        (try clear hk)
        (try clear hi)
        refine hK.out _ _ ⟨bc BK326 0, bc BK326 1⟩ (fun hHeld => ?_)
        clear hK K
        refine nm 8 ?_
        refine pu 3 9 (tf 6 3) ?_
        refine on 6 12 (tf 7 2) (fun K hK => ?_)
        refine gs Tryz.func38 #[.int .i64 a0_1] ?_
        with_reducible refine (impl_FormatInt.calls a0_1 t329 _ ?side1 A6.out).mono ?_
        (case side1 => exact ⟨TabOk.step TB0.out bl⟩)
        rintro e w13 ⟨rfl, hb⟩
        refine ⟨_, rfl, ?_⟩
        replace BK326 := wb BK326 hb
        replace HB := wh hb
        (try clear hb)
        (try clear hb2)
        (try clear hk)
        (try clear hi)
        refine hK.out _ _ ⟨bc BK326 0, bc BK326 1⟩ (fun hHeld => ?_)
        clear hK K
        refine nm 12 ?_
        refine pu 7 13 (tf 8 1) ?_
        refine pu 8 2 (tf 9 0) ?_
        refine done_ (done_of HT_.out (by kernel_rfl)) ?_
        try go_wp2
        go_ret
        exact ⟨by first | rfl | (simp [errW_none, errW_some] <;> rfl) | (simp [*, errW_none, errW_some] <;> rfl), bl⟩
      · rw [if_neg c7] at H
        exact absurd H (by simp)
    · rw [if_neg c5] at H
      exact absurd H (by simp)
  · replace c3 := Bool.eq_false_iff.mpr c3
    subst c3
    rw [if_neg nf] at H
    obtain rfl := Option.some.inj H
    go_enter Tryz.func10, Tryz.ntmps10
    go_wp2_with (first | ((with_reducible refine gate_dst (N := 1) rfl ?_); refine bx 1 #[.int .i64 a0_0, .int .i64 a0_1] 32 ?_; intro gb326 hg w14 hbox hb; have BK326 := mk hbox; have GW326 := wg hg; have GE326 := wg hg; replace HB := wh hb; clear hb hbox hg; obtain ⟨hcz15_0, hcz15_1, hfz15_0, hfz15_1⟩ := bz2 BK326) | ((with_reducible refine gate_callee (f := 37) rfl ?_); refine gl (some 4) rfl Tryz.func37 #[.agg #[.int .i64 a0_0, .int .i64 a0_1]] ?_; (with_reducible refine (impl_IsRange.calls a0_0 a0_1 false _ A2.out).mono ?_); rintro e w16 ⟨rfl, hb⟩; refine ⟨_, rfl, ?_⟩; replace BK326 := wb BK326 hb; replace HB := wh hb; (try clear hb); (try clear hb2); (try clear hk); (try clear hi)))
    go_ret
    exact ⟨by first | rfl | (simp [errW_none, errW_some] <;> rfl) | (simp [*, errW_none, errW_some] <;> rfl), bl⟩

/-! ### strings_Cut: function 36 -/
def strings_Cut.f (a0 : ByteArray) (a1 : ByteArray) : Option (ByteArray × ByteArray × Bool) := if a0.size < 4294967281 then some (⟨(Go.Lib.cut a0.data.toList a1.data.toList).1.toArray⟩, ⟨(Go.Lib.cut a0.data.toList a1.data.toList).2.1.toArray⟩, (Go.Lib.cut a0.data.toList a1.data.toList).2.2) else none
set_option maxHeartbeats 8000000 in
set_option maxRecDepth 100000 in
theorem strings_Cut.calls (a0 : ByteArray) (a1 : ByteArray) (r1 : ByteArray) (r2 : ByteArray) (r3 : Bool) (w : World) (TB0 : Aside0 (TabOk w)) (h : strings_Cut.f a0 a1 = some (r1, r2, r3)) :
    Calls Tryz.prog 36 #[.string a0, .string a1] w fun e w' => e = .returned (.tuple #[.string r1, .string r2, .bool r3]) ∧ Below w.heap.size w w' := by
  unfold strings_Cut.f at h
  by_cases hb : a0.size < 4294967281
  · rw [if_pos hb] at h
    replace h := Option.some.inj h
    obtain ⟨h1, h2⟩ := Prod.mk.inj h
    obtain ⟨h3, h4⟩ := Prod.mk.inj h2
    subst h1 h3 h4
    refine (Go.Proofs.YtfjanffppobheaaGreatDoor.Sh.cut a0 a1 w TB0.out hb).mono ?_
    rintro e w' ⟨rfl, n, rfl⟩
    exact ⟨rfl, pw_below_drewN (Below.refl _ _) n⟩
  · rw [if_neg hb] at h
    exact absurd h (by simp)


/-! ### impl_ParseRange: function 9 -/
def impl_ParseRange.f (a0 : ByteArray) : Option (Int × Int × Bool) := (strings_Cut.f a0 (⟨#[46, 46]⟩ : ByteArray)).bind fun bt331 => ((impl_ParseInt.f bt331.1).bind fun bt334 => ((impl_ParseInt.f bt331.2.1).bind fun bt336 => (if a0.toList = ([] : List UInt8) then (some (0, 0, false)) else ((impl_FormatRange.f bt334.1 bt336.1).bind fun t339 => (if t339.toList = a0.toList then (some (bt334.1, bt336.1, true)) else (some (0, 0, false)))))))
set_option maxHeartbeats 8000000 in
set_option maxRecDepth 100000 in
theorem impl_ParseRange.calls (a0 : ByteArray) (r1 : Int) (r2 : Int) (r3 : Bool) (w : World) (TB0 : Aside0 (TabOk w)) (h : impl_ParseRange.f a0 = some (r1, r2, r3)) :
    Calls Tryz.prog 9 #[.string a0] w fun e w' => e = .returned (.tuple #[.agg #[.int .i64 r1, .int .i64 r2], .bool r3]) ∧ Below w.heap.size w w' := by
  have hu32 := Tryz.underlying32
  have HB := Aside0.mk (Below.refl w.heap.size w)
  have H : ((strings_Cut.f a0 (⟨#[46, 46]⟩ : ByteArray)).bind fun bt331 => ((impl_ParseInt.f bt331.1).bind fun bt334 => ((impl_ParseInt.f bt331.2.1).bind fun bt336 => (if a0.toList = ([] : List UInt8) then (some (0, 0, false)) else ((impl_FormatRange.f bt334.1 bt336.1).bind fun t339 => (if t339.toList = a0.toList then (some (bt334.1, bt336.1, true)) else (some (0, 0, false)))))))) = some (r1, r2, r3) := h
  clear h
  revert H; refine bo ?_; rintro ⟨t331, t332, t333⟩ A2 H
  dsimp only at H
  revert H; refine bo ?_; rintro ⟨t334, t335⟩ A3 H
  dsimp only at H
  revert H; refine bo ?_; rintro ⟨t336, t337⟩ A4 H
  dsimp only at H
  by_cases c5 : a0.toList = ([] : List UInt8)
  · rw [if_pos c5] at H
    have c5b0 : (a0.toList == ([] : List UInt8)) = true := beq_iff_eq.mpr c5
    have c5b1 : (a0.toList != ([] : List UInt8)) = false := bne_eq_false_iff_eq.mpr c5
    clear c5
    simp only [Option.some.injEq, Prod.mk.injEq] at H
    obtain ⟨rfl, rfl, rfl⟩ := H
    go_enter Tryz.func9, Tryz.ntmps9
    go_wp2_with (first | ((with_reducible refine gate_dst (N := 2) rfl ?_); refine bx 2 #[.int .i64 0, .int .i64 0] 32 ?_; intro gb330 hg w6 hbox hb; have BK330 := mk hbox; have GW330 := wg hg; have GE330 := wg hg; replace HB := wh hb; clear hb hbox hg) | ((with_reducible refine gate_callee (f := 36) rfl ?_); refine gl (some 14) rfl Tryz.func36 #[.string a0, .string (⟨#[46, 46]⟩ : ByteArray)] ?_; (with_reducible refine (strings_Cut.calls a0 (⟨#[46, 46]⟩ : ByteArray) t331 t332 t333 _ ?side1 A2.out).mono ?_); (case side1 => exact ⟨TabOk.step TB0.out bl⟩); rintro e w7 ⟨rfl, hb⟩; refine ⟨_, rfl, ?_⟩; replace BK330 := wb BK330 hb; replace HB := wh hb; (try clear hb); (try clear hb2); (try clear hk); (try clear hi)) | ((with_reducible refine gate_callee (f := 34) rfl ?_); refine gl (some 20) rfl Tryz.func34 #[.string t331] ?_; (with_reducible refine (impl_ParseInt.calls t331 t334 t335 _ ?side1 A3.out).mono ?_); (case side1 => exact ⟨TabOk.step TB0.out bl⟩); rintro e w8 ⟨rfl, hb⟩; refine ⟨_, rfl, ?_⟩; replace BK330 := wb BK330 hb; replace HB := wh hb; (try clear hb); (try clear hb2); (try clear hk); (try clear hi)) | ((with_reducible refine gate_callee (f := 34) rfl ?_); refine gl (some 25) rfl Tryz.func34 #[.string t332] ?_; (with_reducible refine (impl_ParseInt.calls t332 t336 t337 _ ?side1 A4.out).mono ?_); (case side1 => exact ⟨TabOk.step TB0.out bl⟩); rintro e w9 ⟨rfl, hb⟩; refine ⟨_, rfl, ?_⟩; replace BK330 := wb BK330 hb; replace HB := wh hb; (try clear hb); (try clear hb2); (try clear hk); (try clear hi)) | ((with_reducible refine gate_dst (N := 11) rfl ?_); refine bx 11 #[.int .i64 0, .int .i64 0] 32 ?_; intro gb338 hg w10 hbox hb; have BK338 := mk hbox; have GW338 := wg hg; have GE338 := wg hg; replace HB := wh hb; have NB330_338 := nl BK330 hg; have NB338_330 := nr BK330 hg; replace BK330 := wb BK330 hb; clear hb hbox hg; have hnb11 := NB338_330.out; have hnc11 := NB330_338.out; obtain ⟨hcz12_0, hcz12_1, hfz12_0, hfz12_1⟩ := bz2 BK338; obtain ⟨hcz13_0, hcz13_1, hfz13_0, hfz13_1⟩ := bz2 BK330))
    refine bodyPost_ret (results_ct rfl _ _ gb330 32 #[.int .i64 0, .int .i64 0] (0, 0) _ rfl bq Tryz.underlying32 rfl (by kernel_rfl)) rfl ?_
    exact ⟨by first | rfl | (simp [errW_none, errW_some] <;> rfl) | (simp [*, errW_none, errW_some] <;> rfl), bl⟩
  · rw [if_neg c5] at H
    have c5b0 : (a0.toList == ([] : List UInt8)) = false := beq_eq_false_iff_ne.mpr c5
    have c5b1 : (a0.toList != ([] : List UInt8)) = true := bne_iff_ne.mpr c5
    revert H; refine bo ?_; rintro t339 A14 H
    by_cases c15 : t339.toList = a0.toList
    · rw [if_pos c15] at H
      have c15b0 : (t339.toList == a0.toList) = true := beq_iff_eq.mpr c15
      have c15b1 : (t339.toList != a0.toList) = false := bne_eq_false_iff_eq.mpr c15
      clear c15
      simp only [Option.some.injEq, Prod.mk.injEq] at H
      obtain ⟨rfl, rfl, rfl⟩ := H
      go_enter Tryz.func9, Tryz.ntmps9
      go_wp2_with (first | ((with_reducible refine gate_dst (N := 2) rfl ?_); refine bx 2 #[.int .i64 0, .int .i64 0] 32 ?_; intro gb330 hg w16 hbox hb; have BK330 := mk hbox; have GW330 := wg hg; have GE330 := wg hg; replace HB := wh hb; clear hb hbox hg) | ((with_reducible refine gate_callee (f := 36) rfl ?_); refine gl (some 14) rfl Tryz.func36 #[.string a0, .string (⟨#[46, 46]⟩ : ByteArray)] ?_; (with_reducible refine (strings_Cut.calls a0 (⟨#[46, 46]⟩ : ByteArray) t331 t332 t333 _ ?side1 A2.out).mono ?_); (case side1 => exact ⟨TabOk.step TB0.out bl⟩); rintro e w17 ⟨rfl, hb⟩; refine ⟨_, rfl, ?_⟩; replace BK330 := wb BK330 hb; replace HB := wh hb; (try clear hb); (try clear hb2); (try clear hk); (try clear hi)) | ((with_reducible refine gate_callee (f := 34) rfl ?_); refine gl (some 20) rfl Tryz.func34 #[.string t331] ?_; (with_reducible refine (impl_ParseInt.calls t331 t334 t335 _ ?side1 A3.out).mono ?_); (case side1 => exact ⟨TabOk.step TB0.out bl⟩); rintro e w18 ⟨rfl, hb⟩; refine ⟨_, rfl, ?_⟩; replace BK330 := wb BK330 hb; replace HB := wh hb; (try clear hb); (try clear hb2); (try clear hk); (try clear hi)) | ((with_reducible refine gate_callee (f := 34) rfl ?_); refine gl (some 25) rfl Tryz.func34 #[.string t332] ?_; (with_reducible refine (impl_ParseInt.calls t332 t336 t337 _ ?side1 A4.out).mono ?_); (case side1 => exact ⟨TabOk.step TB0.out bl⟩); rintro e w19 ⟨rfl, hb⟩; refine ⟨_, rfl, ?_⟩; replace BK330 := wb BK330 hb; replace HB := wh hb; (try clear hb); (try clear hb2); (try clear hk); (try clear hi)) | ((with_reducible refine gate_dst (N := 11) rfl ?_); refine bx 11 #[.int .i64 0, .int .i64 0] 32 ?_; intro gb338 hg w20 hbox hb; have BK338 := mk hbox; have GW338 := wg hg; have GE338 := wg hg; replace HB := wh hb; have NB330_338 := nl BK330 hg; have NB338_330 := nr BK330 hg; replace BK330 := wb BK330 hb; clear hb hbox hg; have hnb21 := NB338_330.out; have hnc21 := NB330_338.out; obtain ⟨hcz22_0, hcz22_1, hfz22_0, hfz22_1⟩ := bz2 BK338) | (go_at_call 10; (with_reducible refine (impl_FormatRange.calls t334 t336 t339 _ ?side1 A14.out).mono ?_); (case side1 => exact ⟨TabOk.step TB0.out bl⟩); rintro e w23 ⟨rfl, hb⟩; replace BK330 := wx BK330 hb; replace BK338 := mk (blk_below (g := gb338) (o := .cells #[.int .i64 t334, .int .i64 t336] 32 (0, 0)) bq hb); replace HB := wh hb; (try clear hb); (try clear hb2); (try clear hk); (try clear hi); obtain ⟨hcz24_0, hcz24_1, hfz24_0, hfz24_1⟩ := bz2 BK338; obtain ⟨hcz25_0, hcz25_1, hfz25_0, hfz25_1⟩ := bz2 BK330))
      refine bodyPost_ret (results_ct rfl _ _ gb330 32 #[.int .i64 t334, .int .i64 t336] (0, 0) _ rfl bq Tryz.underlying32 rfl (by kernel_rfl)) rfl ?_
      exact ⟨by first | rfl | (simp [errW_none, errW_some] <;> rfl) | (simp [*, errW_none, errW_some] <;> rfl), bl⟩
    · rw [if_neg c15] at H
      have c15b0 : (t339.toList == a0.toList) = false := beq_eq_false_iff_ne.mpr c15
      have c15b1 : (t339.toList != a0.toList) = true := bne_iff_ne.mpr c15
      simp only [Option.some.injEq, Prod.mk.injEq] at H
      obtain ⟨rfl, rfl, rfl⟩ := H
      go_enter Tryz.func9, Tryz.ntmps9
      go_wp2_with (first | ((with_reducible refine gate_dst (N := 2) rfl ?_); refine bx 2 #[.int .i64 0, .int .i64 0] 32 ?_; intro gb330 hg w26 hbox hb; have BK330 := mk hbox; have GW330 := wg hg; have GE330 := wg hg; replace HB := wh hb; clear hb hbox hg) | ((with_reducible refine gate_callee (f := 36) rfl ?_); refine gl (some 14) rfl Tryz.func36 #[.string a0, .string (⟨#[46, 46]⟩ : ByteArray)] ?_; (with_reducible refine (strings_Cut.calls a0 (⟨#[46, 46]⟩ : ByteArray) t331 t332 t333 _ ?side1 A2.out).mono ?_); (case side1 => exact ⟨TabOk.step TB0.out bl⟩); rintro e w27 ⟨rfl, hb⟩; refine ⟨_, rfl, ?_⟩; replace BK330 := wb BK330 hb; replace HB := wh hb; (try clear hb); (try clear hb2); (try clear hk); (try clear hi)) | ((with_reducible refine gate_callee (f := 34) rfl ?_); refine gl (some 20) rfl Tryz.func34 #[.string t331] ?_; (with_reducible refine (impl_ParseInt.calls t331 t334 t335 _ ?side1 A3.out).mono ?_); (case side1 => exact ⟨TabOk.step TB0.out bl⟩); rintro e w28 ⟨rfl, hb⟩; refine ⟨_, rfl, ?_⟩; replace BK330 := wb BK330 hb; replace HB := wh hb; (try clear hb); (try clear hb2); (try clear hk); (try clear hi)) | ((with_reducible refine gate_callee (f := 34) rfl ?_); refine gl (some 25) rfl Tryz.func34 #[.string t332] ?_; (with_reducible refine (impl_ParseInt.calls t332 t336 t337 _ ?side1 A4.out).mono ?_); (case side1 => exact ⟨TabOk.step TB0.out bl⟩); rintro e w29 ⟨rfl, hb⟩; refine ⟨_, rfl, ?_⟩; replace BK330 := wb BK330 hb; replace HB := wh hb; (try clear hb); (try clear hb2); (try clear hk); (try clear hi)) | ((with_reducible refine gate_dst (N := 11) rfl ?_); refine bx 11 #[.int .i64 0, .int .i64 0] 32 ?_; intro gb338 hg w30 hbox hb; have BK338 := mk hbox; have GW338 := wg hg; have GE338 := wg hg; replace HB := wh hb; have NB330_338 := nl BK330 hg; have NB338_330 := nr BK330 hg; replace BK330 := wb BK330 hb; clear hb hbox hg; have hnb31 := NB338_330.out; have hnc31 := NB330_338.out; obtain ⟨hcz32_0, hcz32_1, hfz32_0, hfz32_1⟩ := bz2 BK338) | (go_at_call 10; (with_reducible refine (impl_FormatRange.calls t334 t336 t339 _ ?side1 A14.out).mono ?_); (case side1 => exact ⟨TabOk.step TB0.out bl⟩); rintro e w33 ⟨rfl, hb⟩; replace BK330 := wx BK330 hb; replace BK338 := mk (blk_below (g := gb338) (o := .cells #[.int .i64 t334, .int .i64 t336] 32 (0, 0)) bq hb); replace HB := wh hb; (try clear hb); (try clear hb2); (try clear hk); (try clear hi); obtain ⟨hcz34_0, hcz34_1, hfz34_0, hfz34_1⟩ := bz2 BK330))
      refine bodyPost_ret (results_ct rfl _ _ gb330 32 #[.int .i64 0, .int .i64 0] (0, 0) _ rfl bq Tryz.underlying32 rfl (by kernel_rfl)) rfl ?_
      exact ⟨by first | rfl | (simp [errW_none, errW_some] <;> rfl) | (simp [*, errW_none, errW_some] <;> rfl), bl⟩

/-! ### spec_l1In: function 40 -/
def spec_l1In.f (a0 : Int) (a1 : Int) (a2 : Int) : Option (Bool) := if a0 ≥ a1 then (some (decide (a0 ≤ a2))) else (some false)
set_option maxHeartbeats 8000000 in
set_option maxRecDepth 100000 in
theorem spec_l1In.calls (a0 : Int) (a1 : Int) (a2 : Int) (r : Bool) (w : World) (h : spec_l1In.f a0 a1 a2 = some r) :
    Calls Tryz.prog 40 #[.int .i64 a0, .int .i64 a1, .int .i64 a2] w fun e w' => e = .returned (.bool r) ∧ Drawn0 w w' := by
  have H : (if a0 ≥ a1 then (some (decide (a0 ≤ a2))) else (some false)) = some r := h
  clear h
  by_cases c4 : a0 ≥ a1
  · rw [if_pos c4] at H
    have c4b0 : decide (a1 ≤ a0) = true := decide_eq_true c4
    clear c4
    obtain rfl := Option.some.inj H
    go_enter Tryz.func40, Tryz.ntmps40
    go_wp2
    go_ret
    exact ⟨by first | rfl | (simp; done) | (simp [*]; done), by repeat (first | exact Drawn0.refl _ | apply Drawn0.step)⟩
  · rw [if_neg c4] at H
    have c4b0 : decide (a1 ≤ a0) = false := decide_eq_false c4
    clear c4
    obtain rfl := Option.some.inj H
    go_enter Tryz.func40, Tryz.ntmps40
    go_wp2
    go_ret
    exact ⟨by first | rfl | (simp; done) | (simp [*]; done), by repeat (first | exact Drawn0.refl _ | apply Drawn0.step)⟩

/-! ### spec_IsName: function 41 -/
def spec_IsName.l0 : Nat → ByteArray → Int → Option (Bool)
  | 0, _, _ => none
  | k + 1, x0, x3 => if x3 < (x0.size : Int) then (if 0 ≤ x3 then (if (bt x0 x3) < 97 then (some false) else (if (bt x0 x3) > 122 then (some false) else (spec_IsName.l0 k x0 (wrap64 (x3 + 1))))) else (none)) else ((spec_l1In.f (x0.size : Int) 1 8).bind fun t340 => (some t340))
def spec_IsName.f (k : Nat) (a0 : ByteArray) : Option (Bool) := spec_IsName.l0 k a0 0
theorem spec_IsName.mono_l : ∀ k, (∀ y0 y1, LeO (spec_IsName.l0 k y0 y1) (spec_IsName.l0 (k + 1) y0 y1))
  | 0 => fun _ _ r h => by simp [spec_IsName.l0] at h
  | k + 1 => by
    have ih0 := spec_IsName.mono_l k
    · intro y0 y1
      unfold spec_IsName.l0
      exact mo
theorem spec_IsName.mono : ∀ a0 k, LeO (spec_IsName.f k a0) (spec_IsName.f (k + 1) a0) := by
  intro a0 k
  have ih0 := spec_IsName.mono_l k
  unfold spec_IsName.f
  exact mo
instance spec_IsName.mi (a0 k) : LeC (spec_IsName.f k a0) (spec_IsName.f (k + 1) a0) := ⟨spec_IsName.mono a0 k⟩
set_option maxHeartbeats 8000000 in
set_option maxRecDepth 100000 in
theorem spec_IsName.calls (k : Nat) (a0 : ByteArray) (r : Bool) (w : World) (h : spec_IsName.f k a0 = some r) :
    Calls Tryz.prog 41 #[.string a0] w fun e w' => e = .returned (.bool r) ∧ Drawn0 w w' := by
  have H : (spec_IsName.l0 k a0 0) = some r := h
  clear h
  have H' := Aside0.mk H
  clear H
  go_enter Tryz.func41, Tryz.ntmps41
  go_wp2
  go_loopg [3] k (fun kq v3 w' => ∃ (x3_1 : Int), v3 = .int .i64 x3_1 ∧ Aside0 (spec_IsName.l0 kq a0 x3_1 = some r) ∧ Aside0 (kq ≤ k) ∧ Drawn0 w w')
  case atStart => exact ⟨(0), (by first | rfl | (simp; done) | (simp [*]; done)), H', ⟨Nat.le_refl _⟩, by repeat (first | exact Drawn0.refl _ | apply Drawn0.step)⟩
  case round =>
    clear H'
    obtain ⟨x3_1, rfl, HA, HK1, ⟨m1, rfl⟩⟩ := hrel
    cases gk with
    | zero => exact absurd HA.out (by simp [spec_IsName.l0])
    | succ k1 =>
      have H := HA.out
      clear HA
      simp only [spec_IsName.l0] at H
      by_cases c2 : x3_1 < (a0.size : Int)
      · rw [if_pos c2] at H
        have c2b0 : decide (x3_1 < (a0.size : Int)) = true := decide_eq_true c2
        clear c2
        by_cases c3 : 0 ≤ x3_1
        · rw [if_pos c3] at H
          have c3b0 : decide (0 ≤ x3_1) = true := decide_eq_true c3
          clear c3
          by_cases c5 : (bt a0 x3_1) < 97
          · rw [if_pos c5] at H
            have c5b0 : decide ((bt a0 x3_1) < 97) = true := decide_eq_true c5
            clear c5
            obtain rfl := Option.some.inj H
            have p4 : 0 ≤ (x3_1 : Int) := dt
            have q4 : x3_1 < (a0.size : Int) := dt
            have hx4 := bt_at a0 x3_1
            replace p4 := eq_true p4
            replace q4 := eq_true q4
            go_wp2
            go_ret
            exact ⟨by first | rfl | (simp; done) | (simp [*]; done), by repeat (first | exact Drawn0.refl _ | apply Drawn0.step)⟩
          · rw [if_neg c5] at H
            have c5b0 : decide ((bt a0 x3_1) < 97) = false := decide_eq_false c5
            clear c5
            by_cases c7 : (bt a0 x3_1) > 122
            · rw [if_pos c7] at H
              have c7b0 : decide (122 < (bt a0 x3_1)) = true := decide_eq_true c7
              clear c7
              obtain rfl := Option.some.inj H
              have p4 : 0 ≤ (x3_1 : Int) := dt
              have q4 : x3_1 < (a0.size : Int) := dt
              have hx4 := bt_at a0 x3_1
              replace p4 := eq_true p4
              replace q4 := eq_true q4
              have p6 : 0 ≤ (x3_1 : Int) := dt
              have q6 : x3_1 < (a0.size : Int) := dt
              have hx6 := bt_at a0 x3_1
              replace p6 := eq_true p6
              replace q6 := eq_true q6
              go_wp2
              go_ret
              exact ⟨by first | rfl | (simp; done) | (simp [*]; done), by repeat (first | exact Drawn0.refl _ | apply Drawn0.step)⟩
            · rw [if_neg c7] at H
              have c7b0 : decide (122 < (bt a0 x3_1)) = false := decide_eq_false c7
              clear c7
              have H' := Aside0.mk H
              clear H
              have p4 : 0 ≤ (x3_1 : Int) := dt
              have q4 : x3_1 < (a0.size : Int) := dt
              have hx4 := bt_at a0 x3_1
              replace p4 := eq_true p4
              replace q4 := eq_true q4
              have p6 : 0 ≤ (x3_1 : Int) := dt
              have q6 : x3_1 < (a0.size : Int) := dt
              have hx6 := bt_at a0 x3_1
              replace p6 := eq_true p6
              replace q6 := eq_true q6
              go_wp2
              go_roundg k1
              case measure => have := HK1.out; omega
              case rel => exact ⟨(wrap64 (x3_1 + 1)), (by first | rfl | (simp; done) | (simp [*]; done)), H', ⟨by have := HK1.out; omega⟩, by repeat (first | exact Drawn0.refl _ | apply Drawn0.step)⟩
        · rw [if_neg c3] at H
          exact absurd H (by simp)
      · rw [if_neg c2] at H
        have c2b0 : decide (x3_1 < (a0.size : Int)) = false := decide_eq_false c2
        clear c2
        revert H; refine bo ?_; rintro t340 A8 H
        obtain rfl := Option.some.inj H
        go_wp2_with (first | ((with_reducible refine gate_callee (f := 40) rfl ?_); refine gl (some 22) rfl Tryz.func40 #[.int .i64 (a0.size : Int), .int .i64 1, .int .i64 8] ?_; (with_reducible refine (spec_l1In.calls (a0.size : Int) 1 8 t340 _ A8.out).mono ?_); rintro e w' ⟨rfl, ⟨nd, rfl⟩⟩; refine ⟨_, rfl, ?_⟩))
        go_ret
        exact ⟨by first | rfl | (simp; done) | (simp [*]; done), by repeat (first | exact Drawn0.refl _ | apply Drawn0.step)⟩

/-! ### spec_AreValues: function 42 -/
def spec_AreValues.l0 : Nat → List Int → Int → Option (Bool)
  | 0, _, _ => none
  | k + 1, x0, x3 => if x3 < (x0.length : Int) then (if 0 ≤ x3 then ((spec_l1In.f (rd x0 x3) (-999) 999).bind fun t342 => (if t342 = true then (spec_AreValues.l0 k x0 (wrap64 (x3 + 1))) else (some false))) else (none)) else (some (decide ((x0.length : Int) ≤ 64)))
def spec_AreValues.f (k : Nat) (l0 : List Int) : Option (Bool) := spec_AreValues.l0 k l0 0
theorem spec_AreValues.mono_l : ∀ k, (∀ y0 y1, LeO (spec_AreValues.l0 k y0 y1) (spec_AreValues.l0 (k + 1) y0 y1))
  | 0 => fun _ _ r h => by simp [spec_AreValues.l0] at h
  | k + 1 => by
    have ih0 := spec_AreValues.mono_l k
    · intro y0 y1
      unfold spec_AreValues.l0
      exact mo
theorem spec_AreValues.mono : ∀ a0 k, LeO (spec_AreValues.f k a0) (spec_AreValues.f (k + 1) a0) := by
  intro a0 k
  have ih0 := spec_AreValues.mono_l k
  unfold spec_AreValues.f
  exact mo
instance spec_AreValues.mi (a0 k) : LeC (spec_AreValues.f k a0) (spec_AreValues.f (k + 1) a0) := ⟨spec_AreValues.mono a0 k⟩
set_option maxHeartbeats 8000000 in
set_option maxRecDepth 100000 in
theorem spec_AreValues.calls (k : Nat) (A0 : Option Addr) (c0 : Nat) (l0 : List Int) (r : Bool) (w : World) (hr0 : Kd.C (Kd.int .i64) w A0 l0.length l0) (hc0 : l0.length ≤ c0) (h : spec_AreValues.f k l0 = some r) :
    Calls Tryz.prog 42 #[.slice A0 l0.length c0] w fun e w' => e = .returned (.bool r) ∧ Drawn0 w w' := by
  have HR0 := Aside0.mk hr0
  have HC0 := Aside0.mk hc0
  clear hr0 hc0
  have H : (spec_AreValues.l0 k l0 0) = some r := h
  clear h
  have H' := Aside0.mk H
  clear H
  go_enter Tryz.func42, Tryz.ntmps42
  go_wp2
  go_loopg [3] k (fun kq v3 w' => ∃ (x3_1 : Int), v3 = .int .i64 x3_1 ∧ Aside0 (spec_AreValues.l0 kq l0 x3_1 = some r) ∧ Aside0 (kq ≤ k) ∧ Drawn0 w w')
  case atStart => exact ⟨(0), (by first | rfl | (simp; done) | (simp [*]; done)), H', ⟨Nat.le_refl _⟩, by repeat (first | exact Drawn0.refl _ | apply Drawn0.step)⟩
  case round =>
    clear H'
    obtain ⟨x3_1, rfl, HA, HK1, ⟨m1, rfl⟩⟩ := hrel
    cases gk with
    | zero => exact absurd HA.out (by simp [spec_AreValues.l0])
    | succ k1 =>
      have H := HA.out
      clear HA
      simp only [spec_AreValues.l0] at H
      by_cases c2 : x3_1 < (l0.length : Int)
      · rw [if_pos c2] at H
        have c2b0 : decide (x3_1 < (l0.length : Int)) = true := decide_eq_true c2
        clear c2
        by_cases c3 : 0 ≤ x3_1
        · rw [if_pos c3] at H
          have c3b0 : decide (0 ≤ x3_1) = true := decide_eq_true c3
          clear c3
          revert H; refine bo ?_; rintro t342 A4 H
          by_cases c5 : t342 = true
          · subst c5
            rw [if_pos rfl] at H
            have H' := Aside0.mk H
            clear H
            have p341 : 0 ≤ (x3_1 : Int) := dt
            have q341 : x3_1 < (l0.length : Int) := dt
            obtain ⟨ad341, e341, hx341_0⟩ := Kd.at_int HR0.out x3_1 p341 q341
            cases e341
            replace p341 := eq_true p341
            replace q341 := eq_true q341
            go_wp2_with (first | ((with_reducible refine gate_callee (f := 40) rfl ?_); refine gl (some 14) rfl Tryz.func40 #[.int .i64 (rd l0 x3_1), .int .i64 (-999), .int .i64 999] ?_; (with_reducible refine (spec_l1In.calls (rd l0 x3_1) (-999) 999 true _ A4.out).mono ?_); rintro e w' ⟨rfl, ⟨nd, rfl⟩⟩; refine ⟨_, rfl, ?_⟩))
            go_roundg k1
            case measure => have := HK1.out; omega
            case rel => exact ⟨(wrap64 (x3_1 + 1)), (by first | rfl | (simp; done) | (simp [*]; done)), H', ⟨by have := HK1.out; omega⟩, by repeat (first | exact Drawn0.refl _ | apply Drawn0.step)⟩
          · replace c5 := Bool.eq_false_iff.mpr c5
            subst c5
            rw [if_neg nf] at H
            obtain rfl := Option.some.inj H
            have p341 : 0 ≤ (x3_1 : Int) := dt
            have q341 : x3_1 < (l0.length : Int) := dt
            obtain ⟨ad341, e341, hx341_0⟩ := Kd.at_int HR0.out x3_1 p341 q341
            cases e341
            replace p341 := eq_true p341
            replace q341 := eq_true q341
            go_wp2_with (first | ((with_reducible refine gate_callee (f := 40) rfl ?_); refine gl (some 14) rfl Tryz.func40 #[.int .i64 (rd l0 x3_1), .int .i64 (-999), .int .i64 999] ?_; (with_reducible refine (spec_l1In.calls (rd l0 x3_1) (-999) 999 false _ A4.out).mono ?_); rintro e w' ⟨rfl, ⟨nd, rfl⟩⟩; refine ⟨_, rfl, ?_⟩))
            go_ret
            exact ⟨by first | rfl | (simp; done) | (simp [*]; done), by repeat (first | exact Drawn0.refl _ | apply Drawn0.step)⟩
        · rw [if_neg c3] at H
          exact absurd H (by simp)
      · rw [if_neg c2] at H
        have c2b0 : decide (x3_1 < (l0.length : Int)) = false := decide_eq_false c2
        clear c2
        obtain rfl := Option.some.inj H
        go_wp2
        go_ret
        exact ⟨by first | rfl | (simp; done) | (simp [*]; done), by repeat (first | exact Drawn0.refl _ | apply Drawn0.step)⟩

end Go.Proofs.YtfjanffppobheaaGreatDoor.PFnTexts
