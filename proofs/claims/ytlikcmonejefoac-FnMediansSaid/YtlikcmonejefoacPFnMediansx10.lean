-- printed by a program of this session, a turned copy of the print of the kit
import Derived.Test.YtlikcmonejefoacSq
import Derived.Test.YtlikcmonejefoacPFnMediansx0
import Derived.Test.YtlikcmonejefoacPFnMediansx2
import Derived.Test.YtlikcmonejefoacPFnMediansx3
import Derived.Test.YtlikcmonejefoacPFnMediansx5
import Derived.Test.YtlikcmonejefoacPFnMediansx6
import Derived.Test.YtlikcmonejefoacPFnMediansx7
import Derived.Test.YtlikcmonejefoacPFnMediansx8
import Derived.Test.YtlikcmonejefoacPFnMediansx9
namespace Go.Proofs.Ytlikcmonejefoac.PFnMedians
open Go.RowKit Go.Proofs.YtlikcmonejefoacW.PrintWords Go.Proofs.YtlikcmonejefoacW.PrintLast Go.Proofs.YtlikcmonejefoacW.PrintMore Go.Proofs.Ytlikcmonejefoac.Sq
attribute [local go_sem] max2_int min2_int max_two min_two max_three min_three max_four min_four Giv.cell_twice   -- for this text's walks alone
set_option linter.unusedVariables false
set_option linter.unusedSimpArgs false

/-! ### spec_CrackAt: function 76 -/
def spec_CrackAt.j0 : Nat → Int → Bool → List Int → List Int → List (S90) → Option (List Int × List Int × (List (S90)) × (List (S134)) × Bool)
 | 0, _, _, _, _, _ => none
 | k + 1, x1, x24, x326000, x326001, x326002 => if x24 = true then ((spec_l4Copy.f x326000 x326001 x326002).bind fun bt329 => (some (bt329.1, bt329.2.1, bt329.2.2, (([] : List (S134))), false))) else ((spec_FindPivot.f k x326000 x326001 x326002 x1).bind fun bt341 => (if bt341.2 = true then ((spec_l4Copy.f x326000 x326001 x326002).bind fun bt343 => (some (bt343.1, bt343.2.1, bt343.2.2, (([] : List (S134))), true))) else ((spec_PieceOf.f k x326000 x326001 x326002 x1).bind fun bt355 => ((spec_Partition.f k x326000 bt355.1 bt355.2 x1).bind fun bt357 => ((spec_ApplySwaps.f k x326000 x326001 x326002 bt357.1).bind fun bt361 => ((spec_AddPivot.f k bt361.1 bt361.2.1 bt361.2.2.1 x1 bt357.2).bind fun bt372 => (some (bt372.1, bt372.2.1, bt372.2.2.1, bt357.1, true))))))))
def spec_CrackAt.f (k : Nat) (l0_0 : List Int) (l0_1 : List Int) (l0_2 : List (S90)) (a1 : Int) : Option (List Int × List Int × (List (S90)) × (List (S134)) × Bool) := (spec_IsCracker.f k l0_0 l0_1 l0_2).bind fun t327 => (if t327 = true then ((spec_l1In.f a1 (-1000) 1000).bind fun t328 => (spec_CrackAt.j0 k a1 (!t328) l0_0 l0_1 l0_2)) else (spec_CrackAt.j0 k a1 true l0_0 l0_1 l0_2))
theorem spec_CrackAt.mono_l : ∀ k, (∀ y0 y1 y2 y3 y4, LeO (spec_CrackAt.j0 k y0 y1 y2 y3 y4) (spec_CrackAt.j0 (k + 1) y0 y1 y2 y3 y4))
 | 0 => fun _ _ _ _ _ r h => by simp [spec_CrackAt.j0] at h
 | k + 1 => by
  have ih0 := spec_CrackAt.mono_l k
  ·intro y0 y1 y2 y3 y4
   unfold spec_CrackAt.j0
   exact mo
theorem spec_CrackAt.mono : ∀ a0 a1 a2 a3 k, LeO (spec_CrackAt.f k a0 a1 a2 a3) (spec_CrackAt.f (k + 1) a0 a1 a2 a3) := by
 intro a0 a1 a2 a3 k
 have ih0 := spec_CrackAt.mono_l k
 unfold spec_CrackAt.f
 exact mo
instance spec_CrackAt.mi (a0 a1 a2 a3 k) : LeC (spec_CrackAt.f k a0 a1 a2 a3) (spec_CrackAt.f (k + 1) a0 a1 a2 a3) := ⟨spec_CrackAt.mono a0 a1 a2 a3 k⟩
set_option maxHeartbeats 8000000 in
set_option maxRecDepth 100000 in
theorem spec_CrackAt.calls (k : Nat) (A0_0 : Option Addr) (c0_0 : Nat) (l0_0 : List Int) (A0_1 : Option Addr) (c0_1 : Nat) (l0_1 : List Int) (A0_2 : Option Addr) (c0_2 : Nat) (l0_2 : List (S90)) (a1 : Int) (r1 : List Int) (r2 : List Int) (r3 : List (S90)) (r4 : List (S134)) (r5 : Bool) (w : World) (hr0_0 : Kd.C (Kd.int .i64) w A0_0 l0_0.length l0_0) (hc0_0 : l0_0.length ≤ c0_0) (hr0_1 : Kd.C (Kd.int .i64) w A0_1 l0_1.length l0_1) (hc0_1 : l0_1.length ≤ c0_1) (hr0_2 : Kd.C k90 w A0_2 l0_2.length l0_2) (hc0_2 : l0_2.length ≤ c0_2) (h : spec_CrackAt.f k l0_0 l0_1 l0_2 a1 = some (r1, r2, r3, r4, r5)) :
  Calls Try.prog 76 #[.agg #[.slice A0_0 l0_0.length c0_0, .slice A0_1 l0_1.length c0_1, .slice A0_2 l0_2.length c0_2], .int .i64 a1] w fun e w' => ∃ v0_ v1_ v2_ v3_ : Value, e = .returned (.tuple #[.agg #[v0_, v1_, v2_], v3_, .bool r5]) ∧ Kd.R (Kd.int .i64) 3 w' w.heap.size (fun k_ => some k_ ≠ (v1_ : Value).ownBlock) v0_ r1 ∧ Kd.R (Kd.int .i64) 3 w' w.heap.size (fun k_ => some k_ ≠ (v0_ : Value).ownBlock) v1_ r2 ∧ Kd.R k90 90 w' w.heap.size (fun _ => True) v2_ r3 ∧ Kd.R k134 134 w' w.heap.size (fun _ => True) v3_ r4 ∧ Below w.heap.size w w' := by
 have hu45 := Try.underlying45
 have hu90 := Try.underlying90
 have HR0_0 := Aside0.mk hr0_0
 have HC0_0 := Aside0.mk hc0_0
 clear hr0_0 hc0_0
 have HR0_1 := Aside0.mk hr0_1
 have HC0_1 := Aside0.mk hc0_1
 clear hr0_1 hc0_1
 have HR0_2 := Aside0.mk hr0_2
 have HC0_2 := Aside0.mk hc0_2
 clear hr0_2 hc0_2
 have HB := Aside0.mk (Below.refl w.heap.size w)
 have H : ((spec_IsCracker.f k l0_0 l0_1 l0_2).bind fun t327 => (if t327 = true then ((spec_l1In.f a1 (-1000) 1000).bind fun t328 => (spec_CrackAt.j0 k a1 (!t328) l0_0 l0_1 l0_2)) else (spec_CrackAt.j0 k a1 true l0_0 l0_1 l0_2))) = some (r1, r2, r3, r4, r5) := h
 clear h
 have HC3 := Aside0.mk H
 clear H
 go_enter Try.func76, Try.ntmps76
 go_upto_region 1 with (first | ((with_reducible refine gate_dst (N := 2) rfl ?_); refine bx 2 #[.slice A0_0 l0_0.length c0_0, .slice A0_1 l0_1.length c0_1, .slice A0_2 l0_2.length c0_2] 45 ?_; intro gb325 hg w4 hbox hb; have BK325 := mk hbox; have GW325 := wg hg; have GE325 := wg hg; replace HB := wh hb; clear hb hbox hg) | ((with_reducible refine gate_dst (N := 4) rfl ?_); refine bx 4 #[.slice none 0 0, .slice none 0 0, .slice none 0 0] 45 ?_; intro gb326 hg w5 hbox hb; have BK326 := mk hbox; have GW326 := wg hg; have GE326 := wg hg; replace HB := wh hb; have NB325_326 := nl BK325 hg; have NB326_325 := nr BK325 hg; replace BK325 := wb BK325 hb; clear hb hbox hg))
 (try simp only [Act.put, List.setIfInBounds_toArray, List.set_cons_zero, List.set_cons_succ])
 go_cut [24] (fun v24 wc => ∃ (kq : Nat) (x24_2 : Bool), v24 = .bool x24_2 ∧ Aside0 (spec_CrackAt.j0 kq a1 x24_2 l0_0 l0_1 l0_2 = some (r1, r2, r3, r4, r5)) ∧ Aside0 (kq ≤ k) ∧ Aside0 (wc.heap[gb325]? = some (.cells #[(.slice A0_0 l0_0.length c0_0), (.slice A0_1 l0_1.length c0_1), (.slice A0_2 l0_2.length c0_2)] 45 (0, 0))) ∧ Aside0 (wc.heap[gb326]? = some (.cells #[(.slice none 0 0), (.slice none 0 0), (.slice none 0 0)] 45 (0, 0))) ∧ Aside0 (Below w.heap.size w wc))
 case first =>
  have H := HC3.out
  clear HC3
  revert H; refine bo ?_; rintro t327 A6 H
  by_cases c7 : t327 = true
  ·subst c7
   rw [if_pos rfl] at H
   revert H; refine bo ?_; rintro t328 A8 H
   have H' := Aside0.mk H
   clear H
   have hnb9 := NB325_326.out
   have hnc9 := NB326_325.out
   obtain ⟨hcz10_0, hcz10_1, hcz10_2, hfz10_0, hfz10_1, hfz10_2⟩ := bz3 BK325
   go_wp2_with (first | ((with_reducible refine gate_callee (f := 47) rfl ?_); refine gl (some 18) rfl Try.func47 #[.agg #[.slice A0_0 l0_0.length c0_0, .slice A0_1 l0_1.length c0_1, .slice A0_2 l0_2.length c0_2]] ?_; (with_reducible refine (spec_IsCracker.calls k _ _ l0_0 _ _ l0_1 _ _ l0_2 true _ ?side1 ?side2 ?side3 ?side4 ?side5 ?side6 A6.out).mono ?_); (case side1 => exact uc (Kd.C_below HR0_0.out HB.out)); (case side2 => exact HC0_0.out); (case side3 => exact uc (Kd.C_below HR0_1.out HB.out)); (case side4 => exact HC0_1.out); (case side5 => exact uc (Kd.C_below HR0_2.out HB.out)); (case side6 => exact HC0_2.out); rintro e w11 ⟨rfl, hb⟩; refine ⟨_, rfl, ?_⟩; replace BK325 := wb BK325 hb; replace BK326 := wb BK326 hb; replace HB := wh hb; (try clear hb); (try clear hb2); (try clear hk); (try clear hi)) | (go_at_call 53; (with_reducible refine (spec_l1In.calls a1 (-1000) 1000 t328 _ A8.out).mono ?_); rintro e w' ⟨rfl, ⟨nd, rfl⟩⟩))
   go_meet
   case rel => exact ⟨_, (!t328), (by first | rfl | (simp; done) | (simp [*]; done)), H', ⟨by first | omega | exact Nat.le_refl _⟩, ⟨ub BK325.out⟩, ⟨ub BK326.out⟩, ⟨bl⟩⟩
  ·replace c7 := Bool.eq_false_iff.mpr c7
   subst c7
   rw [if_neg nf] at H
   have H' := Aside0.mk H
   clear H
   have hnb12 := NB325_326.out
   have hnc12 := NB326_325.out
   obtain ⟨hcz13_0, hcz13_1, hcz13_2, hfz13_0, hfz13_1, hfz13_2⟩ := bz3 BK325
   go_wp2_with (first | ((with_reducible refine gate_callee (f := 47) rfl ?_); refine gl (some 18) rfl Try.func47 #[.agg #[.slice A0_0 l0_0.length c0_0, .slice A0_1 l0_1.length c0_1, .slice A0_2 l0_2.length c0_2]] ?_; (with_reducible refine (spec_IsCracker.calls k _ _ l0_0 _ _ l0_1 _ _ l0_2 false _ ?side1 ?side2 ?side3 ?side4 ?side5 ?side6 A6.out).mono ?_); (case side1 => exact uc (Kd.C_below HR0_0.out HB.out)); (case side2 => exact HC0_0.out); (case side3 => exact uc (Kd.C_below HR0_1.out HB.out)); (case side4 => exact HC0_1.out); (case side5 => exact uc (Kd.C_below HR0_2.out HB.out)); (case side6 => exact HC0_2.out); rintro e w14 ⟨rfl, hb⟩; refine ⟨_, rfl, ?_⟩; replace BK325 := wb BK325 hb; replace BK326 := wb BK326 hb; replace HB := wh hb; (try clear hb); (try clear hb2); (try clear hk); (try clear hi)))
   go_meet
   case rel => exact ⟨_, (true), (by first | rfl | (simp; done) | (simp [*]; done)), H', ⟨by first | omega | exact Nat.le_refl _⟩, ⟨ub BK325.out⟩, ⟨ub BK326.out⟩, ⟨bl⟩⟩
 case rest =>
  clear HC3
  try clear c1
  try clear p2
  try clear c4
  try clear c7
  try clear c9
  try clear c12
  try clear hcz10_0
  try clear hcz10_1
  try clear hcz10_2
  try clear hcz13_0
  try clear hcz13_1
  try clear hcz13_2
  try clear hfz10_0
  try clear hfz10_1
  try clear hfz10_2
  try clear hfz13_0
  try clear hfz13_1
  try clear hfz13_2
  obtain ⟨kq, x24_2, rfl, HA, HJ2, BK325, BK326, HB⟩ := hcut
  cases kq with
  | zero => exact absurd HA.out (by simp [spec_CrackAt.j0])
  | succ kj2 =>
   have H := HA.out
   clear HA
   simp only [spec_CrackAt.j0] at H
   by_cases c15 : x24_2 = true
   ·subst c15
    rw [if_pos rfl] at H
    revert H; refine bo ?_; rintro ⟨t329, t332, t335⟩ A16 H
    dsimp only at H
    obtain ⟨y338, hy338⟩ : ∃ y_ : List (S134), y_ = (([] : List (S134))) := ⟨_, rfl⟩
    replace H : (some (t329, t332, t335, y338, false)) = some (r1, r2, r3, r4, r5) := by first | (rw [hy338]; with_reducible exact H) | (have H2_ := (Option.bind_some _ _).symm.trans H; rw [hy338]; with_reducible exact H2_) | (have H2_ := (Option.bind_some _ _).symm.trans H; with_reducible exact H2_) | with_reducible exact H | (rw [hy338]; exact H) | exact H
    have Ny338 := Aside0.mk hy338
    clear hy338
    simp only [Option.some.injEq, Prod.mk.injEq] at H
    obtain ⟨rfl, rfl, rfl, rfl, rfl⟩ := H
    have hnb17 := NB325_326.out
    have hnc17 := NB326_325.out
    obtain ⟨hcz18_0, hcz18_1, hcz18_2, hfz18_0, hfz18_1, hfz18_2⟩ := bz3 BK325
    go_wp2_with (first | ((with_reducible refine gate_callee (f := 92) rfl ?_); refine gl (some 26) rfl Try.func92 #[.agg #[.slice A0_0 l0_0.length c0_0, .slice A0_1 l0_1.length c0_1, .slice A0_2 l0_2.length c0_2]] ?_; (with_reducible refine (spec_l4Copy.calls _ _ l0_0 _ _ l0_1 _ _ l0_2 t329 t332 t335 _ ?side1 ?side2 ?side3 ?side4 ?side5 ?side6 A16.out).mono ?_); (case side1 => exact uc (Kd.C_below HR0_0.out HB.out)); (case side2 => exact HC0_0.out); (case side3 => exact uc (Kd.C_below HR0_1.out HB.out)); (case side4 => exact HC0_1.out); (case side5 => exact uc (Kd.C_below HR0_2.out HB.out)); (case side6 => exact HC0_2.out); rintro e w19 ⟨v330, v333, v336, rfl, ho0, ho1, ho2, hb⟩; refine ⟨_, rfl, ?_⟩; have HO331 := mk (Kd.R_lower ho0 (below_size bl)); have HO334 := mk (Kd.R_lower ho1 (below_size bl)); have HO337 := mk (Kd.R_lower ho2 (below_size bl)); replace BK325 := wb BK325 hb; replace BK326 := wb BK326 hb; replace HB := wh hb; (try clear hb); (try clear hb2); (try clear hk); (try clear hi); (try clear ho0); (try clear ho1); (try clear ho2)) | ((with_reducible refine gate_dst (N := 27) rfl ?_); refine Kd.R_lit k134 _ 134 ?hg (N := 27) ?hd (xs := ([] : List (S134))) (inner := []) (ok := fun _ => True) (okp := fun _ => True) ?hr ?hp (fun _ hk => hk) trivial (Below.refl _ _) (Nat.le_refl _) (by simp) ?_; (case hd => rfl); (case hg => rfl); (case hr => first | (go_simp; done) | (go_simp; rfl)); (case hp => exact (Reps.none _ _)); intro v339 w20 ho21 hb hg_ hnew_; clear hg_ hnew_; (first | rw [← Ny338.out] at ho21 | (simp only [Int.reduceToNat] at ho21; rw [← Ny338.out] at ho21)); replace HO331 := mk (Kd.R_below (up HO331.out) hb); replace HO334 := mk (Kd.R_below (up HO334.out) hb); replace HO337 := mk (Kd.R_below (up HO337.out) hb); have HO340 := mk (Kd.R_lower ho21 (below_size bl)); replace BK325 := wb BK325 hb; replace BK326 := wb BK326 hb; replace HB := wh hb; clear hb ho21; obtain ⟨Ao22, co22, eo22⟩ := Kd.R_slice HO331.out; subst eo22; obtain ⟨hcz23_0, hcz23_1, hcz23_2, hfz23_0, hfz23_1, hfz23_2⟩ := bz3 BK326; obtain ⟨Ao24, co24, eo24⟩ := Kd.R_slice HO334.out; subst eo24; obtain ⟨Ao25, co25, eo25⟩ := Kd.R_slice HO337.out; subst eo25))
    refine bodyPost_ret (results_ctt rfl _ _ gb326 45 #[.slice Ao22 t329.length co22, .slice Ao24 t332.length co24, .slice Ao25 t335.length co25] (0, 0) _ rfl bq Try.underlying45 rfl (by kernel_rfl)) rfl ?_
    exact ⟨_, _, _, _, by first | rfl | (simp [errW_none, errW_some] <;> rfl) | (simp [*, errW_none, errW_some] <;> rfl), (by exact rm (rs1 HO331 BK326)), (by exact rm (rs1 HO334 BK326)), (by exact rm (rs1 HO337 BK326)), (by exact rm (rs1 HO340 BK326)), bl⟩
   ·replace c15 := Bool.eq_false_iff.mpr c15
    subst c15
    rw [if_neg nf] at H
    revert H; refine bo ?_; rintro ⟨t341, t342⟩ A26 H
    dsimp only at H
    by_cases c27 : t342 = true
    ·subst c27
     rw [if_pos rfl] at H
     revert H; refine bo ?_; rintro ⟨t343, t346, t349⟩ A28 H
     dsimp only at H
     obtain ⟨y352, hy352⟩ : ∃ y_ : List (S134), y_ = (([] : List (S134))) := ⟨_, rfl⟩
     replace H : (some (t343, t346, t349, y352, true)) = some (r1, r2, r3, r4, r5) := by first | (rw [hy352]; with_reducible exact H) | (have H2_ := (Option.bind_some _ _).symm.trans H; rw [hy352]; with_reducible exact H2_) | (have H2_ := (Option.bind_some _ _).symm.trans H; with_reducible exact H2_) | with_reducible exact H | (rw [hy352]; exact H) | exact H
     have Ny352 := Aside0.mk hy352
     clear hy352
     simp only [Option.some.injEq, Prod.mk.injEq] at H
     obtain ⟨rfl, rfl, rfl, rfl, rfl⟩ := H
     have hnb29 := NB325_326.out
     have hnc29 := NB326_325.out
     obtain ⟨hcz30_0, hcz30_1, hcz30_2, hfz30_0, hfz30_1, hfz30_2⟩ := bz3 BK325
     go_wp2_with (first | ((with_reducible refine gate_callee (f := 93) rfl ?_); refine gl (some 31) rfl Try.func93 #[.agg #[.slice A0_0 l0_0.length c0_0, .slice A0_1 l0_1.length c0_1, .slice A0_2 l0_2.length c0_2], .int .i64 a1] ?_; (with_reducible refine (spec_FindPivot.calls kj2 _ _ l0_0 _ _ l0_1 _ _ l0_2 a1 t341 true _ ?side1 ?side2 ?side3 ?side4 ?side5 ?side6 A26.out).mono ?_); (case side1 => exact uc (Kd.C_below HR0_0.out HB.out)); (case side2 => exact HC0_0.out); (case side3 => exact uc (Kd.C_below HR0_1.out HB.out)); (case side4 => exact HC0_1.out); (case side5 => exact uc (Kd.C_below HR0_2.out HB.out)); (case side6 => exact HC0_2.out); rintro e w31 ⟨rfl, hb⟩; refine ⟨_, rfl, ?_⟩; replace BK325 := wb BK325 hb; replace BK326 := wb BK326 hb; replace HB := wh hb; (try clear hb); (try clear hb2); (try clear hk); (try clear hi); obtain ⟨hcz32_0, hcz32_1, hcz32_2, hfz32_0, hfz32_1, hfz32_2⟩ := bz3 BK325) | ((with_reducible refine gate_callee (f := 92) rfl ?_); refine gl (some 36) rfl Try.func92 #[.agg #[.slice A0_0 l0_0.length c0_0, .slice A0_1 l0_1.length c0_1, .slice A0_2 l0_2.length c0_2]] ?_; (with_reducible refine (spec_l4Copy.calls _ _ l0_0 _ _ l0_1 _ _ l0_2 t343 t346 t349 _ ?side1 ?side2 ?side3 ?side4 ?side5 ?side6 A28.out).mono ?_); (case side1 => exact uc (Kd.C_below HR0_0.out HB.out)); (case side2 => exact HC0_0.out); (case side3 => exact uc (Kd.C_below HR0_1.out HB.out)); (case side4 => exact HC0_1.out); (case side5 => exact uc (Kd.C_below HR0_2.out HB.out)); (case side6 => exact HC0_2.out); rintro e w33 ⟨v344, v347, v350, rfl, ho0, ho1, ho2, hb⟩; refine ⟨_, rfl, ?_⟩; have HO345 := mk (Kd.R_lower ho0 (below_size bl)); have HO348 := mk (Kd.R_lower ho1 (below_size bl)); have HO351 := mk (Kd.R_lower ho2 (below_size bl)); replace BK325 := wb BK325 hb; replace BK326 := wb BK326 hb; replace HB := wh hb; (try clear hb); (try clear hb2); (try clear hk); (try clear hi); (try clear ho0); (try clear ho1); (try clear ho2)) | ((with_reducible refine gate_dst (N := 37) rfl ?_); refine Kd.R_lit k134 _ 134 ?hg (N := 37) ?hd (xs := ([] : List (S134))) (inner := []) (ok := fun _ => True) (okp := fun _ => True) ?hr ?hp (fun _ hk => hk) trivial (Below.refl _ _) (Nat.le_refl _) (by simp) ?_; (case hd => rfl); (case hg => rfl); (case hr => first | (go_simp; done) | (go_simp; rfl)); (case hp => exact (Reps.none _ _)); intro v353 w34 ho35 hb hg_ hnew_; clear hg_ hnew_; (first | rw [← Ny352.out] at ho35 | (simp only [Int.reduceToNat] at ho35; rw [← Ny352.out] at ho35)); replace HO345 := mk (Kd.R_below (up HO345.out) hb); replace HO348 := mk (Kd.R_below (up HO348.out) hb); replace HO351 := mk (Kd.R_below (up HO351.out) hb); have HO354 := mk (Kd.R_lower ho35 (below_size bl)); replace BK325 := wb BK325 hb; replace BK326 := wb BK326 hb; replace HB := wh hb; clear hb ho35; obtain ⟨Ao36, co36, eo36⟩ := Kd.R_slice HO345.out; subst eo36; obtain ⟨hcz37_0, hcz37_1, hcz37_2, hfz37_0, hfz37_1, hfz37_2⟩ := bz3 BK326; obtain ⟨Ao38, co38, eo38⟩ := Kd.R_slice HO348.out; subst eo38; obtain ⟨Ao39, co39, eo39⟩ := Kd.R_slice HO351.out; subst eo39))
     refine bodyPost_ret (results_ctt rfl _ _ gb326 45 #[.slice Ao36 t343.length co36, .slice Ao38 t346.length co38, .slice Ao39 t349.length co39] (0, 0) _ rfl bq Try.underlying45 rfl (by kernel_rfl)) rfl ?_
     exact ⟨_, _, _, _, by first | rfl | (simp [errW_none, errW_some] <;> rfl) | (simp [*, errW_none, errW_some] <;> rfl), (by exact rm (rs1 HO345 BK326)), (by exact rm (rs1 HO348 BK326)), (by exact rm (rs1 HO351 BK326)), (by exact rm (rs1 HO354 BK326)), bl⟩
    ·replace c27 := Bool.eq_false_iff.mpr c27
     subst c27
     rw [if_neg nf] at H
     revert H; refine bo ?_; rintro ⟨t355, t356⟩ A40 H
     dsimp only at H
     revert H; refine bo ?_; rintro ⟨t357, t358⟩ A41 H
     dsimp only at H
     revert H; refine bo ?_; rintro ⟨t361, t364, t367, t370⟩ A42 H
     dsimp only at H
     revert H; refine bo ?_; rintro ⟨t372, t375, t378, t381⟩ A43 H
     dsimp only at H
     simp only [Option.some.injEq, Prod.mk.injEq] at H
     obtain ⟨rfl, rfl, rfl, rfl, rfl⟩ := H
     have hnb44 := NB325_326.out
     have hnc44 := NB326_325.out
     obtain ⟨hcz45_0, hcz45_1, hcz45_2, hfz45_0, hfz45_1, hfz45_2⟩ := bz3 BK325
     go_wp2_with (first | ((with_reducible refine gate_callee (f := 93) rfl ?_); refine gl (some 31) rfl Try.func93 #[.agg #[.slice A0_0 l0_0.length c0_0, .slice A0_1 l0_1.length c0_1, .slice A0_2 l0_2.length c0_2], .int .i64 a1] ?_; (with_reducible refine (spec_FindPivot.calls kj2 _ _ l0_0 _ _ l0_1 _ _ l0_2 a1 t341 false _ ?side1 ?side2 ?side3 ?side4 ?side5 ?side6 A26.out).mono ?_); (case side1 => exact uc (Kd.C_below HR0_0.out HB.out)); (case side2 => exact HC0_0.out); (case side3 => exact uc (Kd.C_below HR0_1.out HB.out)); (case side4 => exact HC0_1.out); (case side5 => exact uc (Kd.C_below HR0_2.out HB.out)); (case side6 => exact HC0_2.out); rintro e w46 ⟨rfl, hb⟩; refine ⟨_, rfl, ?_⟩; replace BK325 := wb BK325 hb; replace BK326 := wb BK326 hb; replace HB := wh hb; (try clear hb); (try clear hb2); (try clear hk); (try clear hi); obtain ⟨hcz47_0, hcz47_1, hcz47_2, hfz47_0, hfz47_1, hfz47_2⟩ := bz3 BK325) | ((with_reducible refine gate_callee (f := 94) rfl ?_); refine gl (some 41) rfl Try.func94 #[.agg #[.slice A0_0 l0_0.length c0_0, .slice A0_1 l0_1.length c0_1, .slice A0_2 l0_2.length c0_2], .int .i64 a1] ?_; (with_reducible refine (spec_PieceOf.calls kj2 _ _ l0_0 _ _ l0_1 _ _ l0_2 a1 t355 t356 _ ?side1 ?side2 ?side3 ?side4 ?side5 ?side6 A40.out).mono ?_); (case side1 => exact uc (Kd.C_below HR0_0.out HB.out)); (case side2 => exact HC0_0.out); (case side3 => exact uc (Kd.C_below HR0_1.out HB.out)); (case side4 => exact HC0_1.out); (case side5 => exact uc (Kd.C_below HR0_2.out HB.out)); (case side6 => exact HC0_2.out); rintro e w48 ⟨rfl, hb⟩; refine ⟨_, rfl, ?_⟩; replace BK325 := wb BK325 hb; replace BK326 := wb BK326 hb; replace HB := wh hb; (try clear hb); (try clear hb2); (try clear hk); (try clear hi); obtain ⟨hcz49_0, hcz49_1, hcz49_2, hfz49_0, hfz49_1, hfz49_2⟩ := bz3 BK325) | ((with_reducible refine gate_callee (f := 95) rfl ?_); refine gl (some 50) rfl Try.func95 #[.slice A0_0 l0_0.length c0_0, .int .i64 t355, .int .i64 t356, .int .i64 a1] ?_; (with_reducible refine (spec_Partition.calls kj2 _ _ l0_0 t355 t356 a1 t357 t358 _ ?side1 ?side2 A41.out).mono ?_); (case side1 => exact uc (Kd.C_below HR0_0.out HB.out)); (case side2 => exact HC0_0.out); rintro e w50 ⟨v359, rfl, ho0, hb⟩; refine ⟨_, rfl, ?_⟩; have HO360 := mk (Kd.R_lower ho0 (below_size bl)); replace BK325 := wb BK325 hb; replace BK326 := wb BK326 hb; replace HB := wh hb; (try clear hb); (try clear hb2); (try clear hk); (try clear hi); (try clear ho0); obtain ⟨hcz51_0, hcz51_1, hcz51_2, hfz51_0, hfz51_1, hfz51_2⟩ := bz3 BK325; obtain ⟨Ao52, co52, eo52⟩ := Kd.R_slice HO360.out; subst eo52) | ((with_reducible refine gate_callee (f := 96) rfl ?_); refine gl (some 56) rfl Try.func96 #[.agg #[.slice A0_0 l0_0.length c0_0, .slice A0_1 l0_1.length c0_1, .slice A0_2 l0_2.length c0_2], .slice Ao52 t357.length co52] ?_; (with_reducible refine (spec_ApplySwaps.calls kj2 _ _ l0_0 _ _ l0_1 _ _ l0_2 _ _ t357 t361 t364 t367 t370 _ ?side1 ?side2 ?side3 ?side4 ?side5 ?side6 ?side7 ?side8 A42.out).mono ?_); (case side1 => exact uc (Kd.C_below HR0_0.out HB.out)); (case side2 => exact HC0_0.out); (case side3 => exact uc (Kd.C_below HR0_1.out HB.out)); (case side4 => exact HC0_1.out); (case side5 => exact uc (Kd.C_below HR0_2.out HB.out)); (case side6 => exact HC0_2.out); (case side7 => exact uc (Kd.R_reads' HO360.out).2.2); (case side8 => exact (Kd.R_reads' HO360.out).2.1); rintro e w53 ⟨v362, v365, v368, rfl, ho0, ho1, ho2, hb⟩; refine ⟨_, rfl, ?_⟩; replace HO360 := mk (Kd.R_below (up HO360.out) hb); have HO363 := mk (Kd.R_lower ho0 (below_size bl)); have HO366 := mk (Kd.R_lower ho1 (below_size bl)); have HO369 := mk (Kd.R_lower ho2 (below_size bl)); replace BK325 := wb BK325 hb; replace BK326 := wb BK326 hb; replace HB := wh hb; (try clear hb); (try clear hb2); (try clear hk); (try clear hi); (try clear ho0); (try clear ho1); (try clear ho2)) | ((with_reducible refine gate_dst (N := 13) rfl ?_); refine bx 13 #[.slice none 0 0, .slice none 0 0, .slice none 0 0] 45 ?_; intro gb371 hg w54 hbox hb; replace HO360 := mk (Kd.R_below (up HO360.out) hb); replace HO363 := mk (Kd.R_below (up HO363.out) hb); replace HO366 := mk (Kd.R_below (up HO366.out) hb); replace HO369 := mk (Kd.R_below (up HO369.out) hb); have BK371 := mk hbox; have GW371 := wg hg; have GE371 := wg hg; replace HB := wh hb; have NB325_371 := nl BK325 hg; have NB371_325 := nr BK325 hg; replace BK325 := wb BK325 hb; have NB326_371 := nl BK326 hg; have NB371_326 := nr BK326 hg; replace BK326 := wb BK326 hb; clear hb hbox hg; obtain ⟨Ao55, co55, eo55⟩ := Kd.R_slice HO363.out; subst eo55; have hnb56 := NB371_325.out; have hnc56 := NB325_371.out; have hnb57 := NB371_326.out; have hnc57 := NB326_371.out; obtain ⟨hcz58_0, hcz58_1, hcz58_2, hfz58_0, hfz58_1, hfz58_2⟩ := bz3 BK371; obtain ⟨Ao59, co59, eo59⟩ := Kd.R_slice HO366.out; subst eo59; obtain ⟨Ao60, co60, eo60⟩ := Kd.R_slice HO369.out; subst eo60) | ((with_reducible refine gate_callee (f := 97) rfl ?_); refine gl (some 64) rfl Try.func97 #[.agg #[.slice Ao55 t361.length co55, .slice Ao59 t364.length co59, .slice Ao60 t367.length co60], .agg #[.int .i64 a1, .int .i64 t358]] ?_; (with_reducible refine (spec_AddPivot.calls kj2 _ _ t361 _ _ t364 _ _ t367 a1 t358 t372 t375 t378 t381 _ ?side1 ?side2 ?side3 ?side4 ?side5 ?side6 A43.out).mono ?_); (case side1 => refine (Kd.R_reads' (e := 3) (base := w.heap.size) (ok := fun k_ => some k_ ≠ (.slice Ao59 t364.length co59 : Value).ownBlock) (n := t361.length) (c := co55) ?_).2.2; exact (by exact rs1 HO363 BK371)); (case side2 => exact (Kd.R_reads' HO363.out).2.1); (case side3 => refine (Kd.R_reads' (e := 3) (base := w.heap.size) (ok := fun k_ => some k_ ≠ (.slice Ao55 t361.length co55 : Value).ownBlock) (n := t364.length) (c := co59) ?_).2.2; exact (by exact rs1 HO366 BK371)); (case side4 => exact (Kd.R_reads' HO366.out).2.1); (case side5 => refine (Kd.R_reads' (e := 90) (base := w.heap.size) (ok := fun k_ => True) (n := t367.length) (c := co60) ?_).2.2; exact (by exact rs1 HO369 BK371)); (case side6 => exact (Kd.R_reads' HO369.out).2.1); rintro e w61 ⟨v373, v376, v379, rfl, ho0, ho1, ho2, hb⟩; refine ⟨_, rfl, ?_⟩; replace HO360 := mk (Kd.R_below (by exact rs1 HO360 BK371) hb); have HO374 := mk (Kd.R_lower (Kd.R_new' (Kd.R_new' ho0 (Kd.R_lt (by exact rs1 HO363 BK371))) (Kd.R_lt (by exact rs1 HO366 BK371))) (below_size bl)); have HO377 := mk (Kd.R_lower (Kd.R_new' (Kd.R_new' ho1 (Kd.R_lt (by exact rs1 HO363 BK371))) (Kd.R_lt (by exact rs1 HO366 BK371))) (below_size bl)); replace HO363 := mk (Kd.R_mono (Kd.R_told (Kd.R_told (Kd.R_old (by exact rs1 HO363 BK371) hb) (Kd.R_base ho0)) (Kd.R_base ho1)) (fun _ h_ => h_.1)); replace HO366 := mk (Kd.R_mono (Kd.R_told (Kd.R_told (Kd.R_old (by exact rs1 HO366 BK371) hb) (Kd.R_base ho0)) (Kd.R_base ho1)) (fun _ h_ => h_.1)); have HO380 := mk (Kd.R_lower (Kd.R_new' ho2 (Kd.R_lt (by exact rs1 HO369 BK371))) (below_size bl)); replace HO369 := mk (Kd.R_elder' (by exact rs1 HO369 BK371) (Kd.R_base ho2) hb); replace BK325 := wx BK325 hb; replace BK326 := wx BK326 hb; replace BK371 := mk (blk_below (g := gb371) (o := .cells #[.slice Ao55 t361.length co55, .slice Ao59 t364.length co59, .slice Ao60 t367.length co60] 45 (0, 0)) bq hb); replace HB := wh hb; (try clear hb); (try clear hb2); (try clear hk); (try clear hi); (try clear ho0); (try clear ho1); (try clear ho2)) | ((with_reducible refine gate_dst (N := 15) rfl ?_); refine bx 15 #[.slice none 0 0, .slice none 0 0, .slice none 0 0] 45 ?_; intro gb382 hg w62 hbox hb; replace HO360 := mk (Kd.R_below (up HO360.out) hb); replace HO363 := mk (Kd.R_below (up HO363.out) hb); replace HO366 := mk (Kd.R_below (up HO366.out) hb); replace HO369 := mk (Kd.R_below (up HO369.out) hb); replace HO374 := mk (Kd.R_below (up HO374.out) hb); replace HO377 := mk (Kd.R_below (up HO377.out) hb); replace HO380 := mk (Kd.R_below (up HO380.out) hb); have BK382 := mk hbox; have GW382 := wg hg; have GE382 := wg hg; replace HB := wh hb; have NB325_382 := nl BK325 hg; have NB382_325 := nr BK325 hg; replace BK325 := wb BK325 hb; have NB326_382 := nl BK326 hg; have NB382_326 := nr BK326 hg; replace BK326 := wb BK326 hb; have NB371_382 := nl BK371 hg; have NB382_371 := nr BK371 hg; replace BK371 := wb BK371 hb; clear hb hbox hg; obtain ⟨Ao63, co63, eo63⟩ := Kd.R_slice HO374.out; subst eo63; have hnb64 := NB382_325.out; have hnc64 := NB325_382.out; have hnb65 := NB382_326.out; have hnc65 := NB326_382.out; have hnb66 := NB382_371.out; have hnc66 := NB371_382.out; obtain ⟨hcz67_0, hcz67_1, hcz67_2, hfz67_0, hfz67_1, hfz67_2⟩ := bz3 BK382; obtain ⟨Ao68, co68, eo68⟩ := Kd.R_slice HO377.out; subst eo68; obtain ⟨Ao69, co69, eo69⟩ := Kd.R_slice HO380.out; subst eo69; obtain ⟨hcz70_0, hcz70_1, hcz70_2, hfz70_0, hfz70_1, hfz70_2⟩ := bz3 BK326))
     refine bodyPost_ret (results_ctt rfl _ _ gb326 45 #[.slice Ao63 t372.length co63, .slice Ao68 t375.length co68, .slice Ao69 t378.length co69] (0, 0) _ rfl bq Try.underlying45 rfl (by kernel_rfl)) rfl ?_
     exact ⟨_, _, _, _, by first | rfl | (simp [errW_none, errW_some] <;> rfl) | (simp [*, errW_none, errW_some] <;> rfl), (by exact rm (rs2 HO374 BK382 BK326)), (by exact rm (rs2 HO377 BK382 BK326)), (by exact rm (rs2 HO380 BK382 BK326)), (by exact rm (rs2 HO360 BK382 BK326)), bl⟩

/-! ### spec_l1Once: function 98 -/
def spec_l1Once.f (s0_0 : List Int) (s0_1 : Int) (s0_2 : Int) (a1 : Int) : Option (Bool × Int × Int) := (spec_l1Below.f s0_0 s0_1 s0_2 a1).bind fun bt383 => (some ((bt383.1 == 0), bt383.2.1, bt383.2.2))
set_option maxHeartbeats 8000000 in
set_option maxRecDepth 100000 in
theorem spec_l1Once.calls (g : Nat) (s0_0 : List Int) (s0_1 : Int) (s0_2 : Int) (a1 : Int) (r1 : Bool) (r2 : Int) (r3 : Int) (w0 w : World) (hI : IsS88 w0 w g s0_0 s0_1 s0_2) (hB : Below w0.heap.size w0 w) (h : spec_l1Once.f s0_0 s0_1 s0_2 a1 = some (r1, r2, r3)) :
    Calls Try.prog 98 #[.pointer (some ⟨g, 0, none⟩), .int .i64 a1] w fun e w' => e = .returned (.bool r1) ∧ IsS88 w0 w' g s0_0 r2 r3 ∧ Below w0.heap.size w0 w' ∧ KeepBut w w' g none := by
  have HI0 := Aside0.mk hI
  have HK := Aside0.mk (KeepBut.refl w g none)
  have HL := Aside0.mk hB.size
  clear hI
  have HW0 := Aside0.mk hB.size
  have HB := Aside0.mk hB
  clear hB
  have H : ((spec_l1Below.f s0_0 s0_1 s0_2 a1).bind fun bt383 => (some ((bt383.1 == 0), bt383.2.1, bt383.2.2))) = some (r1, r2, r3) := h
  clear h
  revert H; refine bo ?_; rintro ⟨t383, t384, t385⟩ A3 H
  dsimp only at H
  simp only [Option.some.injEq, Prod.mk.injEq] at H
  obtain ⟨rfl, rfl, rfl⟩ := H
  go_enter Try.func98, Try.ntmps98
  go_wp2_with (first | ((with_reducible refine gate_callee (f := 44) rfl ?_); refine gl (some 7) rfl Try.func44 #[.pointer (some ⟨g, 0, none⟩), .int .i64 a1] ?_; (with_reducible refine (spec_l1Below.calls g s0_0 s0_1 s0_2 a1 t383 t384 t385 w0 _ ?side1 ?side2 A3.out).mono ?_); (case side1 => repeat (first | (with_reducible first | exact HI0.out | apply IsS88.alloc | apply IsS88.drewN | apply IsS88.drew | apply IsS88.set_1 | apply IsS88.set_2) | exact HI0.out)); (case side2 => repeat (first | (with_reducible first | exact HB.out | apply below_alloc | apply pw_below_drewN | apply below_drew1 | refine below_set ?_ (IsS88.ge HI0.out)) | exact HB.out)); rintro e w4 ⟨rfl, hi, hb, hk⟩; refine ⟨_, rfl, ?_⟩; replace HK := mk (KeepBut.trans (by repeat (first | (with_reducible first | exact HK.out | apply KeepBut.set_ | apply keep_drewN | apply keep_drew | apply keep_alloc) | exact HK.out)) hk (.inl rfl)); replace HB := mk hb; replace HI0 := mk hi; (try clear hb); (try clear hb2); (try clear hk); (try clear hi)))
  go_ret
  exact ⟨by first | rfl | (simp [errW_none, errW_some] <;> rfl) | (simp [*, errW_none, errW_some] <;> rfl), by repeat (first | (with_reducible first | exact HI0.out | apply IsS88.alloc | apply IsS88.drewN | apply IsS88.drew | apply IsS88.set_1 | apply IsS88.set_2) | exact HI0.out), by repeat (first | (with_reducible first | exact HB.out | apply below_alloc | apply pw_below_drewN | apply below_drew1 | refine below_set ?_ (IsS88.ge HI0.out)) | exact HB.out), by repeat (first | (with_reducible first | exact HK.out | apply KeepBut.set_ | apply keep_drewN | apply keep_drew | apply keep_alloc) | exact HK.out)⟩

/-! ### spec_l4Value: function 77 -/
def spec_l4Value.j0 : Nat → Bool → List Int → Int → Int → List Int → List Int → List (S90) → Option (Int × Int × Int)
  | 0, _, _, _, _, _, _, _ => none
  | k + 1, x13, x1000, x1001, x1002, x387000, x387001, x387002 => if x13 = true then ((spec_l1Below.f x1000 x1001 x1002 (x387000.length : Int)).bind fun bt390 => (if 0 ≤ bt390.1 then (if bt390.1 < (x387000.length : Int) then ((spec_l1Below.f x1000 bt390.2.1 bt390.2.2 3).bind fun bt394 => (some (wrap64 ((wrap64 ((rd x387000 bt390.1) + bt394.1)) - 1), bt394.2.1, bt394.2.2))) else (none)) else (none))) else ((spec_l1PickInt.f x1000 x1001 x1002 (([0, 3, (-2), (-1000), 1000, 50] : List Int))).bind fun bt400 => (some (bt400.1, bt400.2.1, bt400.2.2)))
def spec_l4Value.f (k : Nat) (s0_0 : List Int) (s0_1 : Int) (s0_2 : Int) (l1_0 : List Int) (l1_1 : List Int) (l1_2 : List (S90)) : Option (Int × Int × Int) := if (l1_0.length : Int) > 0 then ((spec_l1Once.f s0_0 s0_1 s0_2 4).bind fun bt387 => (spec_l4Value.j0 k (!bt387.1) s0_0 bt387.2.1 bt387.2.2 l1_0 l1_1 l1_2)) else (spec_l4Value.j0 k false s0_0 s0_1 s0_2 l1_0 l1_1 l1_2)
theorem spec_l4Value.mono_l : ∀ k, (∀ y0 y1 y2 y3 y4 y5 y6, LeO (spec_l4Value.j0 k y0 y1 y2 y3 y4 y5 y6) (spec_l4Value.j0 (k + 1) y0 y1 y2 y3 y4 y5 y6))
  | 0 => fun _ _ _ _ _ _ _ r h => by simp [spec_l4Value.j0] at h
  | k + 1 => by
    have ih0 := spec_l4Value.mono_l k
    · intro y0 y1 y2 y3 y4 y5 y6
      unfold spec_l4Value.j0
      exact mo
theorem spec_l4Value.mono : ∀ a0 a1 a2 a3 a4 a5 k, LeO (spec_l4Value.f k a0 a1 a2 a3 a4 a5) (spec_l4Value.f (k + 1) a0 a1 a2 a3 a4 a5) := by
  intro a0 a1 a2 a3 a4 a5 k
  have ih0 := spec_l4Value.mono_l k
  unfold spec_l4Value.f
  exact mo
instance spec_l4Value.mi (a0 a1 a2 a3 a4 a5 k) : LeC (spec_l4Value.f k a0 a1 a2 a3 a4 a5) (spec_l4Value.f (k + 1) a0 a1 a2 a3 a4 a5) := ⟨spec_l4Value.mono a0 a1 a2 a3 a4 a5 k⟩
def spec_l4Value.T2 : Bool × List (List Nat × List Nat) := (true, [([], []), ([0], [0]), ([], []), ([], []), ([3], [3]), ([4], [4]), ([2, 5], [2, 5]), ([1, 6], [1, 6]), ([7], [7]), ([], []), ([9, 6], [9]), ([8, 10], [8, 10]), ([11], [11]), ([12, 10, 0, 1, 2, 3, 4, 5, 6, 7, 8, 9, 10, 11, 12], [12])])
def spec_l4Value.B2 : List Nat := [0, 1, 0, 0, 8, 24, 60, 127, 255, 0, 636, 2047, 4095, 8191]
theorem spec_l4Value.tab2 : rtab .any (opsOf Try.f77 2) = spec_l4Value.T2 := by kernel_rfl
theorem spec_l4Value.bits2 : waitsOk spec_l4Value.T2.2 spec_l4Value.B2 = true := by kernel_rfl
set_option maxHeartbeats 8000000 in
set_option maxRecDepth 100000 in
theorem spec_l4Value.calls (k : Nat) (g : Nat) (s0_0 : List Int) (s0_1 : Int) (s0_2 : Int) (A1_0 : Option Addr) (c1_0 : Nat) (l1_0 : List Int) (A1_1 : Option Addr) (c1_1 : Nat) (l1_1 : List Int) (A1_2 : Option Addr) (c1_2 : Nat) (l1_2 : List (S90)) (r1 : Int) (r2 : Int) (r3 : Int) (w0 w : World) (hI : IsS88 w0 w g s0_0 s0_1 s0_2) (hB : Below w0.heap.size w0 w) (hr1_0 : Kd.C (Kd.int .i64) w A1_0 l1_0.length l1_0) (hc1_0 : l1_0.length ≤ c1_0) (hf1_0 : ∀ ad, A1_0 = some ad → 0 < l1_0.length → ad.block ≠ g) (hr1_1 : Kd.C (Kd.int .i64) w A1_1 l1_1.length l1_1) (hc1_1 : l1_1.length ≤ c1_1) (hf1_1 : ∀ ad, A1_1 = some ad → 0 < l1_1.length → ad.block ≠ g) (hr1_2 : ∀ W_, KeepBut w W_ g none → Kd.C k90 W_ A1_2 l1_2.length l1_2) (hc1_2 : l1_2.length ≤ c1_2) (h : spec_l4Value.f k s0_0 s0_1 s0_2 l1_0 l1_1 l1_2 = some (r1, r2, r3)) :
    Calls Try.prog 77 #[.pointer (some ⟨g, 0, none⟩), .agg #[.slice A1_0 l1_0.length c1_0, .slice A1_1 l1_1.length c1_1, .slice A1_2 l1_2.length c1_2]] w fun e w' => e = .returned (.int .i64 r1) ∧ IsS88 w0 w' g s0_0 r2 r3 ∧ Below w0.heap.size w0 w' ∧ KeepBut w w' g none := by
  have hu45 := Try.underlying45
  have HR1_0 := Aside0.mk hr1_0
  have HC1_0 := Aside0.mk hc1_0
  clear hr1_0 hc1_0
  have HR1_1 := Aside0.mk hr1_1
  have HC1_1 := Aside0.mk hc1_1
  clear hr1_1 hc1_1
  have HR1_2 := Aside0.mk hr1_2
  have HC1_2 := Aside0.mk hc1_2
  clear hr1_2 hc1_2
  have HI0 := Aside0.mk hI
  have HK := Aside0.mk (KeepBut.refl w g none)
  have HL := Aside0.mk hB.size
  clear hI
  have HW0 := Aside0.mk hB.size
  have HB := Aside0.mk hB
  clear hB
  have H : (if (l1_0.length : Int) > 0 then ((spec_l1Once.f s0_0 s0_1 s0_2 4).bind fun bt387 => (spec_l4Value.j0 k (!bt387.1) s0_0 bt387.2.1 bt387.2.2 l1_0 l1_1 l1_2)) else (spec_l4Value.j0 k false s0_0 s0_1 s0_2 l1_0 l1_1 l1_2)) = some (r1, r2, r3) := h
  clear h
  have HC3 := Aside0.mk H
  clear H
  go_enter Try.func77, Try.ntmps77
  go_upto_region 1 with (first | ((with_reducible refine gate_dst (N := 3) rfl ?_); refine bx 3 #[.slice A1_0 l1_0.length c1_0, .slice A1_1 l1_1.length c1_1, .slice A1_2 l1_2.length c1_2] 45 ?_; intro gb386 hg w4 hbox hb; replace HB := mk (below_step (by repeat (first | (with_reducible first | exact HB.out | apply below_alloc | apply pw_below_drewN | apply below_drew1 | refine below_set ?_ (IsS88.ge HI0.out)) | exact HB.out)) hb); have BK386 := mk hbox; have GW386 := mk ((by rw [hg]; exact (keep_size (w := w) (g := g) (row := none) (by repeat (first | (with_reducible first | exact HK.out | apply KeepBut.set_ | apply keep_drewN | apply keep_drew | apply keep_alloc) | exact HK.out))) : w.heap.size ≤ gb386)); have GE386 := mk ((Nat.le_trans HW0.out (by rw [hg]; exact (keep_size (w := w) (g := g) (row := none) (by repeat (first | (with_reducible first | exact HK.out | apply KeepBut.set_ | apply keep_drewN | apply keep_drew | apply keep_alloc) | exact HK.out))) : w.heap.size ≤ gb386) : w0.heap.size ≤ gb386)); replace HK := mk (KeepBut.trans (by repeat (first | (with_reducible first | exact HK.out | apply KeepBut.set_ | apply keep_drewN | apply keep_drew | apply keep_alloc) | exact HK.out)) (KeepBut.of_below hb g none) (.inl rfl)); have NB0_386 := mk ((by rw [hg]; exact Nat.ne_of_lt (IsS88.lt (show IsS88 w0 _ g s0_0 s0_1 s0_2 from by repeat (first | (with_reducible first | exact HI0.out | apply IsS88.alloc | apply IsS88.drewN | apply IsS88.drew | apply IsS88.set_1 | apply IsS88.set_2) | exact HI0.out))) : g ≠ gb386)); have NB386_0 := mk ((by rw [hg]; exact Nat.ne_of_gt (IsS88.lt (show IsS88 w0 _ g s0_0 s0_1 s0_2 from by repeat (first | (with_reducible first | exact HI0.out | apply IsS88.alloc | apply IsS88.drewN | apply IsS88.drew | apply IsS88.set_1 | apply IsS88.set_2) | exact HI0.out))) : gb386 ≠ g)); replace HI0 := mk (IsS88.below (by repeat (first | (with_reducible first | exact HI0.out | apply IsS88.alloc | apply IsS88.drewN | apply IsS88.drew | apply IsS88.set_1 | apply IsS88.set_2) | exact HI0.out)) hb); clear hb hbox hg))
  (try simp only [Act.put, List.setIfInBounds_toArray, List.set_cons_zero, List.set_cons_succ])
  go_cut [13] (fun v13 wc => ∃ (kq : Nat) (x13_2 : Bool) (x1001_2 : Int) (x1002_2 : Int), v13 = .bool x13_2 ∧ Aside0 (spec_l4Value.j0 kq x13_2 s0_0 x1001_2 x1002_2 l1_0 l1_1 l1_2 = some (r1, r2, r3)) ∧ Aside0 (kq ≤ k) ∧ Aside0 (wc.heap[gb386]? = some (.cells #[(.slice A1_0 l1_0.length c1_0), (.slice A1_1 l1_1.length c1_1), (.slice A1_2 l1_2.length c1_2)] 45 (0, 0))) ∧ Aside0 (IsS88 w0 wc g s0_0 x1001_2 x1002_2) ∧ Aside0 (KeepBut w wc g none) ∧ Aside0 (Below w0.heap.size w0 wc))
  case first =>
    have H := HC3.out
    clear HC3
    by_cases c5 : (l1_0.length : Int) > 0
    · rw [if_pos c5] at H
      have c5b0 : decide (0 < (l1_0.length : Int)) = true := decide_eq_true c5
      have c5b1 : decide (0 < l1_0.length) = true := decide_eq_true (by omega)
      clear c5
      (first | rw [c5b0] | (simp only [i64_w, i32_w]; rw [c5b0]) | skip)
      revert H; refine bo ?_; rintro ⟨t387, t388, t389⟩ A6 H
      dsimp only at H
      have H' := Aside0.mk H
      clear H
      have hnb7 := NB386_0.out
      have hnc7 := NB0_386.out
      obtain ⟨hcz8_0, hcz8_1, hcz8_2, hfz8_0, hfz8_1, hfz8_2⟩ := bz3 BK386
      go_wp2_with (first | (go_at_call 98; (with_reducible refine (spec_l1Once.calls g s0_0 s0_1 s0_2 4 t387 t388 t389 w0 _ ?side1 ?side2 A6.out).mono ?_); (case side1 => repeat (first | (with_reducible first | exact HI0.out | apply IsS88.alloc | apply IsS88.drewN | apply IsS88.drew | apply IsS88.set_1 | apply IsS88.set_2 | refine IsS88.far ?_ NB0_386.out _) | exact HI0.out)); (case side2 => repeat (first | (with_reducible first | exact HB.out | apply below_alloc | apply pw_below_drewN | apply below_drew1 | refine below_set ?_ (IsS88.ge HI0.out) | refine below_set ?_ GE386.out) | exact HB.out)); rintro e w9 ⟨rfl, hi, hb, hk⟩; replace BK386 := mk (KeepBut.blk hk (g' := gb386) (o := .cells #[.slice A1_0 l1_0.length c1_0, .slice A1_1 l1_1.length c1_1, .slice A1_2 l1_2.length c1_2] 45 (0, 0)) (ub BK386.out) NB386_0.out (by simp)); replace HK := mk (KeepBut.trans (by repeat (first | (with_reducible first | exact HK.out | apply KeepBut.set_ | apply keep_drewN | apply keep_drew | apply keep_alloc | refine keep_far ?_ GW386.out _) | exact HK.out)) hk (.inl rfl)); replace HB := mk hb; replace HI0 := mk hi; (try clear hb); (try clear hb2); (try clear hk); (try clear hi)))
      go_meet
      case rel => exact ⟨_, (!t387), (t388), (t389), (by first | rfl | (simp; done) | (simp [*]; done)), H', ⟨by first | omega | exact Nat.le_refl _⟩, ⟨ub BK386.out⟩, ⟨by repeat (first | (with_reducible first | exact HI0.out | apply IsS88.alloc | apply IsS88.drewN | apply IsS88.drew | apply IsS88.set_1 | apply IsS88.set_2 | refine IsS88.far ?_ NB0_386.out _) | exact HI0.out)⟩, ⟨by repeat (first | (with_reducible first | exact HK.out | apply KeepBut.set_ | apply keep_drewN | apply keep_drew | apply keep_alloc | refine keep_far ?_ GW386.out _) | exact HK.out)⟩, ⟨by repeat (first | (with_reducible first | exact HB.out | apply below_alloc | apply pw_below_drewN | apply below_drew1 | refine below_set ?_ (IsS88.ge HI0.out) | refine below_set ?_ GE386.out) | exact HB.out)⟩⟩
    · rw [if_neg c5] at H
      have c5b0 : decide (0 < (l1_0.length : Int)) = false := decide_eq_false c5
      have c5b1 : decide (0 < l1_0.length) = false := decide_eq_false (by omega)
      clear c5
      (first | rw [c5b0] | (simp only [i64_w, i32_w]; rw [c5b0]) | skip)
      have H' := Aside0.mk H
      clear H
      have hnb10 := NB386_0.out
      have hnc10 := NB0_386.out
      obtain ⟨hcz11_0, hcz11_1, hcz11_2, hfz11_0, hfz11_1, hfz11_2⟩ := bz3 BK386
      go_wp2
      go_meet
      case rel => exact ⟨_, (false), (s0_1), (s0_2), (by first | rfl | (simp; done) | (simp [*]; done)), H', ⟨by first | omega | exact Nat.le_refl _⟩, ⟨ub BK386.out⟩, ⟨by repeat (first | (with_reducible first | exact HI0.out | apply IsS88.alloc | apply IsS88.drewN | apply IsS88.drew | apply IsS88.set_1 | apply IsS88.set_2 | refine IsS88.far ?_ NB0_386.out _) | exact HI0.out)⟩, ⟨by repeat (first | (with_reducible first | exact HK.out | apply KeepBut.set_ | apply keep_drewN | apply keep_drew | apply keep_alloc | refine keep_far ?_ GW386.out _) | exact HK.out)⟩, ⟨by repeat (first | (with_reducible first | exact HB.out | apply below_alloc | apply pw_below_drewN | apply below_drew1 | refine below_set ?_ (IsS88.ge HI0.out) | refine below_set ?_ GE386.out) | exact HB.out)⟩⟩
  case rest =>
    clear HC3
    try clear c1
    try clear p2
    try clear c5
    try clear c5b0
    try clear c5b1
    try clear c7
    try clear c10
    try clear hcz11_0
    try clear hcz11_1
    try clear hcz11_2
    try clear hcz8_0
    try clear hcz8_1
    try clear hcz8_2
    try clear hfz11_0
    try clear hfz11_1
    try clear hfz11_2
    try clear hfz8_0
    try clear hfz8_1
    try clear hfz8_2
    obtain ⟨kq, x13_2, x1001_2, x1002_2, rfl, HA, HJ2, BK386, HI0, HK, HB⟩ := hcut
    cases kq with
    | zero => exact absurd HA.out (by simp [spec_l4Value.j0])
    | succ kj2 =>
      have H := HA.out
      clear HA
      simp only [spec_l4Value.j0] at H
      by_cases c12 : x13_2 = true
      · subst c12
        rw [if_pos rfl] at H
        revert H; refine bo ?_; rintro ⟨t390, t391, t392⟩ A13 H
        dsimp only at H
        by_cases c14 : 0 ≤ t390
        · rw [if_pos c14] at H
          have c14b0 : decide (0 ≤ t390) = true := decide_eq_true c14
          clear c14
          by_cases c15 : t390 < (l1_0.length : Int)
          · rw [if_pos c15] at H
            have c15b0 : decide (t390 < (l1_0.length : Int)) = true := decide_eq_true c15
            clear c15
            revert H; refine bo ?_; rintro ⟨t394, t395, t396⟩ A16 H
            dsimp only at H
            simp only [Option.some.injEq, Prod.mk.injEq] at H
            obtain ⟨rfl, rfl, rfl⟩ := H
            try go_wp2
            replace BK386 := wd BK386
            replace HI0 := mk (IsS88.drew HI0.out)
            replace HK := mk (keep_drew HK.out)
            replace HB := mk (below_drew1 HB.out)
            have p393 : 0 ≤ (t390 : Int) := of_decide_eq_true (by first | (with_reducible assumption) | assumption)
            have q393 : t390 < (l1_0.length : Int) := of_decide_eq_true (by first | (with_reducible assumption) | assumption)
            obtain ⟨ad393, e393, hx393_0⟩ := Kd.at_int HR1_0.out t390 p393 q393
            have hw393_0 := hx393_0
            cases e393
            have hne393_0 := (show ((ad393.add (t390).toNat) : Addr).block ≠ g from by first | (rw [add_block]; exact hf1_0 ad393 rfl (by omega)) | (show (Addr.add _ _).block ≠ _; rw [add_block]; exact hf1_0 ad393 rfl (by omega)) | exact hf1_0 ad393 rfl (by omega))
            replace hx393_0 := keep_cell HK.out hx393_0 (by first | (rw [add_block]; exact hf1_0 _ rfl (by omega)) | exact hf1_0 _ rfl (by omega) | exact hf1_0 ad393 rfl (by omega))
            replace p393 := eq_true p393
            replace q393 := eq_true q393
            refine start_ (n := 14) (S := fun w' => w'.cell? ⟨gb386, 0, none⟩ = some (.slice (some ad393) l1_0.length c1_0) ∧ w'.cell? ⟨gb386, 1, none⟩ = some (.slice A1_1 l1_1.length c1_1) ∧ w'.cell? ⟨gb386, 2, none⟩ = some (.slice A1_2 l1_2.length c1_2) ∧ w'.cell? (ad393.add (t390).toNat) = some (.int .i64 (rd l1_0 t390))) (ds := []) #[false, false, false, false, false, false, false, false, false, false, false, false, false, false] (by kernel_rfl) rfl rfl ⟨(blk_cell BK386.out 0).trans rfl, (blk_cell BK386.out 1).trans rfl, (blk_cell BK386.out 2).trans rfl, (keep_cell HK.out hw393_0 hne393_0)⟩ (fun hHeld => ?_); refine with_tabW spec_l4Value.tab2 spec_l4Value.bits2 (fun HT_ HW_ => ?_)
            generalize wc.drew = w17 at BK386 HI0 HK HB hf1_0 hx393_0 hHeld ⊢
            refine pu 0 14 (tf 1 13) ?_
            refine pu 2 16 #[T_,F_,T_,F_,F_,F_,F_,F_,F_,F_,F_,F_,F_,F_] ?_
            refine pu 3 17 #[T_,F_,T_,T_,F_,F_,F_,F_,F_,F_,F_,F_,F_,F_] ?_
            refine pu 9 23 #[T_,F_,T_,T_,F_,F_,F_,F_,F_,T_,F_,F_,F_,F_] ?_
            refine tk 1 15 #[T_,T_,T_,T_,F_,F_,F_,F_,F_,T_,F_,F_,F_,F_] hHeld ?_
            refine tk 4 18 #[T_,T_,T_,T_,T_,F_,F_,F_,F_,T_,F_,F_,F_,F_] hHeld ?_
            refine pu 5 19 #[T_,T_,T_,T_,T_,T_,F_,F_,F_,T_,F_,F_,F_,F_] ?_
            refine on 6 20 #[T_,T_,T_,T_,T_,T_,T_,F_,F_,T_,F_,F_,F_,F_] (fun K hK => ?_)
            refine gs Try.func44 #[.pointer (some ⟨g, 0, none⟩), .int .i64 (l1_0.length : Int)] ?_
            with_reducible refine (spec_l1Below.calls g s0_0 x1001_2 x1002_2 (l1_0.length : Int) t390 t391 t392 w0 _ ?side1 ?side2 A13.out).mono ?_
            (case side1 => repeat (first | (with_reducible first | exact HI0.out | apply IsS88.alloc | apply IsS88.drewN | apply IsS88.drew | apply IsS88.set_1 | apply IsS88.set_2 | refine IsS88.far ?_ NB0_386.out _) | exact HI0.out))
            (case side2 => repeat (first | (with_reducible first | exact HB.out | apply below_alloc | apply pw_below_drewN | apply below_drew1 | refine below_set ?_ (IsS88.ge HI0.out) | refine below_set ?_ GE386.out) | exact HB.out))
            rintro e w18 ⟨rfl, hi, hb, hk⟩
            refine ⟨_, rfl, ?_⟩
            replace BK386 := mk (KeepBut.blk hk (g' := gb386) (o := .cells #[.slice (some ad393) l1_0.length c1_0, .slice A1_1 l1_1.length c1_1, .slice A1_2 l1_2.length c1_2] 45 (0, 0)) (ub BK386.out) NB386_0.out (by simp))
            replace HK := mk (KeepBut.trans (by repeat (first | (with_reducible first | exact HK.out | apply KeepBut.set_ | apply keep_drewN | apply keep_drew | apply keep_alloc | refine keep_far ?_ GW386.out _) | exact HK.out)) hk (.inl rfl))
            replace HB := mk hb
            replace HI0 := mk hi
            (try clear hb)
            (try clear hb2)
            (try clear hk)
            (try clear hi)
            refine hK.out _ _ ⟨(blk_cell BK386.out 0).trans rfl, (blk_cell BK386.out 1).trans rfl, (blk_cell BK386.out 2).trans rfl, (keep_cell HK.out hw393_0 hne393_0)⟩ (fun hHeld => ?_)
            clear hK K
            refine nm 20 ?_
            refine pu 7 21 #[T_,T_,T_,T_,T_,T_,T_,T_,F_,T_,F_,F_,F_,F_] ?_
            refine tk 8 22 (tf 10 4) hHeld ?_
            refine on 10 24 (tf 11 3) (fun K hK => ?_)
            refine gs Try.func44 #[.pointer (some ⟨g, 0, none⟩), .int .i64 3] ?_
            with_reducible refine (spec_l1Below.calls g s0_0 t391 t392 3 t394 t395 t396 w0 _ ?side1 ?side2 A16.out).mono ?_
            (case side1 => repeat (first | (with_reducible first | exact HI0.out | apply IsS88.alloc | apply IsS88.drewN | apply IsS88.drew | apply IsS88.set_1 | apply IsS88.set_2 | refine IsS88.far ?_ NB0_386.out _) | exact HI0.out))
            (case side2 => repeat (first | (with_reducible first | exact HB.out | apply below_alloc | apply pw_below_drewN | apply below_drew1 | refine below_set ?_ (IsS88.ge HI0.out) | refine below_set ?_ GE386.out) | exact HB.out))
            rintro e w19 ⟨rfl, hi, hb, hk⟩
            refine ⟨_, rfl, ?_⟩
            replace BK386 := mk (KeepBut.blk hk (g' := gb386) (o := .cells #[.slice (some ad393) l1_0.length c1_0, .slice A1_1 l1_1.length c1_1, .slice A1_2 l1_2.length c1_2] 45 (0, 0)) (ub BK386.out) NB386_0.out (by simp))
            replace HK := mk (KeepBut.trans (by repeat (first | (with_reducible first | exact HK.out | apply KeepBut.set_ | apply keep_drewN | apply keep_drew | apply keep_alloc | refine keep_far ?_ GW386.out _) | exact HK.out)) hk (.inl rfl))
            replace HB := mk hb
            replace HI0 := mk hi
            (try clear hb)
            (try clear hb2)
            (try clear hk)
            (try clear hi)
            refine hK.out _ _ ⟨(blk_cell BK386.out 0).trans rfl, (blk_cell BK386.out 1).trans rfl, (blk_cell BK386.out 2).trans rfl, (keep_cell HK.out hw393_0 hne393_0)⟩ (fun hHeld => ?_)
            clear hK K
            refine nm 24 ?_
            refine pu 11 25 (tf 12 2) ?_
            refine pu 12 26 (tf 13 1) ?_
            refine pu 13 4 (tf 14 0) ?_
            refine done_ (done_of HT_.out (by kernel_rfl)) ?_
            try go_wp2
            go_ret
            exact ⟨by first | rfl | (simp [errW_none, errW_some] <;> rfl) | (simp [*, errW_none, errW_some] <;> rfl), by repeat (first | (with_reducible first | exact HI0.out | apply IsS88.alloc | apply IsS88.drewN | apply IsS88.drew | apply IsS88.set_1 | apply IsS88.set_2 | refine IsS88.far ?_ NB0_386.out _) | exact HI0.out), by repeat (first | (with_reducible first | exact HB.out | apply below_alloc | apply pw_below_drewN | apply below_drew1 | refine below_set ?_ (IsS88.ge HI0.out) | refine below_set ?_ GE386.out) | exact HB.out), by repeat (first | (with_reducible first | exact HK.out | apply KeepBut.set_ | apply keep_drewN | apply keep_drew | apply keep_alloc | refine keep_far ?_ GW386.out _) | exact HK.out)⟩
          · rw [if_neg c15] at H
            exact absurd H (by simp)
        · rw [if_neg c14] at H
          exact absurd H (by simp)
      · replace c12 := Bool.eq_false_iff.mpr c12
        subst c12
        rw [if_neg nf] at H
        obtain ⟨y397, hy397⟩ : ∃ y_ : List Int, y_ = (([0, 3, (-2), (-1000), 1000, 50] : List Int)) := ⟨_, rfl⟩
        replace H : ((spec_l1PickInt.f s0_0 x1001_2 x1002_2 y397).bind fun bt400 => (some (bt400.1, bt400.2.1, bt400.2.2))) = some (r1, r2, r3) := by first | (rw [hy397]; with_reducible exact H) | (have H2_ := (Option.bind_some _ _).symm.trans H; rw [hy397]; with_reducible exact H2_) | (have H2_ := (Option.bind_some _ _).symm.trans H; with_reducible exact H2_) | with_reducible exact H | (rw [hy397]; exact H) | exact H
        have Ny397 := Aside0.mk hy397
        clear hy397
        revert H; refine bo ?_; rintro ⟨t400, t401, t402⟩ A20 H
        dsimp only at H
        simp only [Option.some.injEq, Prod.mk.injEq] at H
        obtain ⟨rfl, rfl, rfl⟩ := H
        go_wp2_with (first | ((with_reducible refine gate_dst (N := 28) rfl ?_); refine Kd.R_lit (Kd.int .i64) _ 3 ?hg (N := 28) ?hd (xs := ([0, 3, (-2), (-1000), 1000, 50] : List Int)) (inner := [.int .i64 0, .int .i64 3, .int .i64 (-2), .int .i64 (-1000), .int .i64 1000, .int .i64 50]) (ok := fun _ => True) (okp := fun _ => True) ?hr ?hp (fun _ hk => hk) trivial (Below.refl _ _) (Nat.le_refl _) (by simp) ?_; (case hd => rfl); (case hg => rfl); (case hr => first | (go_simp; done) | (go_simp; rfl)); (case hp => exact (Reps.one (show Kd.M (Kd.int .i64) _ _ _ 0 [.int .i64 0] from rfl) (Reps.one (show Kd.M (Kd.int .i64) _ _ _ 3 [.int .i64 3] from rfl) (Reps.one (show Kd.M (Kd.int .i64) _ _ _ (-2) [.int .i64 (-2)] from rfl) (Reps.one (show Kd.M (Kd.int .i64) _ _ _ (-1000) [.int .i64 (-1000)] from rfl) (Reps.one (show Kd.M (Kd.int .i64) _ _ _ 1000 [.int .i64 1000] from rfl) (Reps.one (show Kd.M (Kd.int .i64) _ _ _ 50 [.int .i64 50] from rfl) (Reps.none _ _)))))))); intro v398 w21 ho22 hb hg_ hnew_; clear hg_ hnew_; (first | rw [← Ny397.out] at ho22 | (simp only [Int.reduceToNat] at ho22; rw [← Ny397.out] at ho22)); have HO399 := mk (Kd.R_lower ho22 (keep_size (w := w) (g := g) (row := none) (by repeat (first | (with_reducible first | exact HK.out | apply KeepBut.set_ | apply keep_drewN | apply keep_drew | apply keep_alloc | refine keep_far ?_ GW386.out _) | exact HK.out)))); replace BK386 := wb BK386 hb; replace HK := mk (KeepBut.trans (by repeat (first | (with_reducible first | exact HK.out | apply KeepBut.set_ | apply keep_drewN | apply keep_drew | apply keep_alloc | refine keep_far ?_ GW386.out _) | exact HK.out)) (KeepBut.of_below hb g none) (.inl rfl)); replace HB := mk (below_step (by repeat (first | (with_reducible first | exact HB.out | apply below_alloc | apply pw_below_drewN | apply below_drew1 | refine below_set ?_ (IsS88.ge HI0.out) | refine below_set ?_ GE386.out) | exact HB.out)) hb); replace HI0 := mk (IsS88.below (by repeat (first | (with_reducible first | exact HI0.out | apply IsS88.alloc | apply IsS88.drewN | apply IsS88.drew | apply IsS88.set_1 | apply IsS88.set_2 | refine IsS88.far ?_ NB0_386.out _) | exact HI0.out)) hb); clear hb ho22; obtain ⟨Ao23, co23, eo23⟩ := Kd.R_slice HO399.out; subst eo23) | ((with_reducible refine gate_callee (f := 49) rfl ?_); refine gl (some 29) rfl Try.func49 #[.pointer (some ⟨g, 0, none⟩), .slice Ao23 y397.length co23] ?_; (with_reducible refine (spec_l1PickInt.calls g s0_0 x1001_2 x1002_2 _ _ y397 t400 t401 t402 w0 _ ?side1 ?side2 ?side3 ?side4 ?side5 A20.out).mono ?_); (case side1 => repeat (first | (with_reducible first | exact HI0.out | apply IsS88.alloc | apply IsS88.drewN | apply IsS88.drew | apply IsS88.set_1 | apply IsS88.set_2 | refine IsS88.far ?_ NB0_386.out _) | exact HI0.out)); (case side2 => repeat (first | (with_reducible first | exact HB.out | apply below_alloc | apply pw_below_drewN | apply below_drew1 | refine below_set ?_ (IsS88.ge HI0.out) | refine below_set ?_ GE386.out) | exact HB.out)); (case side3 => exact uc (Kd.R_reads' HO399.out).2.2); (case side4 => exact (Kd.R_reads' HO399.out).2.1); (case side5 => exact far_slice (IsS88.own_ne HI0.out HO399.out (by decide))); rintro e w24 ⟨rfl, hi, hb, hk⟩; refine ⟨_, rfl, ?_⟩; replace BK386 := mk (KeepBut.blk hk (g' := gb386) (o := .cells #[.slice A1_0 l1_0.length c1_0, .slice A1_1 l1_1.length c1_1, .slice A1_2 l1_2.length c1_2] 45 (0, 0)) (ub BK386.out) NB386_0.out (by simp)); replace HO399 := mk (Kd.R_mono (Kd.R_keep (IsS88.apart (show IsS88 w0 _ g s0_0 x1001_2 x1002_2 from by repeat (first | (with_reducible first | exact HI0.out | apply IsS88.alloc | apply IsS88.drewN | apply IsS88.drew | apply IsS88.set_1 | apply IsS88.set_2 | refine IsS88.far ?_ NB0_386.out _) | exact HI0.out)) (up HO399.out) (by decide)) hk (fun _ h => h.2)) (fun _ h => h.1)); replace HK := mk (KeepBut.trans (by repeat (first | (with_reducible first | exact HK.out | apply KeepBut.set_ | apply keep_drewN | apply keep_drew | apply keep_alloc | refine keep_far ?_ GW386.out _) | exact HK.out)) hk (.inl rfl)); replace HB := mk hb; replace HI0 := mk hi; (try clear hb); (try clear hb2); (try clear hk); (try clear hi)))
        go_ret
        exact ⟨by first | rfl | (simp [errW_none, errW_some] <;> rfl) | (simp [*, errW_none, errW_some] <;> rfl), by repeat (first | (with_reducible first | exact HI0.out | apply IsS88.alloc | apply IsS88.drewN | apply IsS88.drew | apply IsS88.set_1 | apply IsS88.set_2 | refine IsS88.far ?_ NB0_386.out _) | exact HI0.out), by repeat (first | (with_reducible first | exact HB.out | apply below_alloc | apply pw_below_drewN | apply below_drew1 | refine below_set ?_ (IsS88.ge HI0.out) | refine below_set ?_ GE386.out) | exact HB.out), by repeat (first | (with_reducible first | exact HK.out | apply KeepBut.set_ | apply keep_drewN | apply keep_drew | apply keep_alloc | refine keep_far ?_ GW386.out _) | exact HK.out)⟩

end Go.Proofs.Ytlikcmonejefoac.PFnMedians
