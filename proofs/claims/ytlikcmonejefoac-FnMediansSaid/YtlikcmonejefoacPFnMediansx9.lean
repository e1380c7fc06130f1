-- printed by a program of this session, a turned copy of the print of the kit
import Derived.Test.YtlikcmonejefoacSq
import Derived.Test.YtlikcmonejefoacPFnMediansx0
import Derived.Test.YtlikcmonejefoacPFnMediansx5
import Derived.Test.YtlikcmonejefoacPFnMediansx6
namespace Go.Proofs.Ytlikcmonejefoac.PFnMedians
open Go.RowKit Go.Proofs.YtlikcmonejefoacW.PrintWords Go.Proofs.YtlikcmonejefoacW.PrintLast Go.Proofs.YtlikcmonejefoacW.PrintMore Go.Proofs.Ytlikcmonejefoac.Sq
attribute [local go_sem] max2_int min2_int max_two min_two max_three min_three max_four min_four Giv.cell_twice   -- for this text's walks alone
set_option linter.unusedVariables false
set_option linter.unusedSimpArgs false

/-! ### spec_AddPivot: function 97 -/
mutual
def spec_AddPivot.l0 : Nat → Bool → Int → List Int → List Int → List (S90) → Int → Int → List Int → List Int → List (S90) → Option (List Int × List Int × (List (S90)) × Bool)
 | 0, _, _, _, _, _, _, _, _, _, _ => none
 | k + 1, x7, x8, x271000, x271001, x271002, x272000, x272001, x283000, x283001, x283002 => if x8 < (x271002.length : Int) then (if x7 = true then (if 0 ≤ x8 then (if x283002.length < 8796093022208 then (spec_AddPivot.l0 k x7 (wrap64 (x8 + 1)) x271000 x271001 x271002 x272000 x272001 x283000 x283001 (x283002 ++ [(⟨(rd_T90 x271002 x8).f0, (rd_T90 x271002 x8).f1⟩ : S90)])) else (none)) else (none)) else (if 0 ≤ x8 then (if ((rd_T90 x271002 x8).f0) > x272000 then (if x283002.length < 8796093022208 then ((some (x283002 ++ [(⟨x272000, x272001⟩ : S90)] : List (S90))).bind fun y291 => (if y291.length < 8796093022208 then (spec_AddPivot.l0 k true (wrap64 (x8 + 1)) x271000 x271001 x271002 x272000 x272001 x283000 x283001 (y291 ++ [(⟨(rd_T90 x271002 x8).f0, (rd_T90 x271002 x8).f1⟩ : S90)])) else (none))) else (none)) else (if x283002.length < 8796093022208 then (spec_AddPivot.l0 k x7 (wrap64 (x8 + 1)) x271000 x271001 x271002 x272000 x272001 x283000 x283001 (x283002 ++ [(⟨(rd_T90 x271002 x8).f0, (rd_T90 x271002 x8).f1⟩ : S90)])) else (none))) else (none))) else (if x7 = true then (spec_AddPivot.j1 k x271000 x271001 x271002 x283000 x283001 x283002) else (if x283002.length < 8796093022208 then (spec_AddPivot.j1 k x271000 x271001 x271002 x283000 x283001 (x283002 ++ [(⟨x272000, x272001⟩ : S90)])) else (none)))
def spec_AddPivot.j1 : Nat → List Int → List Int → List (S90) → List Int → List Int → List (S90) → Option (List Int × List Int × (List (S90)) × Bool)
 | 0, _, _, _, _, _, _ => none
 | k + 1, x271000, x271001, x271002, x283000, x283001, x283002 => (spec_IsCracker.f k x271000 x271001 x271002).bind fun t305 => (if t305 = true then ((spec_IsCracker.f k x283000 x283001 x283002).bind fun t306 => (if t306 = true then (some (x283000, x283001, x283002, true)) else ((spec_l4Copy.f x271000 x271001 x271002).bind fun bt307 => (some (bt307.1, bt307.2.1, bt307.2.2, false))))) else ((spec_l4Copy.f x271000 x271001 x271002).bind fun bt316 => (some (bt316.1, bt316.2.1, bt316.2.2, false))))
end
def spec_AddPivot.f (k : Nat) (l0_0 : List Int) (l0_1 : List Int) (l0_2 : List (S90)) (a1_0 : Int) (a1_1 : Int) : Option (List Int × List Int × (List (S90)) × Bool) := (spec_l4Copy.f l0_0 l0_1 l0_2).bind fun bt273 => (spec_AddPivot.l0 k false 0 l0_0 l0_1 l0_2 a1_0 a1_1 bt273.1 bt273.2.1 (([] : List (S90))))
theorem spec_AddPivot.mono_l : ∀ k, (∀ y0 y1 y2 y3 y4 y5 y6 y7 y8 y9, LeO (spec_AddPivot.l0 k y0 y1 y2 y3 y4 y5 y6 y7 y8 y9) (spec_AddPivot.l0 (k + 1) y0 y1 y2 y3 y4 y5 y6 y7 y8 y9)) ∧ (∀ y0 y1 y2 y3 y4 y5, LeO (spec_AddPivot.j1 k y0 y1 y2 y3 y4 y5) (spec_AddPivot.j1 (k + 1) y0 y1 y2 y3 y4 y5))
 | 0 => ⟨fun _ _ _ _ _ _ _ _ _ _ r h => by simp [spec_AddPivot.l0] at h, fun _ _ _ _ _ _ r h => by simp [spec_AddPivot.j1] at h⟩
 | k + 1 => by
  obtain ⟨ih0, ih1⟩ := spec_AddPivot.mono_l k
  refine ⟨?_, ?_⟩
  ·intro y0 y1 y2 y3 y4 y5 y6 y7 y8 y9
   unfold spec_AddPivot.l0
   exact mo
  ·intro y0 y1 y2 y3 y4 y5
   unfold spec_AddPivot.j1
   exact mo
theorem spec_AddPivot.mono : ∀ a0 a1 a2 a3 a4 k, LeO (spec_AddPivot.f k a0 a1 a2 a3 a4) (spec_AddPivot.f (k + 1) a0 a1 a2 a3 a4) := by
 intro a0 a1 a2 a3 a4 k
 obtain ⟨ih0, ih1⟩ := spec_AddPivot.mono_l k
 unfold spec_AddPivot.f
 exact mo
instance spec_AddPivot.mi (a0 a1 a2 a3 a4 k) : LeC (spec_AddPivot.f k a0 a1 a2 a3 a4) (spec_AddPivot.f (k + 1) a0 a1 a2 a3 a4) := ⟨spec_AddPivot.mono a0 a1 a2 a3 a4 k⟩
def spec_AddPivot.T7 : Bool × List (List Nat × List Nat) := (true, [([], []), ([0], [0]), ([1], [1]), ([2], [2]), ([3, 2], [2, 3]), ([2], [2]), ([4, 5, 2], [2, 4, 5]), ([6, 2], [2, 6]), ([7, 2], [2, 7]), ([2], [2]), ([9, 2], [2, 9]), ([8, 10, 2], [2, 8, 10]), ([2, 11], [2, 11])])
def spec_AddPivot.B7 : List Nat := [0, 1, 3, 7, 15, 7, 63, 127, 255, 7, 519, 2047, 4095]
theorem spec_AddPivot.tab7 : rtab .any (opsOf Try.f97 7) = spec_AddPivot.T7 := by kernel_rfl
theorem spec_AddPivot.bits7 : waitsOk spec_AddPivot.T7.2 spec_AddPivot.B7 = true := by kernel_rfl
def spec_AddPivot.T10 : Bool × List (List Nat × List Nat) := (true, [([], []), ([0], [0]), ([], []), ([2], [2]), ([], []), ([3, 4], [3, 4]), ([5], [5]), ([6], [6]), ([1, 7], [1, 7]), ([0, 1, 2, 3, 4, 5, 6, 7, 8], []), ([9, 8, 8, 0, 1, 2, 3, 4, 5, 6, 7, 8], [8, 9])])
def spec_AddPivot.B10 : List Nat := [0, 1, 0, 4, 0, 28, 60, 124, 255, 511, 1023]
theorem spec_AddPivot.tab10 : rtab .any (opsOf Try.f97 10) = spec_AddPivot.T10 := by kernel_rfl
theorem spec_AddPivot.bits10 : waitsOk spec_AddPivot.T10.2 spec_AddPivot.B10 = true := by kernel_rfl
set_option maxHeartbeats 8000000 in
set_option maxRecDepth 100000 in
theorem spec_AddPivot.calls (k : Nat) (A0_0 : Option Addr) (c0_0 : Nat) (l0_0 : List Int) (A0_1 : Option Addr) (c0_1 : Nat) (l0_1 : List Int) (A0_2 : Option Addr) (c0_2 : Nat) (l0_2 : List (S90)) (a1_0 : Int) (a1_1 : Int) (r1 : List Int) (r2 : List Int) (r3 : List (S90)) (r4 : Bool) (w : World) (hr0_0 : Kd.C (Kd.int .i64) w A0_0 l0_0.length l0_0) (hc0_0 : l0_0.length ≤ c0_0) (hr0_1 : Kd.C (Kd.int .i64) w A0_1 l0_1.length l0_1) (hc0_1 : l0_1.length ≤ c0_1) (hr0_2 : Kd.C k90 w A0_2 l0_2.length l0_2) (hc0_2 : l0_2.length ≤ c0_2) (h : spec_AddPivot.f k l0_0 l0_1 l0_2 a1_0 a1_1 = some (r1, r2, r3, r4)) :
  Calls Try.prog 97 #[.agg #[.slice A0_0 l0_0.length c0_0, .slice A0_1 l0_1.length c0_1, .slice A0_2 l0_2.length c0_2], .agg #[.int .i64 a1_0, .int .i64 a1_1]] w fun e w' => ∃ v0_ v1_ v2_ : Value, e = .returned (.tuple #[.agg #[v0_, v1_, v2_], .bool r4]) ∧ Kd.R (Kd.int .i64) 3 w' w.heap.size (fun k_ => some k_ ≠ (v1_ : Value).ownBlock) v0_ r1 ∧ Kd.R (Kd.int .i64) 3 w' w.heap.size (fun k_ => some k_ ≠ (v0_ : Value).ownBlock) v1_ r2 ∧ Kd.R k90 90 w' w.heap.size (fun _ => True) v2_ r3 ∧ Below w.heap.size w w' := by
 have hu45 := Try.underlying45
 have hu90 := Try.underlying90
 have HR0_0 := Aside0.mk hr0_0
 have HC0_0 := Aside0.mk hc0_0
 clear hr0_0 hc0_0
 have HR0_1 := Aside0.mk hr0_1
 have HC0_1 := Aside0.mk hc0_1
 clear hr0_1 hc0_1
 have HR0_2 := Aside0.mk hr0_2
 have HC0_2 := Aside0.mk hc0_2
 clear hr0_2 hc0_2
 have HB := Aside0.mk (Below.refl w.heap.size w)
 have H : ((spec_l4Copy.f l0_0 l0_1 l0_2).bind fun bt273 => (spec_AddPivot.l0 k false 0 l0_0 l0_1 l0_2 a1_0 a1_1 bt273.1 bt273.2.1 (([] : List (S90))))) = some (r1, r2, r3, r4) := h
 clear h
 revert H; refine bo ?_; rintro ⟨t273, t276, t279⟩ A3 H
 dsimp only at H
 obtain ⟨y283, hy283⟩ : ∃ y_ : List (S90), y_ = (([] : List (S90))) := ⟨_, rfl⟩
 replace H : (spec_AddPivot.l0 k false 0 l0_0 l0_1 l0_2 a1_0 a1_1 t273 t276 y283) = some (r1, r2, r3, r4) := by first | (rw [hy283]; with_reducible exact H) | (have H2_ := (Option.bind_some _ _).symm.trans H; rw [hy283]; with_reducible exact H2_) | (have H2_ := (Option.bind_some _ _).symm.trans H; with_reducible exact H2_) | with_reducible exact H | (rw [hy283]; exact H) | exact H
 have Ny283 := Aside0.mk hy283
 clear hy283
 have H' := Aside0.mk H
 clear H
 go_enter Try.func97, Try.ntmps97
 go_wp2_with (first | ((with_reducible refine gate_dst (N := 2) rfl ?_); refine bx 2 #[.slice A0_0 l0_0.length c0_0, .slice A0_1 l0_1.length c0_1, .slice A0_2 l0_2.length c0_2] 45 ?_; intro gb270 hg w4 hbox hb; have BK270 := mk hbox; have GW270 := wg hg; have GE270 := wg hg; replace HB := wh hb; clear hb hbox hg) | ((with_reducible refine gate_dst (N := 3) rfl ?_); refine bx 3 #[.int .i64 a1_0, .int .i64 a1_1] 90 ?_; intro gb271 hg w5 hbox hb; have BK271 := mk hbox; have GW271 := wg hg; have GE271 := wg hg; replace HB := wh hb; have NB270_271 := nl BK270 hg; have NB271_270 := nr BK270 hg; replace BK270 := wb BK270 hb; clear hb hbox hg) | ((with_reducible refine gate_dst (N := 4) rfl ?_); refine bx 4 #[.slice none 0 0, .slice none 0 0, .slice none 0 0] 45 ?_; intro gb272 hg w6 hbox hb; have BK272 := mk hbox; have GW272 := wg hg; have GE272 := wg hg; replace HB := wh hb; have NB270_272 := nl BK270 hg; have NB272_270 := nr BK270 hg; replace BK270 := wb BK270 hb; have NB271_272 := nl BK271 hg; have NB272_271 := nr BK271 hg; replace BK271 := wb BK271 hb; clear hb hbox hg; have hnb7 := NB270_271.out; have hnc7 := NB271_270.out; have hnb8 := NB270_272.out; have hnc8 := NB272_270.out; obtain ⟨hcz9_0, hcz9_1, hcz9_2, hfz9_0, hfz9_1, hfz9_2⟩ := bz3 BK270) | ((with_reducible refine gate_callee (f := 92) rfl ?_); refine gl (some 10) rfl Try.func92 #[.agg #[.slice A0_0 l0_0.length c0_0, .slice A0_1 l0_1.length c0_1, .slice A0_2 l0_2.length c0_2]] ?_; (with_reducible refine (spec_l4Copy.calls _ _ l0_0 _ _ l0_1 _ _ l0_2 t273 t276 t279 _ ?side1 ?side2 ?side3 ?side4 ?side5 ?side6 A3.out).mono ?_); (case side1 => exact uc (Kd.C_below HR0_0.out HB.out)); (case side2 => exact HC0_0.out); (case side3 => exact uc (Kd.C_below HR0_1.out HB.out)); (case side4 => exact HC0_1.out); (case side5 => exact uc (Kd.C_below HR0_2.out HB.out)); (case side6 => exact HC0_2.out); rintro e w10 ⟨v274, v277, v280, rfl, ho0, ho1, ho2, hb⟩; refine ⟨_, rfl, ?_⟩; have HO275 := mk (Kd.R_lower ho0 (below_size bl)); have HO278 := mk (Kd.R_lower ho1 (below_size bl)); have HO281 := mk (Kd.R_lower (Kd.R_newB ho2 (g := gb271) (o := .cells #[.int .i64 a1_0, .int .i64 a1_1] 90 (0, 0)) (ub BK271.out)) (below_size bl)); replace BK270 := wb BK270 hb; replace BK271 := wb BK271 hb; replace BK272 := wb BK272 hb; replace HB := wh hb; (try clear hb); (try clear hb2); (try clear hk); (try clear hi); (try clear ho0); (try clear ho1); (try clear ho2)) | ((with_reducible refine gate_dst (N := 6) rfl ?_); refine bx 6 #[.slice none 0 0, .slice none 0 0, .slice none 0 0] 45 ?_; intro gb282 hg w11 hbox hb; replace HO275 := mk (Kd.R_below (up HO275.out) hb); replace HO278 := mk (Kd.R_below (up HO278.out) hb); replace HO281 := mk (Kd.R_below (up HO281.out) hb); have BK282 := mk hbox; have GW282 := wg hg; have GE282 := wg hg; replace HB := wh hb; have NB270_282 := nl BK270 hg; have NB282_270 := nr BK270 hg; replace BK270 := wb BK270 hb; have NB271_282 := nl BK271 hg; have NB282_271 := nr BK271 hg; replace BK271 := wb BK271 hb; have NB272_282 := nl BK272 hg; have NB282_272 := nr BK272 hg; replace BK272 := wb BK272 hb; clear hb hbox hg; obtain ⟨Ao12, co12, eo12⟩ := Kd.R_slice HO275.out; subst eo12; have hnb13 := NB282_270.out; have hnc13 := NB270_282.out; have hnb14 := NB282_271.out; have hnc14 := NB271_282.out; have hnb15 := NB282_272.out; have hnc15 := NB272_282.out; obtain ⟨hcz16_0, hcz16_1, hcz16_2, hfz16_0, hfz16_1, hfz16_2⟩ := bz3 BK282; obtain ⟨Ao17, co17, eo17⟩ := Kd.R_slice HO278.out; subst eo17; obtain ⟨Ao18, co18, eo18⟩ := Kd.R_slice HO281.out; subst eo18) | ((with_reducible refine gate_dst (N := 11) rfl ?_); refine Kd.R_lit k90 _ 90 ?hg (N := 11) ?hd (xs := ([] : List (S90))) (inner := []) (ok := fun _ => True) (okp := fun _ => True) ?hr ?hp (fun _ hk => hk) trivial (Below.refl _ _) (Nat.le_refl _) (by simp) ?_; (case hd => rfl); (case hg => rfl); (case hr => first | (go_simp; done) | (go_simp; rfl)); (case hp => exact (Reps.none _ _)); intro v284 w19 ho20 hb hg_ hnew_; clear hg_ hnew_; (first | rw [← Ny283.out] at ho20 | (simp only [Int.reduceToNat] at ho20; rw [← Ny283.out] at ho20)); replace HO275 := mk (Kd.R_below (by exact rs1 HO275 BK282) hb); replace HO278 := mk (Kd.R_below (by exact rs1 HO278 BK282) hb); have HO285 := mk (Kd.R_lower (Kd.R_newB (Kd.R_new' ho20 (Kd.R_lt (by exact rs1 HO281 BK282))) (g := gb271) (o := .cells #[.int .i64 a1_0, .int .i64 a1_1] 90 (0, 0)) bq) (below_size bl)); replace HO281 := mk (Kd.R_elder' (by exact rs1 HO281 BK282) (Kd.R_base ho20) hb); replace BK270 := wx BK270 hb; replace BK271 := wx BK271 hb; replace BK272 := wx BK272 hb; replace BK282 := mk (blk_below (g := gb282) (o := .cells #[.slice Ao12 t273.length co12, .slice Ao17 t276.length co17, .slice Ao18 t279.length co18] 45 (0, 0)) bq hb); replace HB := wh hb; clear hb ho20; obtain ⟨Ao21, co21, eo21⟩ := Kd.R_slice HO285.out; subst eo21; obtain ⟨hcz22_0, hcz22_1, hcz22_2, hfz22_0, hfz22_1, hfz22_2⟩ := bz3 BK282))
 go_loopg [7, 8] k (fun kq v7 v8 w' => ∃ (x7_1 : Bool) (x8_1 : Int) (x283002_1 : List (S90)) (u283002 : Value), v7 = .bool x7_1 ∧ v8 = .int .i64 x8_1 ∧ Aside0 (spec_AddPivot.l0 kq x7_1 x8_1 l0_0 l0_1 l0_2 a1_0 a1_1 t273 t276 x283002_1 = some (r1, r2, r3, r4)) ∧ Aside0 (kq ≤ k) ∧ Aside0 (Kd.R (Kd.int .i64) 3 w' w.heap.size (fun k_ => some k_ ≠ ((.slice Ao17 t276.length co17) : Value).ownBlock) (.slice Ao12 t273.length co12) t273) ∧ Aside0 (Kd.R (Kd.int .i64) 3 w' w.heap.size (fun k_ => some k_ ≠ ((.slice Ao12 t273.length co12) : Value).ownBlock) (.slice Ao17 t276.length co17) t276) ∧ Aside0 (Kd.R k90 90 w' w.heap.size (fun k_ => k_ ≠ gb271) u283002 x283002_1) ∧ Aside0 (w'.heap[gb270]? = some (.cells #[(.slice A0_0 l0_0.length c0_0), (.slice A0_1 l0_1.length c0_1), (.slice A0_2 l0_2.length c0_2)] 45 (0, 0))) ∧ Aside0 (w'.heap[gb271]? = some (.cells #[.int .i64 a1_0, .int .i64 a1_1] 90 (0, 0))) ∧ Aside0 (w'.heap[gb272]? = some (.cells #[(.slice none 0 0), (.slice none 0 0), (.slice none 0 0)] 45 (0, 0))) ∧ Aside0 (w'.heap[gb282]? = some (.cells #[(.slice Ao12 t273.length co12), (.slice Ao17 t276.length co17), u283002] 45 (0, 0))) ∧ Aside0 (Below w.heap.size w w'))
 case atStart => exact ⟨(false), (0), (y283), (.slice Ao21 y283.length co21), (by first | rfl | (simp; done) | (simp [*]; done)), (by first | rfl | (simp; done) | (simp [*]; done)), H', ⟨Nat.le_refl _⟩, ⟨(by exact rm (rs1 HO275 BK282))⟩, ⟨(by exact rm (rs1 HO278 BK282))⟩, ⟨(by exact rm (rs1 HO285 BK282))⟩, ⟨bq⟩, ⟨bq⟩, ⟨bq⟩, ⟨bq⟩, ⟨bl⟩⟩
 case round =>
  clear H'
  try clear c1
  try clear p2
  try clear c7
  try clear c8
  try clear c9
  try clear c13
  try clear c14
  try clear c15
  try clear hcz16_0
  try clear hcz16_1
  try clear hcz16_2
  try clear hcz22_0
  try clear hcz22_1
  try clear hcz22_2
  try clear hcz9_0
  try clear hcz9_1
  try clear hcz9_2
  try clear hfz16_0
  try clear hfz16_1
  try clear hfz16_2
  try clear hfz22_0
  try clear hfz22_1
  try clear hfz22_2
  try clear hfz9_0
  try clear hfz9_1
  try clear hfz9_2
  obtain ⟨x7_1, x8_1, x283002_1, u283002, rfl, rfl, HA, HK1, HO_283000, HO_283001, HO_283002, BK270, BK271, BK272, BK282, HB⟩ := hrel
  cases gk with
  | zero => exact absurd HA.out (by simp [spec_AddPivot.l0])
  | succ k1 =>
   have H := HA.out
   clear HA
   simp only [spec_AddPivot.l0] at H
   by_cases c23 : x8_1 < (l0_2.length : Int)
   ·rw [if_pos c23] at H
    have c23b0 : decide (x8_1 < (l0_2.length : Int)) = true := decide_eq_true c23
    clear c23
    by_cases c24 : x7_1 = true
    ·subst c24
     rw [if_pos rfl] at H
     by_cases c25 : 0 ≤ x8_1
     ·rw [if_pos c25] at H
      have c25b0 : decide (0 ≤ x8_1) = true := decide_eq_true c25
      clear c25
      by_cases c26 : x283002_1.length < 8796093022208
      ·rw [if_pos c26] at H
       have LMc26 := Aside0.mk c26
       clear c26
       obtain ⟨y287, hy287⟩ : ∃ y_ : List (S90), y_ = (x283002_1 ++ [(⟨(rd_T90 l0_2 x8_1).f0, (rd_T90 l0_2 x8_1).f1⟩ : S90)]) := ⟨_, rfl⟩
       replace H : (spec_AddPivot.l0 k1 true (wrap64 (x8_1 + 1)) l0_0 l0_1 l0_2 a1_0 a1_1 t273 t276 y287) = some (r1, r2, r3, r4) := by first | (rw [hy287]; with_reducible exact H) | (have H2_ := (Option.bind_some _ _).symm.trans H; rw [hy287]; with_reducible exact H2_) | (have H2_ := (Option.bind_some _ _).symm.trans H; with_reducible exact H2_) | with_reducible exact H | (rw [hy287]; exact H) | exact H
       have Ny287 := Aside0.mk hy287
       clear hy287
       have H' := Aside0.mk H
       clear H
       have hnb27 := NB270_271.out
       have hnc27 := NB271_270.out
       have hnb28 := NB270_272.out
       have hnc28 := NB272_270.out
       have hnb29 := NB270_282.out
       have hnc29 := NB282_270.out
       obtain ⟨hcz30_0, hcz30_1, hcz30_2, hfz30_0, hfz30_1, hfz30_2⟩ := bz3 BK270
       try go_wp2
       replace HO_283000 := mk (Kd.R_drew HO_283000.out)
       replace HO_283001 := mk (Kd.R_drew HO_283001.out)
       replace HO_283002 := mk (Kd.R_drew HO_283002.out)
       replace BK270 := wd BK270
       replace BK271 := wd BK271
       replace BK272 := wd BK272
       replace BK282 := wd BK282
       replace HB := mk (below_drew1 HB.out)
       refine start_ (n := 13) (S := fun w' => True) (ds := []) #[F_, F_, F_, F_, F_, F_, F_, F_, F_, F_, F_, F_, F_] (by kernel_rfl) rfl rfl trivial (fun hHeld => ?_); refine with_tabW spec_AddPivot.tab7 spec_AddPivot.bits7 (fun HT_ HW_ => ?_)
       generalize wr.drew = w31 at HO_283000 HO_283001 HO_283002 BK270 BK271 BK272 BK282 HB hHeld ⊢
       refine pu 0 20 (tf 1 12) ?_
       refine pu 1 21 (tf 2 11) ?_
       refine pu 2 22 (tf 3 10) ?_
       refine pn 3 23 (tf 4 9) ?_
       refine pn 4 24 (tf 5 8) ?_
       refine pn 5 25 (tf 6 7) ?_
       refine pn 6 26 (tf 7 6) ?_
       refine pn 7 27 (tf 8 5) ?_
       refine pn 8 28 (tf 9 4) ?_
       refine pn 9 29 (tf 10 3) ?_
       refine pn 10 30 (tf 11 2) ?_
       refine pn 11 31 (tf 12 1) ?_
       refine pu 12 32 (tf 13 0) ?_
       refine done_ (done_of HT_.out (by kernel_rfl)) ?_
       try go_wp2
       replace HO_283000 := mk (Kd.R_drew HO_283000.out)
       replace HO_283001 := mk (Kd.R_drew HO_283001.out)
       replace HO_283002 := mk (Kd.R_drew HO_283002.out)
       replace BK270 := wd BK270
       replace BK271 := wd BK271
       replace BK272 := wd BK272
       replace BK282 := wd BK282
       replace HB := mk (below_drew1 HB.out)
       have p286 : 0 ≤ (x8_1 : Int) := of_decide_eq_true (by first | (with_reducible assumption) | assumption)
       have q286 : x8_1 < (l0_2.length : Int) := of_decide_eq_true (by first | (with_reducible assumption) | assumption)
       obtain ⟨ad286, e286, hx286_0, hx286_1⟩ := at_T90 HR0_2.out x8_1 p286 q286
       have hw286_1 := hx286_1
       have hw286_0 := hx286_0
       cases e286
       replace hx286_0 := (HB.out.cell (World.block_lt_of_cell? w _ hx286_0)).trans hx286_0
       replace hx286_1 := (HB.out.cell (World.block_lt_of_cell? w _ hx286_1)).trans hx286_1
       replace p286 := eq_true p286
       replace q286 := eq_true q286
       refine start_ (n := 11) (S := fun w' => w'.cell? ⟨gb282, 0, none⟩ = some (.slice Ao12 t273.length co12) ∧ w'.cell? ⟨gb282, 1, none⟩ = some (.slice Ao17 t276.length co17) ∧ w'.cell? ⟨gb282, 2, none⟩ = some (u283002) ∧ w'.cell? ⟨gb270, 0, none⟩ = some (.slice A0_0 l0_0.length c0_0) ∧ w'.cell? ⟨gb270, 1, none⟩ = some (.slice A0_1 l0_1.length c0_1) ∧ w'.cell? ⟨gb270, 2, none⟩ = some (.slice (some ad286) l0_2.length c0_2) ∧ w'.cell? (ad286.add ((x8_1).toNat * 2)) = some (.int .i64 ((rd_T90 l0_2 x8_1).f0)) ∧ w'.cell? ⟨(ad286.add ((x8_1).toNat * 2)).block, (ad286.add ((x8_1).toNat * 2)).off + 1, none⟩ = some (.int .i64 ((rd_T90 l0_2 x8_1).f1))) (ds := [10]) #[F_, F_, F_, F_, F_, F_, F_, F_, F_, F_, F_] (by kernel_rfl) rfl rfl ⟨(blk_cell BK282.out 0).trans rfl, (blk_cell BK282.out 1).trans rfl, (blk_cell BK282.out 2).trans rfl, (blk_cell BK270.out 0).trans rfl, (blk_cell BK270.out 1).trans rfl, (blk_cell BK270.out 2).trans rfl, ((HB.out.cell (World.block_lt_of_cell? w _ hw286_0)).trans hw286_0), ((HB.out.cell (World.block_lt_of_cell? w _ hw286_1)).trans hw286_1)⟩ (fun hHeld => ?_); refine with_tabW spec_AddPivot.tab10 spec_AddPivot.bits10 (fun HT_ HW_ => ?_)
       generalize w31.drew = w32 at HO_283000 HO_283001 HO_283002 BK270 BK271 BK272 BK282 HB hx286_0 hx286_1 hHeld ⊢
       refine pu 0 39 (tf 1 10) ?_
       refine pu 2 41 #[T_,F_,T_,F_,F_,F_,F_,F_,F_,F_,F_] ?_
       refine pu 4 43 #[T_,F_,T_,F_,T_,F_,F_,F_,F_,F_,F_] ?_
       refine tk 1 40 #[T_,T_,T_,F_,T_,F_,F_,F_,F_,F_,F_] hHeld ?_
       refine tk 3 42 (tf 5 6) hHeld ?_
       refine pu 5 44 (tf 6 5) ?_
       refine tk 6 45 (tf 7 4) hHeld ?_
       refine on 7 46 (tf 8 3) (fun K hK => ?_)
       refine value_ (w1 := ?_) (v := ?_) (by rfl) rfl ?_ ?_
       rotate_left 2
       ·go_simp
        constructor
        ·rfl
        ·rfl
       refine hK.out _ _ ⟨(blk_cell (blk_alloc BK282.out _) 0).trans rfl, (blk_cell (blk_alloc BK282.out _) 1).trans rfl, (blk_cell (blk_alloc BK282.out _) 2).trans rfl, (blk_cell (blk_alloc BK270.out _) 0).trans rfl, (blk_cell (blk_alloc BK270.out _) 1).trans rfl, (blk_cell (blk_alloc BK270.out _) 2).trans rfl, (World.cell?_alloc_lt _ _ _ (World.block_lt_of_cell? _ _ (((HB.out.cell (World.block_lt_of_cell? w _ hw286_0)).trans hw286_0)))).trans (((HB.out.cell (World.block_lt_of_cell? w _ hw286_0)).trans hw286_0)), (World.cell?_alloc_lt _ _ _ (World.block_lt_of_cell? _ _ (((HB.out.cell (World.block_lt_of_cell? w _ hw286_1)).trans hw286_1)))).trans (((HB.out.cell (World.block_lt_of_cell? w _ hw286_1)).trans hw286_1))⟩ (fun hHeld => ?_)
       clear hK K
       refine nm 46 ?_
       refine on 8 47 (tf 9 2) (fun K hK => ?_)
       refine Kd.R_append_step k90 (w0 := w) w.heap.size (by rfl) (.tmp 40) (.tmp 46) 43 90 (.agg #[(.int .i64 0), (.int .i64 0)]) 16 rfl Try.underlying43 info90 rfl (by decide) (by omega) u283002 x283002_1 (⟨(rd_T90 l0_2 x8_1).f0, (rd_T90 l0_2 x8_1).f1⟩ : S90) [.int .i64 ((rd_T90 l0_2 x8_1).f0), .int .i64 ((rd_T90 l0_2 x8_1).f1)] (fun k_ => k_ ≠ gb271) (fun _ => False) rfl rfl ?aP (fun _ hk => hk.elim) ?aF ?aO ?aB ?aS ?aL ?_
       (case aP => exact k90_mkM _ _ _ (⟨(rd_T90 l0_2 x8_1).f0, (rd_T90 l0_2 x8_1).f1⟩ : S90))
       (case aB => exact bl)
       (case aF => exact (fun k_ hk => Kd.freshB (g := gb271) (o := .cells #[.int .i64 a1_0, .int .i64 a1_1] 90 (0, 0)) (ub BK271.out) k_ hk))
       (case aO => exact (up HO_283002.out))
       (case aS => exact (below_size bl))
       (case aL => have := LMc26.out; omega)
       intro v288 w33 ho hb hg hat
       rw [← Ny287.out] at ho
       replace HO_283000 := mk (Kd.R_over' (up HO_283000.out) (Kd.R_typed (up HO_283002.out)) (by decide) hg)
       replace HO_283001 := mk (Kd.R_over' (up HO_283001.out) (Kd.R_typed (up HO_283002.out)) (by decide) hg)
       replace BK270 := mk (blk_grown (g := gb270) (o := .cells #[.slice A0_0 l0_0.length c0_0, .slice A0_1 l0_1.length c0_1, .slice (some ad286) l0_2.length c0_2] 45 (0, 0)) (ub BK270.out) hg (Kd.R_ne HO_283002.out BK270.out (by decide)))
       replace BK271 := mk (blk_grown (g := gb271) (o := .cells #[.int .i64 a1_0, .int .i64 a1_1] 90 (0, 0)) (ub BK271.out) hg (Kd.R_away HO_283002.out (fun _ hk => hk)))
       replace BK272 := mk (blk_grown (g := gb272) (o := .cells #[.slice none 0 0, .slice none 0 0, .slice none 0 0] 45 (0, 0)) (ub BK272.out) hg (Kd.R_ne HO_283002.out BK272.out (by decide)))
       replace BK282 := mk (blk_grown (g := gb282) (o := .cells #[.slice Ao12 t273.length co12, .slice Ao17 t276.length co17, u283002] 45 (0, 0)) (ub BK282.out) hg (Kd.R_ne HO_283002.out BK282.out (by decide)))
       replace HB := mk hb
       have HO289 := mk ho
       clear HO_283002
       clear ho hb hg hat
       obtain ⟨Ao34, co34, eo34⟩ := Kd.R_slice HO289.out
       (first | subst eo34 | (injection eo34 with f1_ f2_ f3_; have f4_ := f1_.symm; have f5_ := f3_.symm; clear f1_ f2_ f3_; subst f4_; subst f5_))
       refine hK.out _ _ ⟨(blk_cell BK282.out 0).trans rfl, (blk_cell BK282.out 1).trans rfl, (blk_cell BK282.out 2).trans rfl, (blk_cell BK270.out 0).trans rfl, (blk_cell BK270.out 1).trans rfl, (blk_cell BK270.out 2).trans rfl, ((HB.out.cell (World.block_lt_of_cell? w _ hw286_0)).trans hw286_0), ((HB.out.cell (World.block_lt_of_cell? w _ hw286_1)).trans hw286_1)⟩ (fun hHeld => ?_)
       clear hK K
       refine nm 47 ?_
       refine pu 9 48 (tf 10 1) ?_
       refine last_ (i := 10) (N := none) #[T_, T_, T_, T_, T_, T_, T_, T_, T_, T_, T_] rfl rfl (one_of HT_.out (by kernel_rfl)) (by decide) (fun K hK => ?_)
       have hs35 : w33.cell? ⟨gb282, 2, none⟩ = some (u283002) := (blk_cell BK282.out 2).trans rfl
       have hfs35 := blk_frozen BK282.out 2
       have hns35_0 := NB270_282.out
       have hns35_1 := NB271_282.out
       have hns35_2 := NB272_282.out
       have hms35_0 := NB282_270.out
       have hms35_1 := NB282_271.out
       have hms35_2 := NB282_272.out
       refine skip_ (w1 := ?_) (by rfl) rfl ?_ ?_
       rotate_left
       ·go_simp
        rfl
       refine hK.out _ _ ?_
       clear hK K
       refine done_ (done_of HT_.out (by kernel_rfl)) ?_
       try go_wp2
       go_roundg k1
       case measure => have := HK1.out; omega
       case rel => exact ⟨(true), (wrap64 (x8_1 + 1)), (y287), (.slice Ao34 y287.length co34), (by first | rfl | (simp; done) | (simp [*]; done)), (by first | rfl | (simp; done) | (simp [*]; done)), H', ⟨by have := HK1.out; omega⟩, ⟨(by exact rm (rs1 HO_283000 BK282))⟩, ⟨(by exact rm (rs1 HO_283001 BK282))⟩, ⟨(by exact rm (rs1 HO289 BK282))⟩, ⟨bq⟩, ⟨bq⟩, ⟨bq⟩, ⟨bq⟩, ⟨bl⟩⟩
      ·rw [if_neg c26] at H
       exact absurd H (by simp)
     ·rw [if_neg c25] at H
      exact absurd H (by simp)
    ·replace c24 := Bool.eq_false_iff.mpr c24
     subst c24
     rw [if_neg nf] at H
     by_cases c36 : 0 ≤ x8_1
     ·rw [if_pos c36] at H
      have c36b0 : decide (0 ≤ x8_1) = true := decide_eq_true c36
      clear c36
      by_cases c37 : ((rd_T90 l0_2 x8_1).f0) > a1_0
      ·rw [if_pos c37] at H
       have c37b0 : decide (a1_0 < ((rd_T90 l0_2 x8_1).f0)) = true := decide_eq_true c37
       clear c37
       by_cases c38 : x283002_1.length < 8796093022208
       ·rw [if_pos c38] at H
        have LMc38 := Aside0.mk c38
        clear c38
        obtain ⟨y291, hy291⟩ : ∃ y_ : List (S90), y_ = (x283002_1 ++ [(⟨a1_0, a1_1⟩ : S90)]) := ⟨_, rfl⟩
        replace H : (if y291.length < 8796093022208 then (spec_AddPivot.l0 k1 true (wrap64 (x8_1 + 1)) l0_0 l0_1 l0_2 a1_0 a1_1 t273 t276 (y291 ++ [(⟨(rd_T90 l0_2 x8_1).f0, (rd_T90 l0_2 x8_1).f1⟩ : S90)])) else (none)) = some (r1, r2, r3, r4) := by first | (rw [hy291]; with_reducible exact H) | (have H2_ := (Option.bind_some _ _).symm.trans H; rw [hy291]; with_reducible exact H2_) | (have H2_ := (Option.bind_some _ _).symm.trans H; with_reducible exact H2_) | with_reducible exact H | (rw [hy291]; exact H) | exact H
        have Ny291 := Aside0.mk hy291
        clear hy291
        by_cases c39 : y291.length < 8796093022208
        ·rw [if_pos c39] at H
         have LMc39 := Aside0.mk c39
         clear c39
         obtain ⟨y295, hy295⟩ : ∃ y_ : List (S90), y_ = (y291 ++ [(⟨(rd_T90 l0_2 x8_1).f0, (rd_T90 l0_2 x8_1).f1⟩ : S90)]) := ⟨_, rfl⟩
         replace H : (spec_AddPivot.l0 k1 true (wrap64 (x8_1 + 1)) l0_0 l0_1 l0_2 a1_0 a1_1 t273 t276 y295) = some (r1, r2, r3, r4) := by first | (rw [hy295]; with_reducible exact H) | (have H2_ := (Option.bind_some _ _).symm.trans H; rw [hy295]; with_reducible exact H2_) | (have H2_ := (Option.bind_some _ _).symm.trans H; with_reducible exact H2_) | with_reducible exact H | (rw [hy295]; exact H) | exact H
         have Ny295 := Aside0.mk hy295
         clear hy295
         have H' := Aside0.mk H
         clear H
         have hnb40 := NB270_271.out
         have hnc40 := NB271_270.out
         have hnb41 := NB270_272.out
         have hnc41 := NB272_270.out
         have hnb42 := NB270_282.out
         have hnc42 := NB282_270.out
         obtain ⟨hcz43_0, hcz43_1, hcz43_2, hfz43_0, hfz43_1, hfz43_2⟩ := bz3 BK270
         try go_wp2
         replace HO_283000 := mk (Kd.R_drew HO_283000.out)
         replace HO_283001 := mk (Kd.R_drew HO_283001.out)
         replace HO_283002 := mk (Kd.R_drew HO_283002.out)
         replace BK270 := wd BK270
         replace BK271 := wd BK271
         replace BK272 := wd BK272
         replace BK282 := wd BK282
         replace HB := mk (below_drew1 HB.out)
         have p290 : 0 ≤ (x8_1 : Int) := of_decide_eq_true (by first | (with_reducible assumption) | assumption)
         have q290 : x8_1 < (l0_2.length : Int) := of_decide_eq_true (by first | (with_reducible assumption) | assumption)
         obtain ⟨ad290, e290, hx290_0, hx290_1⟩ := at_T90 HR0_2.out x8_1 p290 q290
         have hw290_1 := hx290_1
         have hw290_0 := hx290_0
         cases e290
         replace hx290_0 := (HB.out.cell (World.block_lt_of_cell? w _ hx290_0)).trans hx290_0
         replace hx290_1 := (HB.out.cell (World.block_lt_of_cell? w _ hx290_1)).trans hx290_1
         replace p290 := eq_true p290
         replace q290 := eq_true q290
         refine start_ (n := 13) (S := fun w' => w'.cell? ⟨gb270, 0, none⟩ = some (.slice A0_0 l0_0.length c0_0) ∧ w'.cell? ⟨gb270, 1, none⟩ = some (.slice A0_1 l0_1.length c0_1) ∧ w'.cell? ⟨gb270, 2, none⟩ = some (.slice (some ad290) l0_2.length c0_2) ∧ w'.cell? ⟨gb271, 0, none⟩ = some (.int .i64 a1_0) ∧ w'.cell? ⟨gb271, 1, none⟩ = some (.int .i64 a1_1) ∧ w'.cell? (ad290.add ((x8_1).toNat * 2)) = some (.int .i64 ((rd_T90 l0_2 x8_1).f0)) ∧ w'.cell? ⟨(ad290.add ((x8_1).toNat * 2)).block, (ad290.add ((x8_1).toNat * 2)).off + 1, none⟩ = some (.int .i64 ((rd_T90 l0_2 x8_1).f1))) (ds := []) #[F_, F_, F_, F_, F_, F_, F_, F_, F_, F_, F_, F_, F_] (by kernel_rfl) rfl rfl ⟨(blk_cell BK270.out 0).trans rfl, (blk_cell BK270.out 1).trans rfl, (blk_cell BK270.out 2).trans rfl, (blk_cell BK271.out 0).trans rfl, (blk_cell BK271.out 1).trans rfl, ((HB.out.cell (World.block_lt_of_cell? w _ hw290_0)).trans hw290_0), ((HB.out.cell (World.block_lt_of_cell? w _ hw290_1)).trans hw290_1)⟩ (fun hHeld => ?_); refine with_tabW spec_AddPivot.tab7 spec_AddPivot.bits7 (fun HT_ HW_ => ?_)
         generalize wr.drew = w44 at HO_283000 HO_283001 HO_283002 BK270 BK271 BK272 BK282 HB hx290_0 hx290_1 hHeld ⊢
         refine pu 0 20 (tf 1 12) ?_
         refine pu 1 21 (tf 2 11) ?_
         refine pu 2 22 (tf 3 10) ?_
         refine pu 3 23 (tf 4 9) ?_
         refine pu 5 25 #[T_,T_,T_,T_,F_,T_,F_,F_,F_,F_,F_,F_,F_] ?_
         refine pu 9 29 #[T_,T_,T_,T_,F_,T_,F_,F_,F_,T_,F_,F_,F_] ?_
         refine tk 4 24 #[T_,T_,T_,T_,T_,T_,F_,F_,F_,T_,F_,F_,F_] hHeld ?_
         refine pu 6 26 #[T_,T_,T_,T_,T_,T_,T_,F_,F_,T_,F_,F_,F_] ?_
         refine pu 7 27 #[T_,T_,T_,T_,T_,T_,T_,T_,F_,T_,F_,F_,F_] ?_
         refine tk 8 28 (tf 10 3) hHeld ?_
         refine tk 10 30 (tf 11 2) hHeld ?_
         refine pu 11 31 (tf 12 1) ?_
         refine pu 12 32 (tf 13 0) ?_
         refine done_ (done_of HT_.out (by kernel_rfl)) ?_
         have hnb45 := NB282_271.out
         have hnc45 := NB271_282.out
         have hnb46 := NB282_272.out
         have hnc46 := NB272_282.out
         obtain ⟨hcz47_0, hcz47_1, hcz47_2, hfz47_0, hfz47_1, hfz47_2⟩ := bz3 BK282
         have hnb48 := NB271_272.out
         have hnc48 := NB272_271.out
         obtain ⟨hcz49_0, hcz49_1, hfz49_0, hfz49_1⟩ := bz2 BK271
         try go_wp2_with (first | ((with_reducible refine gate_builtin (b := .append) (xs := #[.tmp 34, .tmp 36]) rfl ?_); at_builtin; refine Kd.R_append k90 (w0 := w) w.heap.size rfl (.tmp 34) (.tmp 36) 43 90 (.agg #[(.int .i64 0), (.int .i64 0)]) 16 rfl Try.underlying43 info90 rfl (by decide) (by omega) u283002 x283002_1 (⟨a1_0, a1_1⟩ : S90) [.int .i64 a1_0, .int .i64 a1_1] (fun k_ => k_ ≠ gb271) (fun _ => False) rfl rfl ?aP (fun _ hk => hk.elim) ?aF ?aO ?aB ?aS ?aL ?_; (case aP => exact k90_mkM _ _ _ (⟨a1_0, a1_1⟩ : S90)); (case aB => exact bl); (case aF => exact (fun k_ hk => Kd.freshB (g := gb271) (o := .cells #[.int .i64 a1_0, .int .i64 a1_1] 90 (0, 0)) (ub BK271.out) k_ hk)); (case aO => exact (up HO_283002.out)); (case aS => exact (below_size bl)); (case aL => have := LMc38.out; omega); intro v292 w50 ho hb hg hat; rw [← Ny291.out] at ho; replace HO_283000 := mk (Kd.R_over' (up HO_283000.out) (Kd.R_typed (up HO_283002.out)) (by decide) hg); replace HO_283001 := mk (Kd.R_over' (up HO_283001.out) (Kd.R_typed (up HO_283002.out)) (by decide) hg); replace BK270 := mk (blk_grown (g := gb270) (o := .cells #[.slice A0_0 l0_0.length c0_0, .slice A0_1 l0_1.length c0_1, .slice (some ad290) l0_2.length c0_2] 45 (0, 0)) (ub BK270.out) hg (Kd.R_ne HO_283002.out BK270.out (by decide))); replace BK271 := mk (blk_grown (g := gb271) (o := .cells #[.int .i64 a1_0, .int .i64 a1_1] 90 (0, 0)) (ub BK271.out) hg (Kd.R_away HO_283002.out (fun _ hk => hk))); replace BK272 := mk (blk_grown (g := gb272) (o := .cells #[.slice none 0 0, .slice none 0 0, .slice none 0 0] 45 (0, 0)) (ub BK272.out) hg (Kd.R_ne HO_283002.out BK272.out (by decide))); replace BK282 := mk (blk_grown (g := gb282) (o := .cells #[.slice Ao12 t273.length co12, .slice Ao17 t276.length co17, u283002] 45 (0, 0)) (ub BK282.out) hg (Kd.R_ne HO_283002.out BK282.out (by decide))); replace HB := mk hb; have HO293 := mk ho; clear HO_283002; clear ho hb hg hat; obtain ⟨Ao51, co51, eo51⟩ := Kd.R_slice HO293.out; subst eo51; obtain ⟨hcz52_0, hcz52_1, hcz52_2, hfz52_0, hfz52_1, hfz52_2⟩ := bz3 BK282))
         have n0_ : Aside0 (Kd.R (Kd.int .i64) 3 (w50.setCell ⟨gb282, 2, none⟩ (.slice Ao51 y291.length co51)) w.heap.size (fun k_ => some k_ ≠ (.slice Ao17 t276.length co17 : Value).ownBlock) (.slice Ao12 t273.length co12) t273) := ⟨(by exact rm (rs1 HO_283000 BK282))⟩
         have n1_ : Aside0 (Kd.R (Kd.int .i64) 3 (w50.setCell ⟨gb282, 2, none⟩ (.slice Ao51 y291.length co51)) w.heap.size (fun k_ => some k_ ≠ (.slice Ao12 t273.length co12 : Value).ownBlock) (.slice Ao17 t276.length co17) t276) := ⟨(by exact rm (rs1 HO_283001 BK282))⟩
         have n2_ : Aside0 (Kd.R k90 90 (w50.setCell ⟨gb282, 2, none⟩ (.slice Ao51 y291.length co51)) w.heap.size (fun k_ => k_ ≠ gb271) (.slice Ao51 y291.length co51) y291) := ⟨(by exact rm (rs1 HO293 BK282))⟩
         have n3_ : Aside0 ((w50.setCell ⟨gb282, 2, none⟩ (.slice Ao51 y291.length co51)).heap[gb270]? = some (.cells #[.slice A0_0 l0_0.length c0_0, .slice A0_1 l0_1.length c0_1, .slice (some ad290) l0_2.length c0_2] 45 (0, 0))) := ⟨bq⟩
         have n4_ : Aside0 ((w50.setCell ⟨gb282, 2, none⟩ (.slice Ao51 y291.length co51)).heap[gb271]? = some (.cells #[.int .i64 a1_0, .int .i64 a1_1] 90 (0, 0))) := ⟨bq⟩
         have n5_ : Aside0 ((w50.setCell ⟨gb282, 2, none⟩ (.slice Ao51 y291.length co51)).heap[gb272]? = some (.cells #[.slice none 0 0, .slice none 0 0, .slice none 0 0] 45 (0, 0))) := ⟨bq⟩
         have n6_ : Aside0 ((w50.setCell ⟨gb282, 2, none⟩ (.slice Ao51 y291.length co51)).heap[gb282]? = some (.cells #[.slice Ao12 t273.length co12, .slice Ao17 t276.length co17, .slice Ao51 y291.length co51] 45 (0, 0))) := ⟨bq⟩
         have n7_ : Aside0 (Below w.heap.size w (w50.setCell ⟨gb282, 2, none⟩ (.slice Ao51 y291.length co51))) := ⟨bl⟩
         (try clear HO_283000)
         (try clear HO_283001)
         (try clear HO293)
         (try clear BK270)
         (try clear BK271)
         (try clear BK272)
         (try clear BK282)
         (try clear HB)
         generalize (w50.setCell ⟨gb282, 2, none⟩ (.slice Ao51 y291.length co51)) = w53 at n0_ n1_ n2_ n3_ n4_ n5_ n6_ n7_ ⊢
         have HO_283000 := n0_
         have HO_283001 := n1_
         have HO293 := n2_
         have BK270 := n3_
         have BK271 := n4_
         have BK272 := n5_
         have BK282 := n6_
         have HB := n7_
         clear n0_ n1_ n2_ n3_ n4_ n5_ n6_ n7_
         replace HO_283000 := mk (Kd.R_drew HO_283000.out)
         replace HO_283001 := mk (Kd.R_drew HO_283001.out)
         replace HO293 := mk (Kd.R_drew HO293.out)
         replace BK270 := wd BK270
         replace BK271 := wd BK271
         replace BK272 := wd BK272
         replace BK282 := wd BK282
         replace HB := mk (below_drew1 HB.out)
         have p294 : 0 ≤ (x8_1 : Int) := of_decide_eq_true (by first | (with_reducible assumption) | assumption)
         have q294 : x8_1 < (l0_2.length : Int) := of_decide_eq_true (by first | (with_reducible assumption) | assumption)
         obtain ⟨ad294, e294, hx294_0, hx294_1⟩ := at_T90 HR0_2.out x8_1 p294 q294
         have hw294_1 := hx294_1
         have hw294_0 := hx294_0
         obtain rfl : ad290 = ad294 := (by injection e294)
         replace hx294_0 := (HB.out.cell (World.block_lt_of_cell? w _ hx294_0)).trans hx294_0
         replace hx294_1 := (HB.out.cell (World.block_lt_of_cell? w _ hx294_1)).trans hx294_1
         replace p294 := eq_true p294
         replace q294 := eq_true q294
         refine start_ (n := 11) (S := fun w' => w'.cell? ⟨gb282, 0, none⟩ = some (.slice Ao12 t273.length co12) ∧ w'.cell? ⟨gb282, 1, none⟩ = some (.slice Ao17 t276.length co17) ∧ w'.cell? ⟨gb282, 2, none⟩ = some (.slice Ao51 y291.length co51) ∧ w'.cell? ⟨gb270, 0, none⟩ = some (.slice A0_0 l0_0.length c0_0) ∧ w'.cell? ⟨gb270, 1, none⟩ = some (.slice A0_1 l0_1.length c0_1) ∧ w'.cell? ⟨gb270, 2, none⟩ = some (.slice (some ad290) l0_2.length c0_2) ∧ w'.cell? (ad290.add ((x8_1).toNat * 2)) = some (.int .i64 ((rd_T90 l0_2 x8_1).f0)) ∧ w'.cell? ⟨(ad290.add ((x8_1).toNat * 2)).block, (ad290.add ((x8_1).toNat * 2)).off + 1, none⟩ = some (.int .i64 ((rd_T90 l0_2 x8_1).f1))) (ds := [10]) #[F_, F_, F_, F_, F_, F_, F_, F_, F_, F_, F_] (by kernel_rfl) rfl rfl ⟨(blk_cell BK282.out 0).trans rfl, (blk_cell BK282.out 1).trans rfl, (blk_cell BK282.out 2).trans rfl, (blk_cell BK270.out 0).trans rfl, (blk_cell BK270.out 1).trans rfl, (blk_cell BK270.out 2).trans rfl, ((HB.out.cell (World.block_lt_of_cell? w _ hw294_0)).trans hw294_0), ((HB.out.cell (World.block_lt_of_cell? w _ hw294_1)).trans hw294_1)⟩ (fun hHeld => ?_); refine with_tabW spec_AddPivot.tab10 spec_AddPivot.bits10 (fun HT_ HW_ => ?_)
         generalize w53.drew = w54 at HO_283000 HO_283001 HO293 BK270 BK271 BK272 BK282 HB hx294_0 hx294_1 hHeld ⊢
         refine pu 0 39 (tf 1 10) ?_
         refine pu 2 41 #[T_,F_,T_,F_,F_,F_,F_,F_,F_,F_,F_] ?_
         refine pu 4 43 #[T_,F_,T_,F_,T_,F_,F_,F_,F_,F_,F_] ?_
         refine tk 1 40 #[T_,T_,T_,F_,T_,F_,F_,F_,F_,F_,F_] hHeld ?_
         refine tk 3 42 (tf 5 6) hHeld ?_
         refine pu 5 44 (tf 6 5) ?_
         refine tk 6 45 (tf 7 4) hHeld ?_
         refine on 7 46 (tf 8 3) (fun K hK => ?_)
         refine value_ (w1 := ?_) (v := ?_) (by rfl) rfl ?_ ?_
         rotate_left 2
         ·go_simp
          constructor
          ·rfl
          ·rfl
         refine hK.out _ _ ⟨(blk_cell (blk_alloc BK282.out _) 0).trans rfl, (blk_cell (blk_alloc BK282.out _) 1).trans rfl, (blk_cell (blk_alloc BK282.out _) 2).trans rfl, (blk_cell (blk_alloc BK270.out _) 0).trans rfl, (blk_cell (blk_alloc BK270.out _) 1).trans rfl, (blk_cell (blk_alloc BK270.out _) 2).trans rfl, (World.cell?_alloc_lt _ _ _ (World.block_lt_of_cell? _ _ (((HB.out.cell (World.block_lt_of_cell? w _ hw294_0)).trans hw294_0)))).trans (((HB.out.cell (World.block_lt_of_cell? w _ hw294_0)).trans hw294_0)), (World.cell?_alloc_lt _ _ _ (World.block_lt_of_cell? _ _ (((HB.out.cell (World.block_lt_of_cell? w _ hw294_1)).trans hw294_1)))).trans (((HB.out.cell (World.block_lt_of_cell? w _ hw294_1)).trans hw294_1))⟩ (fun hHeld => ?_)
         clear hK K
         refine nm 46 ?_
         refine on 8 47 (tf 9 2) (fun K hK => ?_)
         refine Kd.R_append_step k90 (w0 := w) w.heap.size (by rfl) (.tmp 40) (.tmp 46) 43 90 (.agg #[(.int .i64 0), (.int .i64 0)]) 16 rfl Try.underlying43 info90 rfl (by decide) (by omega) (.slice Ao51 y291.length co51) y291 (⟨(rd_T90 l0_2 x8_1).f0, (rd_T90 l0_2 x8_1).f1⟩ : S90) [.int .i64 ((rd_T90 l0_2 x8_1).f0), .int .i64 ((rd_T90 l0_2 x8_1).f1)] (fun k_ => k_ ≠ gb271) (fun _ => False) rfl rfl ?aP (fun _ hk => hk.elim) ?aF ?aO ?aB ?aS ?aL ?_
         (case aP => exact k90_mkM _ _ _ (⟨(rd_T90 l0_2 x8_1).f0, (rd_T90 l0_2 x8_1).f1⟩ : S90))
         (case aB => exact bl)
         (case aF => exact (fun k_ hk => Kd.freshB (g := gb271) (o := .cells #[.int .i64 a1_0, .int .i64 a1_1] 90 (0, 0)) (ub BK271.out) k_ hk))
         (case aO => exact (up HO293.out))
         (case aS => exact (below_size bl))
         (case aL => have := LMc39.out; omega)
         intro v296 w55 ho hb hg hat
         rw [← Ny295.out] at ho
         replace HO_283000 := mk (Kd.R_over' (up HO_283000.out) (Kd.R_typed (up HO293.out)) (by decide) hg)
         replace HO_283001 := mk (Kd.R_over' (up HO_283001.out) (Kd.R_typed (up HO293.out)) (by decide) hg)
         replace BK270 := mk (blk_grown (g := gb270) (o := .cells #[.slice A0_0 l0_0.length c0_0, .slice A0_1 l0_1.length c0_1, .slice (some ad290) l0_2.length c0_2] 45 (0, 0)) (ub BK270.out) hg (Kd.R_ne HO293.out BK270.out (by decide)))
         replace BK271 := mk (blk_grown (g := gb271) (o := .cells #[.int .i64 a1_0, .int .i64 a1_1] 90 (0, 0)) (ub BK271.out) hg (Kd.R_away HO293.out (fun _ hk => hk)))
         replace BK272 := mk (blk_grown (g := gb272) (o := .cells #[.slice none 0 0, .slice none 0 0, .slice none 0 0] 45 (0, 0)) (ub BK272.out) hg (Kd.R_ne HO293.out BK272.out (by decide)))
         replace BK282 := mk (blk_grown (g := gb282) (o := .cells #[.slice Ao12 t273.length co12, .slice Ao17 t276.length co17, .slice Ao51 y291.length co51] 45 (0, 0)) (ub BK282.out) hg (Kd.R_ne HO293.out BK282.out (by decide)))
         replace HB := mk hb
         have HO297 := mk ho
         clear HO293
         clear ho hb hg hat
         obtain ⟨Ao56, co56, eo56⟩ := Kd.R_slice HO297.out
         (first | subst eo56 | (injection eo56 with f1_ f2_ f3_; have f4_ := f1_.symm; have f5_ := f3_.symm; clear f1_ f2_ f3_; subst f4_; subst f5_))
         refine hK.out _ _ ⟨(blk_cell BK282.out 0).trans rfl, (blk_cell BK282.out 1).trans rfl, (blk_cell BK282.out 2).trans rfl, (blk_cell BK270.out 0).trans rfl, (blk_cell BK270.out 1).trans rfl, (blk_cell BK270.out 2).trans rfl, ((HB.out.cell (World.block_lt_of_cell? w _ hw294_0)).trans hw294_0), ((HB.out.cell (World.block_lt_of_cell? w _ hw294_1)).trans hw294_1)⟩ (fun hHeld => ?_)
         clear hK K
         refine nm 47 ?_
         refine pu 9 48 (tf 10 1) ?_
         refine last_ (i := 10) (N := none) #[T_, T_, T_, T_, T_, T_, T_, T_, T_, T_, T_] rfl rfl (one_of HT_.out (by kernel_rfl)) (by decide) (fun K hK => ?_)
         have hs57 : w55.cell? ⟨gb282, 2, none⟩ = some (.slice Ao51 y291.length co51) := (blk_cell BK282.out 2).trans rfl
         have hfs57 := blk_frozen BK282.out 2
         have hns57_0 := NB270_282.out
         have hns57_1 := NB271_282.out
         have hns57_2 := NB272_282.out
         have hms57_0 := NB282_270.out
         have hms57_1 := NB282_271.out
         have hms57_2 := NB282_272.out
         refine skip_ (w1 := ?_) (by rfl) rfl ?_ ?_
         rotate_left
         ·go_simp
          rfl
         refine hK.out _ _ ?_
         clear hK K
         refine done_ (done_of HT_.out (by kernel_rfl)) ?_
         try go_wp2
         go_roundg k1
         case measure => have := HK1.out; omega
         case rel => exact ⟨(true), (wrap64 (x8_1 + 1)), (y295), (.slice Ao56 y295.length co56), (by first | rfl | (simp; done) | (simp [*]; done)), (by first | rfl | (simp; done) | (simp [*]; done)), H', ⟨by have := HK1.out; omega⟩, ⟨(by exact rm (rs1 HO_283000 BK282))⟩, ⟨(by exact rm (rs1 HO_283001 BK282))⟩, ⟨(by exact rm (rs1 HO297 BK282))⟩, ⟨bq⟩, ⟨bq⟩, ⟨bq⟩, ⟨bq⟩, ⟨bl⟩⟩
        ·rw [if_neg c39] at H
         exact absurd H (by simp)
       ·rw [if_neg c38] at H
        exact absurd H (by simp)
      ·rw [if_neg c37] at H
       have c37b0 : decide (a1_0 < ((rd_T90 l0_2 x8_1).f0)) = false := decide_eq_false c37
       clear c37
       by_cases c58 : x283002_1.length < 8796093022208
       ·rw [if_pos c58] at H
        have LMc58 := Aside0.mk c58
        clear c58
        obtain ⟨y299, hy299⟩ : ∃ y_ : List (S90), y_ = (x283002_1 ++ [(⟨(rd_T90 l0_2 x8_1).f0, (rd_T90 l0_2 x8_1).f1⟩ : S90)]) := ⟨_, rfl⟩
        replace H : (spec_AddPivot.l0 k1 false (wrap64 (x8_1 + 1)) l0_0 l0_1 l0_2 a1_0 a1_1 t273 t276 y299) = some (r1, r2, r3, r4) := by first | (rw [hy299]; with_reducible exact H) | (have H2_ := (Option.bind_some _ _).symm.trans H; rw [hy299]; with_reducible exact H2_) | (have H2_ := (Option.bind_some _ _).symm.trans H; with_reducible exact H2_) | with_reducible exact H | (rw [hy299]; exact H) | exact H
        have Ny299 := Aside0.mk hy299
        clear hy299
        have H' := Aside0.mk H
        clear H
        have hnb59 := NB270_271.out
        have hnc59 := NB271_270.out
        have hnb60 := NB270_272.out
        have hnc60 := NB272_270.out
        have hnb61 := NB270_282.out
        have hnc61 := NB282_270.out
        obtain ⟨hcz62_0, hcz62_1, hcz62_2, hfz62_0, hfz62_1, hfz62_2⟩ := bz3 BK270
        try go_wp2
        replace HO_283000 := mk (Kd.R_drew HO_283000.out)
        replace HO_283001 := mk (Kd.R_drew HO_283001.out)
        replace HO_283002 := mk (Kd.R_drew HO_283002.out)
        replace BK270 := wd BK270
        replace BK271 := wd BK271
        replace BK272 := wd BK272
        replace BK282 := wd BK282
        replace HB := mk (below_drew1 HB.out)
        have p290 : 0 ≤ (x8_1 : Int) := of_decide_eq_true (by first | (with_reducible assumption) | assumption)
        have q290 : x8_1 < (l0_2.length : Int) := of_decide_eq_true (by first | (with_reducible assumption) | assumption)
        obtain ⟨ad290, e290, hx290_0, hx290_1⟩ := at_T90 HR0_2.out x8_1 p290 q290
        have hw290_1 := hx290_1
        have hw290_0 := hx290_0
        cases e290
        replace hx290_0 := (HB.out.cell (World.block_lt_of_cell? w _ hx290_0)).trans hx290_0
        replace hx290_1 := (HB.out.cell (World.block_lt_of_cell? w _ hx290_1)).trans hx290_1
        replace p290 := eq_true p290
        replace q290 := eq_true q290
        refine start_ (n := 13) (S := fun w' => w'.cell? ⟨gb270, 0, none⟩ = some (.slice A0_0 l0_0.length c0_0) ∧ w'.cell? ⟨gb270, 1, none⟩ = some (.slice A0_1 l0_1.length c0_1) ∧ w'.cell? ⟨gb270, 2, none⟩ = some (.slice (some ad290) l0_2.length c0_2) ∧ w'.cell? ⟨gb271, 0, none⟩ = some (.int .i64 a1_0) ∧ w'.cell? ⟨gb271, 1, none⟩ = some (.int .i64 a1_1) ∧ w'.cell? (ad290.add ((x8_1).toNat * 2)) = some (.int .i64 ((rd_T90 l0_2 x8_1).f0)) ∧ w'.cell? ⟨(ad290.add ((x8_1).toNat * 2)).block, (ad290.add ((x8_1).toNat * 2)).off + 1, none⟩ = some (.int .i64 ((rd_T90 l0_2 x8_1).f1))) (ds := []) #[F_, F_, F_, F_, F_, F_, F_, F_, F_, F_, F_, F_, F_] (by kernel_rfl) rfl rfl ⟨(blk_cell BK270.out 0).trans rfl, (blk_cell BK270.out 1).trans rfl, (blk_cell BK270.out 2).trans rfl, (blk_cell BK271.out 0).trans rfl, (blk_cell BK271.out 1).trans rfl, ((HB.out.cell (World.block_lt_of_cell? w _ hw290_0)).trans hw290_0), ((HB.out.cell (World.block_lt_of_cell? w _ hw290_1)).trans hw290_1)⟩ (fun hHeld => ?_); refine with_tabW spec_AddPivot.tab7 spec_AddPivot.bits7 (fun HT_ HW_ => ?_)
        generalize wr.drew = w63 at HO_283000 HO_283001 HO_283002 BK270 BK271 BK272 BK282 HB hx290_0 hx290_1 hHeld ⊢
        refine pu 0 20 (tf 1 12) ?_
        refine pu 1 21 (tf 2 11) ?_
        refine pu 2 22 (tf 3 10) ?_
        refine pu 3 23 (tf 4 9) ?_
        refine pu 5 25 #[T_,T_,T_,T_,F_,T_,F_,F_,F_,F_,F_,F_,F_] ?_
        refine pu 9 29 #[T_,T_,T_,T_,F_,T_,F_,F_,F_,T_,F_,F_,F_] ?_
        refine tk 4 24 #[T_,T_,T_,T_,T_,T_,F_,F_,F_,T_,F_,F_,F_] hHeld ?_
        refine pu 6 26 #[T_,T_,T_,T_,T_,T_,T_,F_,F_,T_,F_,F_,F_] ?_
        refine pu 7 27 #[T_,T_,T_,T_,T_,T_,T_,T_,F_,T_,F_,F_,F_] ?_
        refine tk 8 28 (tf 10 3) hHeld ?_
        refine tk 10 30 (tf 11 2) hHeld ?_
        refine pu 11 31 (tf 12 1) ?_
        refine pu 12 32 (tf 13 0) ?_
        refine done_ (done_of HT_.out (by kernel_rfl)) ?_
        try go_wp2
        replace HO_283000 := mk (Kd.R_drew HO_283000.out)
        replace HO_283001 := mk (Kd.R_drew HO_283001.out)
        replace HO_283002 := mk (Kd.R_drew HO_283002.out)
        replace BK270 := wd BK270
        replace BK271 := wd BK271
        replace BK272 := wd BK272
        replace BK282 := wd BK282
        replace HB := mk (below_drew1 HB.out)
        have p298 : 0 ≤ (x8_1 : Int) := of_decide_eq_true (by first | (with_reducible assumption) | assumption)
        have q298 : x8_1 < (l0_2.length : Int) := of_decide_eq_true (by first | (with_reducible assumption) | assumption)
        obtain ⟨ad298, e298, hx298_0, hx298_1⟩ := at_T90 HR0_2.out x8_1 p298 q298
        have hw298_1 := hx298_1
        have hw298_0 := hx298_0
        obtain rfl : ad290 = ad298 := (by injection e298)
        replace hx298_0 := (HB.out.cell (World.block_lt_of_cell? w _ hx298_0)).trans hx298_0
        replace hx298_1 := (HB.out.cell (World.block_lt_of_cell? w _ hx298_1)).trans hx298_1
        replace p298 := eq_true p298
        replace q298 := eq_true q298
        refine start_ (n := 11) (S := fun w' => w'.cell? ⟨gb282, 0, none⟩ = some (.slice Ao12 t273.length co12) ∧ w'.cell? ⟨gb282, 1, none⟩ = some (.slice Ao17 t276.length co17) ∧ w'.cell? ⟨gb282, 2, none⟩ = some (u283002) ∧ w'.cell? ⟨gb270, 0, none⟩ = some (.slice A0_0 l0_0.length c0_0) ∧ w'.cell? ⟨gb270, 1, none⟩ = some (.slice A0_1 l0_1.length c0_1) ∧ w'.cell? ⟨gb270, 2, none⟩ = some (.slice (some ad290) l0_2.length c0_2) ∧ w'.cell? (ad290.add ((x8_1).toNat * 2)) = some (.int .i64 ((rd_T90 l0_2 x8_1).f0)) ∧ w'.cell? ⟨(ad290.add ((x8_1).toNat * 2)).block, (ad290.add ((x8_1).toNat * 2)).off + 1, none⟩ = some (.int .i64 ((rd_T90 l0_2 x8_1).f1))) (ds := [10]) #[F_, F_, F_, F_, F_, F_, F_, F_, F_, F_, F_] (by kernel_rfl) rfl rfl ⟨(blk_cell BK282.out 0).trans rfl, (blk_cell BK282.out 1).trans rfl, (blk_cell BK282.out 2).trans rfl, (blk_cell BK270.out 0).trans rfl, (blk_cell BK270.out 1).trans rfl, (blk_cell BK270.out 2).trans rfl, ((HB.out.cell (World.block_lt_of_cell? w _ hw298_0)).trans hw298_0), ((HB.out.cell (World.block_lt_of_cell? w _ hw298_1)).trans hw298_1)⟩ (fun hHeld => ?_); refine with_tabW spec_AddPivot.tab10 spec_AddPivot.bits10 (fun HT_ HW_ => ?_)
        generalize w63.drew = w64 at HO_283000 HO_283001 HO_283002 BK270 BK271 BK272 BK282 HB hx298_0 hx298_1 hHeld ⊢
        refine pu 0 39 (tf 1 10) ?_
        refine pu 2 41 #[T_,F_,T_,F_,F_,F_,F_,F_,F_,F_,F_] ?_
        refine pu 4 43 #[T_,F_,T_,F_,T_,F_,F_,F_,F_,F_,F_] ?_
        refine tk 1 40 #[T_,T_,T_,F_,T_,F_,F_,F_,F_,F_,F_] hHeld ?_
        refine tk 3 42 (tf 5 6) hHeld ?_
        refine pu 5 44 (tf 6 5) ?_
        refine tk 6 45 (tf 7 4) hHeld ?_
        refine on 7 46 (tf 8 3) (fun K hK => ?_)
        refine value_ (w1 := ?_) (v := ?_) (by rfl) rfl ?_ ?_
        rotate_left 2
        ·go_simp
         constructor
         ·rfl
         ·rfl
        refine hK.out _ _ ⟨(blk_cell (blk_alloc BK282.out _) 0).trans rfl, (blk_cell (blk_alloc BK282.out _) 1).trans rfl, (blk_cell (blk_alloc BK282.out _) 2).trans rfl, (blk_cell (blk_alloc BK270.out _) 0).trans rfl, (blk_cell (blk_alloc BK270.out _) 1).trans rfl, (blk_cell (blk_alloc BK270.out _) 2).trans rfl, (World.cell?_alloc_lt _ _ _ (World.block_lt_of_cell? _ _ (((HB.out.cell (World.block_lt_of_cell? w _ hw298_0)).trans hw298_0)))).trans (((HB.out.cell (World.block_lt_of_cell? w _ hw298_0)).trans hw298_0)), (World.cell?_alloc_lt _ _ _ (World.block_lt_of_cell? _ _ (((HB.out.cell (World.block_lt_of_cell? w _ hw298_1)).trans hw298_1)))).trans (((HB.out.cell (World.block_lt_of_cell? w _ hw298_1)).trans hw298_1))⟩ (fun hHeld => ?_)
        clear hK K
        refine nm 46 ?_
        refine on 8 47 (tf 9 2) (fun K hK => ?_)
        refine Kd.R_append_step k90 (w0 := w) w.heap.size (by rfl) (.tmp 40) (.tmp 46) 43 90 (.agg #[(.int .i64 0), (.int .i64 0)]) 16 rfl Try.underlying43 info90 rfl (by decide) (by omega) u283002 x283002_1 (⟨(rd_T90 l0_2 x8_1).f0, (rd_T90 l0_2 x8_1).f1⟩ : S90) [.int .i64 ((rd_T90 l0_2 x8_1).f0), .int .i64 ((rd_T90 l0_2 x8_1).f1)] (fun k_ => k_ ≠ gb271) (fun _ => False) rfl rfl ?aP (fun _ hk => hk.elim) ?aF ?aO ?aB ?aS ?aL ?_
        (case aP => exact k90_mkM _ _ _ (⟨(rd_T90 l0_2 x8_1).f0, (rd_T90 l0_2 x8_1).f1⟩ : S90))
        (case aB => exact bl)
        (case aF => exact (fun k_ hk => Kd.freshB (g := gb271) (o := .cells #[.int .i64 a1_0, .int .i64 a1_1] 90 (0, 0)) (ub BK271.out) k_ hk))
        (case aO => exact (up HO_283002.out))
        (case aS => exact (below_size bl))
        (case aL => have := LMc58.out; omega)
        intro v300 w65 ho hb hg hat
        rw [← Ny299.out] at ho
        replace HO_283000 := mk (Kd.R_over' (up HO_283000.out) (Kd.R_typed (up HO_283002.out)) (by decide) hg)
        replace HO_283001 := mk (Kd.R_over' (up HO_283001.out) (Kd.R_typed (up HO_283002.out)) (by decide) hg)
        replace BK270 := mk (blk_grown (g := gb270) (o := .cells #[.slice A0_0 l0_0.length c0_0, .slice A0_1 l0_1.length c0_1, .slice (some ad290) l0_2.length c0_2] 45 (0, 0)) (ub BK270.out) hg (Kd.R_ne HO_283002.out BK270.out (by decide)))
        replace BK271 := mk (blk_grown (g := gb271) (o := .cells #[.int .i64 a1_0, .int .i64 a1_1] 90 (0, 0)) (ub BK271.out) hg (Kd.R_away HO_283002.out (fun _ hk => hk)))
        replace BK272 := mk (blk_grown (g := gb272) (o := .cells #[.slice none 0 0, .slice none 0 0, .slice none 0 0] 45 (0, 0)) (ub BK272.out) hg (Kd.R_ne HO_283002.out BK272.out (by decide)))
        replace BK282 := mk (blk_grown (g := gb282) (o := .cells #[.slice Ao12 t273.length co12, .slice Ao17 t276.length co17, u283002] 45 (0, 0)) (ub BK282.out) hg (Kd.R_ne HO_283002.out BK282.out (by decide)))
        replace HB := mk hb
        have HO301 := mk ho
        clear HO_283002
        clear ho hb hg hat
        obtain ⟨Ao66, co66, eo66⟩ := Kd.R_slice HO301.out
        (first | subst eo66 | (injection eo66 with f1_ f2_ f3_; have f4_ := f1_.symm; have f5_ := f3_.symm; clear f1_ f2_ f3_; subst f4_; subst f5_))
        refine hK.out _ _ ⟨(blk_cell BK282.out 0).trans rfl, (blk_cell BK282.out 1).trans rfl, (blk_cell BK282.out 2).trans rfl, (blk_cell BK270.out 0).trans rfl, (blk_cell BK270.out 1).trans rfl, (blk_cell BK270.out 2).trans rfl, ((HB.out.cell (World.block_lt_of_cell? w _ hw298_0)).trans hw298_0), ((HB.out.cell (World.block_lt_of_cell? w _ hw298_1)).trans hw298_1)⟩ (fun hHeld => ?_)
        clear hK K
        refine nm 47 ?_
        refine pu 9 48 (tf 10 1) ?_
        refine last_ (i := 10) (N := none) #[T_, T_, T_, T_, T_, T_, T_, T_, T_, T_, T_] rfl rfl (one_of HT_.out (by kernel_rfl)) (by decide) (fun K hK => ?_)
        have hs67 : w65.cell? ⟨gb282, 2, none⟩ = some (u283002) := (blk_cell BK282.out 2).trans rfl
        have hfs67 := blk_frozen BK282.out 2
        have hns67_0 := NB270_282.out
        have hns67_1 := NB271_282.out
        have hns67_2 := NB272_282.out
        have hms67_0 := NB282_270.out
        have hms67_1 := NB282_271.out
        have hms67_2 := NB282_272.out
        refine skip_ (w1 := ?_) (by rfl) rfl ?_ ?_
        rotate_left
        ·go_simp
         rfl
        refine hK.out _ _ ?_
        clear hK K
        refine done_ (done_of HT_.out (by kernel_rfl)) ?_
        try go_wp2
        go_roundg k1
        case measure => have := HK1.out; omega
        case rel => exact ⟨(false), (wrap64 (x8_1 + 1)), (y299), (.slice Ao66 y299.length co66), (by first | rfl | (simp; done) | (simp [*]; done)), (by first | rfl | (simp; done) | (simp [*]; done)), H', ⟨by have := HK1.out; omega⟩, ⟨(by exact rm (rs1 HO_283000 BK282))⟩, ⟨(by exact rm (rs1 HO_283001 BK282))⟩, ⟨(by exact rm (rs1 HO301 BK282))⟩, ⟨bq⟩, ⟨bq⟩, ⟨bq⟩, ⟨bq⟩, ⟨bl⟩⟩
       ·rw [if_neg c58] at H
        exact absurd H (by simp)
     ·rw [if_neg c36] at H
      exact absurd H (by simp)
   ·rw [if_neg c23] at H
    have c23b0 : decide (x8_1 < (l0_2.length : Int)) = false := decide_eq_false c23
    clear c23
    have HC68 := Aside0.mk H
    clear H
    have hnb69 := NB270_271.out
    have hnc69 := NB271_270.out
    have hnb70 := NB270_272.out
    have hnc70 := NB272_270.out
    have hnb71 := NB270_282.out
    have hnc71 := NB282_270.out
    obtain ⟨hcz72_0, hcz72_1, hcz72_2, hfz72_0, hfz72_1, hfz72_2⟩ := bz3 BK270
    go_upto_if 50 with (fail)
    go_cut [] (fun wc => ∃ (kq : Nat) (x283002_67 : List (S90)) (u283002 : Value), Aside0 (spec_AddPivot.j1 kq l0_0 l0_1 l0_2 t273 t276 x283002_67 = some (r1, r2, r3, r4)) ∧ Aside0 (kq ≤ k1) ∧ Aside0 (Kd.R (Kd.int .i64) 3 wc w.heap.size (fun k_ => some k_ ≠ ((.slice Ao17 t276.length co17) : Value).ownBlock) (.slice Ao12 t273.length co12) t273) ∧ Aside0 (Kd.R (Kd.int .i64) 3 wc w.heap.size (fun k_ => some k_ ≠ ((.slice Ao12 t273.length co12) : Value).ownBlock) (.slice Ao17 t276.length co17) t276) ∧ Aside0 (Kd.R k90 90 wc w.heap.size (fun k_ => k_ ≠ gb271) u283002 x283002_67) ∧ Aside0 (wc.heap[gb270]? = some (.cells #[(.slice A0_0 l0_0.length c0_0), (.slice A0_1 l0_1.length c0_1), (.slice A0_2 l0_2.length c0_2)] 45 (0, 0))) ∧ Aside0 (wc.heap[gb271]? = some (.cells #[.int .i64 a1_0, .int .i64 a1_1] 90 (0, 0))) ∧ Aside0 (wc.heap[gb272]? = some (.cells #[(.slice none 0 0), (.slice none 0 0), (.slice none 0 0)] 45 (0, 0))) ∧ Aside0 (wc.heap[gb282]? = some (.cells #[(.slice Ao12 t273.length co12), (.slice Ao17 t276.length co17), u283002] 45 (0, 0))) ∧ Aside0 (Below w.heap.size w wc))
    case first =>
     have H := HC68.out
     clear HC68
     by_cases c73 : x7_1 = true
     ·subst c73
      rw [if_pos rfl] at H
      have H' := Aside0.mk H
      clear H
      go_wp2
      go_meet
      case rel => exact ⟨_, (x283002_1), (u283002), H', ⟨by have := HK1.out; first | omega | exact Nat.le_refl _⟩, ⟨up HO_283000.out⟩, ⟨up HO_283001.out⟩, ⟨up HO_283002.out⟩, ⟨ub BK270.out⟩, ⟨ub BK271.out⟩, ⟨ub BK272.out⟩, ⟨ub BK282.out⟩, ⟨bl⟩⟩
     ·replace c73 := Bool.eq_false_iff.mpr c73
      subst c73
      rw [if_neg nf] at H
      by_cases c74 : x283002_1.length < 8796093022208
      ·rw [if_pos c74] at H
       have LMc74 := Aside0.mk c74
       clear c74
       obtain ⟨y302, hy302⟩ : ∃ y_ : List (S90), y_ = (x283002_1 ++ [(⟨a1_0, a1_1⟩ : S90)]) := ⟨_, rfl⟩
       replace H : (spec_AddPivot.j1 k1 l0_0 l0_1 l0_2 t273 t276 y302) = some (r1, r2, r3, r4) := by first | (rw [hy302]; with_reducible exact H) | (have H2_ := (Option.bind_some _ _).symm.trans H; rw [hy302]; with_reducible exact H2_) | (have H2_ := (Option.bind_some _ _).symm.trans H; with_reducible exact H2_) | with_reducible exact H | (rw [hy302]; exact H) | exact H
       have Ny302 := Aside0.mk hy302
       clear hy302
       have H' := Aside0.mk H
       clear H
       have hnb75 := NB282_270.out
       have hnc75 := NB270_282.out
       have hnb76 := NB282_271.out
       have hnc76 := NB271_282.out
       have hnb77 := NB282_272.out
       have hnc77 := NB272_282.out
       obtain ⟨hcz78_0, hcz78_1, hcz78_2, hfz78_0, hfz78_1, hfz78_2⟩ := bz3 BK282
       have hnb79 := NB271_270.out
       have hnc79 := NB270_271.out
       have hnb80 := NB271_272.out
       have hnc80 := NB272_271.out
       obtain ⟨hcz81_0, hcz81_1, hfz81_0, hfz81_1⟩ := bz2 BK271
       go_wp2_with (first | ((with_reducible refine gate_builtin (b := .append) (xs := #[.tmp 52, .tmp 54]) rfl ?_); at_builtin; refine Kd.R_append k90 (w0 := w) w.heap.size rfl (.tmp 52) (.tmp 54) 43 90 (.agg #[(.int .i64 0), (.int .i64 0)]) 16 rfl Try.underlying43 info90 rfl (by decide) (by omega) u283002 x283002_1 (⟨a1_0, a1_1⟩ : S90) [.int .i64 a1_0, .int .i64 a1_1] (fun k_ => k_ ≠ gb271) (fun _ => False) rfl rfl ?aP (fun _ hk => hk.elim) ?aF ?aO ?aB ?aS ?aL ?_; (case aP => exact k90_mkM _ _ _ (⟨a1_0, a1_1⟩ : S90)); (case aB => exact bl); (case aF => exact (fun k_ hk => Kd.freshB (g := gb271) (o := .cells #[.int .i64 a1_0, .int .i64 a1_1] 90 (0, 0)) (ub BK271.out) k_ hk)); (case aO => exact (up HO_283002.out)); (case aS => exact (below_size bl)); (case aL => have := LMc74.out; omega); intro v303 w82 ho hb hg hat; rw [← Ny302.out] at ho; replace HO_283000 := mk (Kd.R_over' (up HO_283000.out) (Kd.R_typed (up HO_283002.out)) (by decide) hg); replace HO_283001 := mk (Kd.R_over' (up HO_283001.out) (Kd.R_typed (up HO_283002.out)) (by decide) hg); replace BK270 := mk (blk_grown (g := gb270) (o := .cells #[.slice A0_0 l0_0.length c0_0, .slice A0_1 l0_1.length c0_1, .slice A0_2 l0_2.length c0_2] 45 (0, 0)) (ub BK270.out) hg (Kd.R_ne HO_283002.out BK270.out (by decide))); replace BK271 := mk (blk_grown (g := gb271) (o := .cells #[.int .i64 a1_0, .int .i64 a1_1] 90 (0, 0)) (ub BK271.out) hg (Kd.R_away HO_283002.out (fun _ hk => hk))); replace BK272 := mk (blk_grown (g := gb272) (o := .cells #[.slice none 0 0, .slice none 0 0, .slice none 0 0] 45 (0, 0)) (ub BK272.out) hg (Kd.R_ne HO_283002.out BK272.out (by decide))); replace BK282 := mk (blk_grown (g := gb282) (o := .cells #[.slice Ao12 t273.length co12, .slice Ao17 t276.length co17, u283002] 45 (0, 0)) (ub BK282.out) hg (Kd.R_ne HO_283002.out BK282.out (by decide))); replace HB := mk hb; have HO304 := mk ho; clear HO_283002; clear ho hb hg hat; obtain ⟨Ao83, co83, eo83⟩ := Kd.R_slice HO304.out; subst eo83; obtain ⟨hcz84_0, hcz84_1, hcz84_2, hfz84_0, hfz84_1, hfz84_2⟩ := bz3 BK282))
       go_meet
       case rel => exact ⟨_, (y302), (.slice Ao83 y302.length co83), H', ⟨by have := HK1.out; first | omega | exact Nat.le_refl _⟩, ⟨(by exact rm (rs1 HO_283000 BK282))⟩, ⟨(by exact rm (rs1 HO_283001 BK282))⟩, ⟨(by exact rm (rs1 HO304 BK282))⟩, ⟨bq⟩, ⟨bq⟩, ⟨bq⟩, ⟨bq⟩, ⟨bl⟩⟩
      ·rw [if_neg c74] at H
       exact absurd H (by simp)
    case rest =>
     clear HC68
     try clear c2
     try clear p2
     try clear q2
     try clear hx2
     try clear c3
     try clear c5
     try clear c6
     try clear p6
     try clear c7
     try clear c8
     try clear c23
     try clear c23b0
     try clear p29
     try clear q29
     try clear hx29
     try clear c36
     try clear c37
     try clear c37b0
     try clear c38
     try clear c39
     try clear c58
     try clear c59
     try clear c60
     try clear c61
     try clear p64
     try clear c69
     try clear c70
     try clear c71
     try clear c73
     try clear c74
     try clear c75
     try clear c76
     try clear c77
     try clear c79
     try clear c80
     try clear hcz62_0
     try clear hcz62_1
     try clear hcz62_2
     try clear hcz72_0
     try clear hcz72_1
     try clear hcz72_2
     try clear hcz78_0
     try clear hcz78_1
     try clear hcz78_2
     try clear hcz81_0
     try clear hcz81_1
     try clear hcz84_0
     try clear hcz84_1
     try clear hcz84_2
     try clear hfz62_0
     try clear hfz62_1
     try clear hfz62_2
     try clear hfz72_0
     try clear hfz72_1
     try clear hfz72_2
     try clear hfz78_0
     try clear hfz78_1
     try clear hfz78_2
     try clear hfz81_0
     try clear hfz81_1
     try clear hfz84_0
     try clear hfz84_1
     try clear hfz84_2
     try clear hx290_0
     try clear hx290_1
     try clear hx294_0
     try clear hx294_1
     try clear hx298_0
     try clear hx298_1
     try clear p290
     try clear p294
     try clear p298
     try clear q290
     try clear q294
     try clear q298
     obtain ⟨kq, x283002_67, u283002, HA, HJ67, HO_283000, HO_283001, HO_283002, BK270, BK271, BK272, BK282, HB⟩ := hcut
     cases kq with
     | zero => exact absurd HA.out (by simp [spec_AddPivot.j1])
     | succ kj67 =>
      have H := HA.out
      clear HA
      simp only [spec_AddPivot.j1] at H
      revert H; refine bo ?_; rintro t305 A85 H
      by_cases c86 : t305 = true
      ·subst c86
       rw [if_pos rfl] at H
       revert H; refine bo ?_; rintro t306 A87 H
       by_cases c88 : t306 = true
       ·subst c88
        rw [if_pos rfl] at H
        simp only [Option.some.injEq, Prod.mk.injEq] at H
        obtain ⟨rfl, rfl, rfl, rfl⟩ := H
        have hnb89 := NB270_271.out
        have hnc89 := NB271_270.out
        have hnb90 := NB270_272.out
        have hnc90 := NB272_270.out
        have hnb91 := NB270_282.out
        have hnc91 := NB282_270.out
        obtain ⟨hcz92_0, hcz92_1, hcz92_2, hfz92_0, hfz92_1, hfz92_2⟩ := bz3 BK270
        go_wp2_with (first | ((with_reducible refine gate_callee (f := 47) rfl ?_); refine gl (some 58) rfl Try.func47 #[.agg #[.slice A0_0 l0_0.length c0_0, .slice A0_1 l0_1.length c0_1, .slice A0_2 l0_2.length c0_2]] ?_; (with_reducible refine (spec_IsCracker.calls kj67 _ _ l0_0 _ _ l0_1 _ _ l0_2 true _ ?side1 ?side2 ?side3 ?side4 ?side5 ?side6 A85.out).mono ?_); (case side1 => exact uc (Kd.C_below HR0_0.out HB.out)); (case side2 => exact HC0_0.out); (case side3 => exact uc (Kd.C_below HR0_1.out HB.out)); (case side4 => exact HC0_1.out); (case side5 => exact uc (Kd.C_below HR0_2.out HB.out)); (case side6 => exact HC0_2.out); rintro e w93 ⟨rfl, hb⟩; refine ⟨_, rfl, ?_⟩; replace HO_283000 := mk (Kd.R_below (up HO_283000.out) hb); replace HO_283001 := mk (Kd.R_below (up HO_283001.out) hb); replace HO_283002 := mk (Kd.R_below (up HO_283002.out) hb); replace BK270 := wb BK270 hb; replace BK271 := wb BK271 hb; replace BK272 := wb BK272 hb; replace BK282 := wb BK282 hb; replace HB := wh hb; (try clear hb); (try clear hb2); (try clear hk); (try clear hi); have hnb94 := NB282_271.out; have hnc94 := NB271_282.out; have hnb95 := NB282_272.out; have hnc95 := NB272_282.out; obtain ⟨hcz96_0, hcz96_1, hcz96_2, hfz96_0, hfz96_1, hfz96_2⟩ := bz3 BK282; obtain ⟨Ao97, co97, eo97⟩ := Kd.R_slice HO_283002.out; subst eo97) | (go_at_call 47; (with_reducible refine (spec_IsCracker.calls kj67 _ _ t273 _ _ t276 _ _ x283002_67 true _ ?side1 ?side2 ?side3 ?side4 ?side5 ?side6 A87.out).mono ?_); (case side1 => exact uc (Kd.R_reads' HO_283000.out).2.2); (case side2 => exact (Kd.R_reads' HO_283000.out).2.1); (case side3 => exact uc (Kd.R_reads' HO_283001.out).2.2); (case side4 => exact (Kd.R_reads' HO_283001.out).2.1); (case side5 => exact uc (Kd.R_reads' HO_283002.out).2.2); (case side6 => exact (Kd.R_reads' HO_283002.out).2.1); rintro e w98 ⟨rfl, hb⟩; replace HO_283000 := mk (Kd.R_below (up HO_283000.out) hb); replace HO_283001 := mk (Kd.R_below (up HO_283001.out) hb); replace HO_283002 := mk (Kd.R_below (up HO_283002.out) hb); replace BK270 := wb BK270 hb; replace BK271 := wb BK271 hb; replace BK272 := wb BK272 hb; replace BK282 := wb BK282 hb; replace HB := wh hb; (try clear hb); (try clear hb2); (try clear hk); (try clear hi); obtain ⟨hcz99_0, hcz99_1, hcz99_2, hfz99_0, hfz99_1, hfz99_2⟩ := bz3 BK282; have hnb100 := NB272_271.out; have hnc100 := NB271_272.out; obtain ⟨hcz101_0, hcz101_1, hcz101_2, hfz101_0, hfz101_1, hfz101_2⟩ := bz3 BK272))
        refine bodyPost_ret (results_ct rfl _ _ gb272 45 #[.slice Ao12 t273.length co12, .slice Ao17 t276.length co17, .slice Ao97 x283002_67.length co97] (0, 0) _ rfl bq Try.underlying45 rfl (by kernel_rfl)) rfl ?_
        exact ⟨_, _, _, by first | rfl | (simp [errW_none, errW_some] <;> rfl) | (simp [*, errW_none, errW_some] <;> rfl), (by exact rm (rs1 HO_283000 BK272)), (by exact rm (rs1 HO_283001 BK272)), (by exact rm (rs1 HO_283002 BK272)), bl⟩
       ·replace c88 := Bool.eq_false_iff.mpr c88
        subst c88
        rw [if_neg nf] at H
        revert H; refine bo ?_; rintro ⟨t307, t310, t313⟩ A102 H
        dsimp only at H
        simp only [Option.some.injEq, Prod.mk.injEq] at H
        obtain ⟨rfl, rfl, rfl, rfl⟩ := H
        have hnb103 := NB270_271.out
        have hnc103 := NB271_270.out
        have hnb104 := NB270_272.out
        have hnc104 := NB272_270.out
        have hnb105 := NB270_282.out
        have hnc105 := NB282_270.out
        obtain ⟨hcz106_0, hcz106_1, hcz106_2, hfz106_0, hfz106_1, hfz106_2⟩ := bz3 BK270
        go_wp2_with (first | ((with_reducible refine gate_callee (f := 47) rfl ?_); refine gl (some 58) rfl Try.func47 #[.agg #[.slice A0_0 l0_0.length c0_0, .slice A0_1 l0_1.length c0_1, .slice A0_2 l0_2.length c0_2]] ?_; (with_reducible refine (spec_IsCracker.calls kj67 _ _ l0_0 _ _ l0_1 _ _ l0_2 true _ ?side1 ?side2 ?side3 ?side4 ?side5 ?side6 A85.out).mono ?_); (case side1 => exact uc (Kd.C_below HR0_0.out HB.out)); (case side2 => exact HC0_0.out); (case side3 => exact uc (Kd.C_below HR0_1.out HB.out)); (case side4 => exact HC0_1.out); (case side5 => exact uc (Kd.C_below HR0_2.out HB.out)); (case side6 => exact HC0_2.out); rintro e w107 ⟨rfl, hb⟩; refine ⟨_, rfl, ?_⟩; replace HO_283000 := mk (Kd.R_below (up HO_283000.out) hb); replace HO_283001 := mk (Kd.R_below (up HO_283001.out) hb); replace HO_283002 := mk (Kd.R_below (up HO_283002.out) hb); replace BK270 := wb BK270 hb; replace BK271 := wb BK271 hb; replace BK272 := wb BK272 hb; replace BK282 := wb BK282 hb; replace HB := wh hb; (try clear hb); (try clear hb2); (try clear hk); (try clear hi); have hnb108 := NB282_271.out; have hnc108 := NB271_282.out; have hnb109 := NB282_272.out; have hnc109 := NB272_282.out; obtain ⟨hcz110_0, hcz110_1, hcz110_2, hfz110_0, hfz110_1, hfz110_2⟩ := bz3 BK282; obtain ⟨Ao111, co111, eo111⟩ := Kd.R_slice HO_283002.out; subst eo111) | (go_at_call 47; (with_reducible refine (spec_IsCracker.calls kj67 _ _ t273 _ _ t276 _ _ x283002_67 false _ ?side1 ?side2 ?side3 ?side4 ?side5 ?side6 A87.out).mono ?_); (case side1 => exact uc (Kd.R_reads' HO_283000.out).2.2); (case side2 => exact (Kd.R_reads' HO_283000.out).2.1); (case side3 => exact uc (Kd.R_reads' HO_283001.out).2.2); (case side4 => exact (Kd.R_reads' HO_283001.out).2.1); (case side5 => exact uc (Kd.R_reads' HO_283002.out).2.2); (case side6 => exact (Kd.R_reads' HO_283002.out).2.1); rintro e w112 ⟨rfl, hb⟩; replace HO_283000 := mk (Kd.R_below (up HO_283000.out) hb); replace HO_283001 := mk (Kd.R_below (up HO_283001.out) hb); replace HO_283002 := mk (Kd.R_below (up HO_283002.out) hb); replace BK270 := wb BK270 hb; replace BK271 := wb BK271 hb; replace BK272 := wb BK272 hb; replace BK282 := wb BK282 hb; replace HB := wh hb; (try clear hb); (try clear hb2); (try clear hk); (try clear hi); obtain ⟨hcz113_0, hcz113_1, hcz113_2, hfz113_0, hfz113_1, hfz113_2⟩ := bz3 BK270) | ((with_reducible refine gate_callee (f := 92) rfl ?_); refine gl (some 66) rfl Try.func92 #[.agg #[.slice A0_0 l0_0.length c0_0, .slice A0_1 l0_1.length c0_1, .slice A0_2 l0_2.length c0_2]] ?_; (with_reducible refine (spec_l4Copy.calls _ _ l0_0 _ _ l0_1 _ _ l0_2 t307 t310 t313 _ ?side1 ?side2 ?side3 ?side4 ?side5 ?side6 A102.out).mono ?_); (case side1 => exact uc (Kd.C_below HR0_0.out HB.out)); (case side2 => exact HC0_0.out); (case side3 => exact uc (Kd.C_below HR0_1.out HB.out)); (case side4 => exact HC0_1.out); (case side5 => exact uc (Kd.C_below HR0_2.out HB.out)); (case side6 => exact HC0_2.out); rintro e w114 ⟨v308, v311, v314, rfl, ho0, ho1, ho2, hb⟩; refine ⟨_, rfl, ?_⟩; have HO309 := mk (Kd.R_lower (Kd.R_new' (Kd.R_new' ho0 (Kd.R_lt (up HO_283000.out))) (Kd.R_lt (up HO_283001.out))) (below_size bl)); have HO312 := mk (Kd.R_lower (Kd.R_new' (Kd.R_new' ho1 (Kd.R_lt (up HO_283000.out))) (Kd.R_lt (up HO_283001.out))) (below_size bl)); replace HO_283000 := mk (Kd.R_mono (Kd.R_told (Kd.R_told (Kd.R_old (up HO_283000.out) hb) (Kd.R_base ho0)) (Kd.R_base ho1)) (fun _ h_ => h_.1)); replace HO_283001 := mk (Kd.R_mono (Kd.R_told (Kd.R_told (Kd.R_old (up HO_283001.out) hb) (Kd.R_base ho0)) (Kd.R_base ho1)) (fun _ h_ => h_.1)); have HO315 := mk (Kd.R_lower (Kd.R_newB (Kd.R_new' ho2 (Kd.R_lt (up HO_283002.out))) (g := gb271) (o := .cells #[.int .i64 a1_0, .int .i64 a1_1] 90 (0, 0)) (ub BK271.out)) (below_size bl)); replace HO_283002 := mk (Kd.R_elder' (up HO_283002.out) (Kd.R_base ho2) hb); replace BK270 := wb BK270 hb; replace BK271 := wb BK271 hb; replace BK272 := wb BK272 hb; replace BK282 := wb BK282 hb; replace HB := wh hb; (try clear hb); (try clear hb2); (try clear hk); (try clear hi); (try clear ho0); (try clear ho1); (try clear ho2); obtain ⟨Ao115, co115, eo115⟩ := Kd.R_slice HO309.out; subst eo115; have hnb116 := NB272_271.out; have hnc116 := NB271_272.out; obtain ⟨hcz117_0, hcz117_1, hcz117_2, hfz117_0, hfz117_1, hfz117_2⟩ := bz3 BK272; obtain ⟨Ao118, co118, eo118⟩ := Kd.R_slice HO312.out; subst eo118; obtain ⟨Ao119, co119, eo119⟩ := Kd.R_slice HO315.out; subst eo119))
        refine bodyPost_ret (results_ct rfl _ _ gb272 45 #[.slice Ao115 t307.length co115, .slice Ao118 t310.length co118, .slice Ao119 t313.length co119] (0, 0) _ rfl bq Try.underlying45 rfl (by kernel_rfl)) rfl ?_
        exact ⟨_, _, _, by first | rfl | (simp [errW_none, errW_some] <;> rfl) | (simp [*, errW_none, errW_some] <;> rfl), (by exact rm (rs1 HO309 BK272)), (by exact rm (rs1 HO312 BK272)), (by exact rm (rs1 HO315 BK272)), bl⟩
      ·replace c86 := Bool.eq_false_iff.mpr c86
       subst c86
       rw [if_neg nf] at H
       revert H; refine bo ?_; rintro ⟨t316, t319, t322⟩ A120 H
       dsimp only at H
       simp only [Option.some.injEq, Prod.mk.injEq] at H
       obtain ⟨rfl, rfl, rfl, rfl⟩ := H
       have hnb121 := NB270_271.out
       have hnc121 := NB271_270.out
       have hnb122 := NB270_272.out
       have hnc122 := NB272_270.out
       have hnb123 := NB270_282.out
       have hnc123 := NB282_270.out
       obtain ⟨hcz124_0, hcz124_1, hcz124_2, hfz124_0, hfz124_1, hfz124_2⟩ := bz3 BK270
       go_wp2_with (first | ((with_reducible refine gate_callee (f := 47) rfl ?_); refine gl (some 58) rfl Try.func47 #[.agg #[.slice A0_0 l0_0.length c0_0, .slice A0_1 l0_1.length c0_1, .slice A0_2 l0_2.length c0_2]] ?_; (with_reducible refine (spec_IsCracker.calls kj67 _ _ l0_0 _ _ l0_1 _ _ l0_2 false _ ?side1 ?side2 ?side3 ?side4 ?side5 ?side6 A85.out).mono ?_); (case side1 => exact uc (Kd.C_below HR0_0.out HB.out)); (case side2 => exact HC0_0.out); (case side3 => exact uc (Kd.C_below HR0_1.out HB.out)); (case side4 => exact HC0_1.out); (case side5 => exact uc (Kd.C_below HR0_2.out HB.out)); (case side6 => exact HC0_2.out); rintro e w125 ⟨rfl, hb⟩; refine ⟨_, rfl, ?_⟩; replace HO_283000 := mk (Kd.R_below (up HO_283000.out) hb); replace HO_283001 := mk (Kd.R_below (up HO_283001.out) hb); replace HO_283002 := mk (Kd.R_below (up HO_283002.out) hb); replace BK270 := wb BK270 hb; replace BK271 := wb BK271 hb; replace BK272 := wb BK272 hb; replace BK282 := wb BK282 hb; replace HB := wh hb; (try clear hb); (try clear hb2); (try clear hk); (try clear hi); obtain ⟨hcz126_0, hcz126_1, hcz126_2, hfz126_0, hfz126_1, hfz126_2⟩ := bz3 BK270) | ((with_reducible refine gate_callee (f := 92) rfl ?_); refine gl (some 66) rfl Try.func92 #[.agg #[.slice A0_0 l0_0.length c0_0, .slice A0_1 l0_1.length c0_1, .slice A0_2 l0_2.length c0_2]] ?_; (with_reducible refine (spec_l4Copy.calls _ _ l0_0 _ _ l0_1 _ _ l0_2 t316 t319 t322 _ ?side1 ?side2 ?side3 ?side4 ?side5 ?side6 A120.out).mono ?_); (case side1 => exact uc (Kd.C_below HR0_0.out HB.out)); (case side2 => exact HC0_0.out); (case side3 => exact uc (Kd.C_below HR0_1.out HB.out)); (case side4 => exact HC0_1.out); (case side5 => exact uc (Kd.C_below HR0_2.out HB.out)); (case side6 => exact HC0_2.out); rintro e w127 ⟨v317, v320, v323, rfl, ho0, ho1, ho2, hb⟩; refine ⟨_, rfl, ?_⟩; have HO318 := mk (Kd.R_lower (Kd.R_new' (Kd.R_new' ho0 (Kd.R_lt (up HO_283000.out))) (Kd.R_lt (up HO_283001.out))) (below_size bl)); have HO321 := mk (Kd.R_lower (Kd.R_new' (Kd.R_new' ho1 (Kd.R_lt (up HO_283000.out))) (Kd.R_lt (up HO_283001.out))) (below_size bl)); replace HO_283000 := mk (Kd.R_mono (Kd.R_told (Kd.R_told (Kd.R_old (up HO_283000.out) hb) (Kd.R_base ho0)) (Kd.R_base ho1)) (fun _ h_ => h_.1)); replace HO_283001 := mk (Kd.R_mono (Kd.R_told (Kd.R_told (Kd.R_old (up HO_283001.out) hb) (Kd.R_base ho0)) (Kd.R_base ho1)) (fun _ h_ => h_.1)); have HO324 := mk (Kd.R_lower (Kd.R_newB (Kd.R_new' ho2 (Kd.R_lt (up HO_283002.out))) (g := gb271) (o := .cells #[.int .i64 a1_0, .int .i64 a1_1] 90 (0, 0)) (ub BK271.out)) (below_size bl)); replace HO_283002 := mk (Kd.R_elder' (up HO_283002.out) (Kd.R_base ho2) hb); replace BK270 := wb BK270 hb; replace BK271 := wb BK271 hb; replace BK272 := wb BK272 hb; replace BK282 := wb BK282 hb; replace HB := wh hb; (try clear hb); (try clear hb2); (try clear hk); (try clear hi); (try clear ho0); (try clear ho1); (try clear ho2); obtain ⟨Ao128, co128, eo128⟩ := Kd.R_slice HO318.out; subst eo128; have hnb129 := NB272_271.out; have hnc129 := NB271_272.out; have hnb130 := NB272_282.out; have hnc130 := NB282_272.out; obtain ⟨hcz131_0, hcz131_1, hcz131_2, hfz131_0, hfz131_1, hfz131_2⟩ := bz3 BK272; obtain ⟨Ao132, co132, eo132⟩ := Kd.R_slice HO321.out; subst eo132; obtain ⟨Ao133, co133, eo133⟩ := Kd.R_slice HO324.out; subst eo133))
       refine bodyPost_ret (results_ct rfl _ _ gb272 45 #[.slice Ao128 t316.length co128, .slice Ao132 t319.length co132, .slice Ao133 t322.length co133] (0, 0) _ rfl bq Try.underlying45 rfl (by kernel_rfl)) rfl ?_
       exact ⟨_, _, _, by first | rfl | (simp [errW_none, errW_some] <;> rfl) | (simp [*, errW_none, errW_some] <;> rfl), (by exact rm (rs1 HO318 BK272)), (by exact rm (rs1 HO321 BK272)), (by exact rm (rs1 HO324 BK272)), bl⟩

end Go.Proofs.Ytlikcmonejefoac.PFnMedians
