-- printed by a program of this session, a turned copy of the print of the kit
import Derived.Test.YtmliclopdbkbeaaSq
import Derived.Test.YtmliclopdbkbeaaPFnExactAddPivotx0
import Derived.Test.YtmliclopdbkbeaaPFnExactAddPivotx2
import Derived.Test.YtmliclopdbkbeaaPFnExactAddPivotx5
namespace Go.Proofs.Ytmliclopdbkbeaa.PFnExactAddPivot
open Go.RowKit Go.Proofs.YtmliclopdbkbeaaW.PrintWords Go.Proofs.YtmliclopdbkbeaaW.PrintLast Go.Proofs.YtmliclopdbkbeaaW.PrintMore Go.Proofs.Ytmliclopdbkbeaa.Sq
attribute [local go_sem] max2_int min2_int max_two min_two max_three min_three max_four min_four Giv.cell_twice   -- for this text's walks alone
set_option linter.unusedVariables false
set_option linter.unusedSimpArgs false

/-! ### spec_AddPivot: function 5 -/
mutual
def spec_AddPivot.l0 : Nat → Bool → Int → List Int → List Int → List (S35) → Int → Int → List Int → List Int → List (S35) → Option (List Int × List Int × (List (S35)) × Bool)
 | 0, _, _, _, _, _, _, _, _, _, _ => none
 | k + 1, x7, x8, x144000, x144001, x144002, x145000, x145001, x156000, x156001, x156002 => if x8 < (x144002.length : Int) then (if x7 = true then (if 0 ≤ x8 then (if x156002.length < 8796093022208 then (spec_AddPivot.l0 k x7 (wrap64 (x8 + 1)) x144000 x144001 x144002 x145000 x145001 x156000 x156001 (x156002 ++ [(⟨(rd_T35 x144002 x8).f0, (rd_T35 x144002 x8).f1⟩ : S35)])) else (none)) else (none)) else (if 0 ≤ x8 then (if ((rd_T35 x144002 x8).f0) > x145000 then (if x156002.length < 8796093022208 then ((some (x156002 ++ [(⟨x145000, x145001⟩ : S35)] : List (S35))).bind fun y164 => (if y164.length < 8796093022208 then (spec_AddPivot.l0 k true (wrap64 (x8 + 1)) x144000 x144001 x144002 x145000 x145001 x156000 x156001 (y164 ++ [(⟨(rd_T35 x144002 x8).f0, (rd_T35 x144002 x8).f1⟩ : S35)])) else (none))) else (none)) else (if x156002.length < 8796093022208 then (spec_AddPivot.l0 k x7 (wrap64 (x8 + 1)) x144000 x144001 x144002 x145000 x145001 x156000 x156001 (x156002 ++ [(⟨(rd_T35 x144002 x8).f0, (rd_T35 x144002 x8).f1⟩ : S35)])) else (none))) else (none))) else (if x7 = true then (spec_AddPivot.j1 k x144000 x144001 x144002 x156000 x156001 x156002) else (if x156002.length < 8796093022208 then (spec_AddPivot.j1 k x144000 x144001 x144002 x156000 x156001 (x156002 ++ [(⟨x145000, x145001⟩ : S35)])) else (none)))
def spec_AddPivot.j1 : Nat → List Int → List Int → List (S35) → List Int → List Int → List (S35) → Option (List Int × List Int × (List (S35)) × Bool)
 | 0, _, _, _, _, _, _ => none
 | k + 1, x144000, x144001, x144002, x156000, x156001, x156002 => (spec_IsCracker.f k x144000 x144001 x144002).bind fun t178 => (if t178 = true then ((spec_IsCracker.f k x156000 x156001 x156002).bind fun t179 => (if t179 = true then (some (x156000, x156001, x156002, true)) else ((spec_l4Copy.f x144000 x144001 x144002).bind fun bt180 => (some (bt180.1, bt180.2.1, bt180.2.2, false))))) else ((spec_l4Copy.f x144000 x144001 x144002).bind fun bt189 => (some (bt189.1, bt189.2.1, bt189.2.2, false))))
end
def spec_AddPivot.f (k : Nat) (l0_0 : List Int) (l0_1 : List Int) (l0_2 : List (S35)) (a1_0 : Int) (a1_1 : Int) : Option (List Int × List Int × (List (S35)) × Bool) := (spec_l4Copy.f l0_0 l0_1 l0_2).bind fun bt146 => (spec_AddPivot.l0 k false 0 l0_0 l0_1 l0_2 a1_0 a1_1 bt146.1 bt146.2.1 (([] : List (S35))))
theorem spec_AddPivot.mono_l : ∀ k, (∀ y0 y1 y2 y3 y4 y5 y6 y7 y8 y9, LeO (spec_AddPivot.l0 k y0 y1 y2 y3 y4 y5 y6 y7 y8 y9) (spec_AddPivot.l0 (k + 1) y0 y1 y2 y3 y4 y5 y6 y7 y8 y9)) ∧ (∀ y0 y1 y2 y3 y4 y5, LeO (spec_AddPivot.j1 k y0 y1 y2 y3 y4 y5) (spec_AddPivot.j1 (k + 1) y0 y1 y2 y3 y4 y5))
 | 0 => ⟨fun _ _ _ _ _ _ _ _ _ _ r h => by simp [spec_AddPivot.l0] at h, fun _ _ _ _ _ _ r h => by simp [spec_AddPivot.j1] at h⟩
 | k + 1 => by
  obtain ⟨ih0, ih1⟩ := spec_AddPivot.mono_l k
  refine ⟨?_, ?_⟩
  ·intro y0 y1 y2 y3 y4 y5 y6 y7 y8 y9
   unfold spec_AddPivot.l0
   exact mo
  ·intro y0 y1 y2 y3 y4 y5
   unfold spec_AddPivot.j1
   exact mo
theorem spec_AddPivot.mono : ∀ a0 a1 a2 a3 a4 k, LeO (spec_AddPivot.f k a0 a1 a2 a3 a4) (spec_AddPivot.f (k + 1) a0 a1 a2 a3 a4) := by
 intro a0 a1 a2 a3 a4 k
 obtain ⟨ih0, ih1⟩ := spec_AddPivot.mono_l k
 unfold spec_AddPivot.f
 exact mo
instance spec_AddPivot.mi (a0 a1 a2 a3 a4 k) : LeC (spec_AddPivot.f k a0 a1 a2 a3 a4) (spec_AddPivot.f (k + 1) a0 a1 a2 a3 a4) := ⟨spec_AddPivot.mono a0 a1 a2 a3 a4 k⟩
def spec_AddPivot.T7 : Bool × List (List Nat × List Nat) := (true, [([], []), ([0], [0]), ([1], [1]), ([2], [2]), ([3, 2], [2, 3]), ([2], [2]), ([4, 5, 2], [2, 4, 5]), ([6, 2], [2, 6]), ([7, 2], [2, 7]), ([2], [2]), ([9, 2], [2, 9]), ([8, 10, 2], [2, 8, 10]), ([2, 11], [2, 11])])
def spec_AddPivot.B7 : List Nat := [0, 1, 3, 7, 15, 7, 63, 127, 255, 7, 519, 2047, 4095]
theorem spec_AddPivot.tab7 : rtab .any (opsOf Try.f5 7) = spec_AddPivot.T7 := by kernel_rfl
theorem spec_AddPivot.bits7 : waitsOk spec_AddPivot.T7.2 spec_AddPivot.B7 = true := by kernel_rfl
def spec_AddPivot.T10 : Bool × List (List Nat × List Nat) := (true, [([], []), ([0], [0]), ([], []), ([2], [2]), ([], []), ([3, 4], [3, 4]), ([5], [5]), ([6], [6]), ([1, 7], [1, 7]), ([0, 1, 2, 3, 4, 5, 6, 7, 8], []), ([9, 8, 8, 0, 1, 2, 3, 4, 5, 6, 7, 8], [8, 9])])
def spec_AddPivot.B10 : List Nat := [0, 1, 0, 4, 0, 28, 60, 124, 255, 511, 1023]
theorem spec_AddPivot.tab10 : rtab .any (opsOf Try.f5 10) = spec_AddPivot.T10 := by kernel_rfl
theorem spec_AddPivot.bits10 : waitsOk spec_AddPivot.T10.2 spec_AddPivot.B10 = true := by kernel_rfl
set_option maxHeartbeats 8000000 in
set_option maxRecDepth 100000 in
theorem spec_AddPivot.calls (k : Nat) (A0_0 : Option Addr) (c0_0 : Nat) (l0_0 : List Int) (A0_1 : Option Addr) (c0_1 : Nat) (l0_1 : List Int) (A0_2 : Option Addr) (c0_2 : Nat) (l0_2 : List (S35)) (a1_0 : Int) (a1_1 : Int) (r1 : List Int) (r2 : List Int) (r3 : List (S35)) (r4 : Bool) (w : World) (hr0_0 : Kd.C (Kd.int .i64) w A0_0 l0_0.length l0_0) (hc0_0 : l0_0.length ≤ c0_0) (hr0_1 : Kd.C (Kd.int .i64) w A0_1 l0_1.length l0_1) (hc0_1 : l0_1.length ≤ c0_1) (hr0_2 : Kd.C k35 w A0_2 l0_2.length l0_2) (hc0_2 : l0_2.length ≤ c0_2) (h : spec_AddPivot.f k l0_0 l0_1 l0_2 a1_0 a1_1 = some (r1, r2, r3, r4)) :
  Calls Try.prog 5 #[.agg #[.slice A0_0 l0_0.length c0_0, .slice A0_1 l0_1.length c0_1, .slice A0_2 l0_2.length c0_2], .agg #[.int .i64 a1_0, .int .i64 a1_1]] w fun e w' => ∃ v0_ v1_ v2_ : Value, e = .returned (.tuple #[.agg #[v0_, v1_, v2_], .bool r4]) ∧ Kd.R (Kd.int .i64) 3 w' w.heap.size (fun k_ => some k_ ≠ (v1_ : Value).ownBlock) v0_ r1 ∧ Kd.R (Kd.int .i64) 3 w' w.heap.size (fun k_ => some k_ ≠ (v0_ : Value).ownBlock) v1_ r2 ∧ Kd.R k35 35 w' w.heap.size (fun _ => True) v2_ r3 ∧ Below w.heap.size w w' := by
 have hu31 := Try.underlying31
 have hu35 := Try.underlying35
 have HR0_0 := Aside0.mk hr0_0
 have HC0_0 := Aside0.mk hc0_0
 clear hr0_0 hc0_0
 have HR0_1 := Aside0.mk hr0_1
 have HC0_1 := Aside0.mk hc0_1
 clear hr0_1 hc0_1
 have HR0_2 := Aside0.mk hr0_2
 have HC0_2 := Aside0.mk hc0_2
 clear hr0_2 hc0_2
 have HB := Aside0.mk (Below.refl w.heap.size w)
 have H : ((spec_l4Copy.f l0_0 l0_1 l0_2).bind fun bt146 => (spec_AddPivot.l0 k false 0 l0_0 l0_1 l0_2 a1_0 a1_1 bt146.1 bt146.2.1 (([] : List (S35))))) = some (r1, r2, r3, r4) := h
 clear h
 revert H; refine bo ?_; rintro ⟨t146, t149, t152⟩ A3 H
 dsimp only at H
 obtain ⟨y156, hy156⟩ : ∃ y_ : List (S35), y_ = (([] : List (S35))) := ⟨_, rfl⟩
 replace H : (spec_AddPivot.l0 k false 0 l0_0 l0_1 l0_2 a1_0 a1_1 t146 t149 y156) = some (r1, r2, r3, r4) := by first | (rw [hy156]; with_reducible exact H) | (have H2_ := (Option.bind_some _ _).symm.trans H; rw [hy156]; with_reducible exact H2_) | (have H2_ := (Option.bind_some _ _).symm.trans H; with_reducible exact H2_) | with_reducible exact H | (rw [hy156]; exact H) | exact H
 have Ny156 := Aside0.mk hy156
 clear hy156
 have H' := Aside0.mk H
 clear H
 go_enter Try.func5, Try.ntmps5
 go_wp2_with (first | ((with_reducible refine gate_dst (N := 2) rfl ?_); refine bx 2 #[.slice A0_0 l0_0.length c0_0, .slice A0_1 l0_1.length c0_1, .slice A0_2 l0_2.length c0_2] 31 ?_; intro gb143 hg w4 hbox hb; have BK143 := mk hbox; have GW143 := wg hg; have GE143 := wg hg; replace HB := wh hb; clear hb hbox hg) | ((with_reducible refine gate_dst (N := 3) rfl ?_); refine bx 3 #[.int .i64 a1_0, .int .i64 a1_1] 35 ?_; intro gb144 hg w5 hbox hb; have BK144 := mk hbox; have GW144 := wg hg; have GE144 := wg hg; replace HB := wh hb; have NB143_144 := nl BK143 hg; have NB144_143 := nr BK143 hg; replace BK143 := wb BK143 hb; clear hb hbox hg) | ((with_reducible refine gate_dst (N := 4) rfl ?_); refine bx 4 #[.slice none 0 0, .slice none 0 0, .slice none 0 0] 31 ?_; intro gb145 hg w6 hbox hb; have BK145 := mk hbox; have GW145 := wg hg; have GE145 := wg hg; replace HB := wh hb; have NB143_145 := nl BK143 hg; have NB145_143 := nr BK143 hg; replace BK143 := wb BK143 hb; have NB144_145 := nl BK144 hg; have NB145_144 := nr BK144 hg; replace BK144 := wb BK144 hb; clear hb hbox hg; have hnb7 := NB143_144.out; have hnc7 := NB144_143.out; have hnb8 := NB143_145.out; have hnc8 := NB145_143.out; obtain ⟨hcz9_0, hcz9_1, hcz9_2, hfz9_0, hfz9_1, hfz9_2⟩ := bz3 BK143) | ((with_reducible refine gate_callee (f := 14) rfl ?_); refine gl (some 10) rfl Try.func14 #[.agg #[.slice A0_0 l0_0.length c0_0, .slice A0_1 l0_1.length c0_1, .slice A0_2 l0_2.length c0_2]] ?_; (with_reducible refine (spec_l4Copy.calls _ _ l0_0 _ _ l0_1 _ _ l0_2 t146 t149 t152 _ ?side1 ?side2 ?side3 ?side4 ?side5 ?side6 A3.out).mono ?_); (case side1 => exact uc (Kd.C_below HR0_0.out HB.out)); (case side2 => exact HC0_0.out); (case side3 => exact uc (Kd.C_below HR0_1.out HB.out)); (case side4 => exact HC0_1.out); (case side5 => exact uc (Kd.C_below HR0_2.out HB.out)); (case side6 => exact HC0_2.out); rintro e w10 ⟨v147, v150, v153, rfl, ho0, ho1, ho2, hb⟩; refine ⟨_, rfl, ?_⟩; have HO148 := mk (Kd.R_lower ho0 (below_size bl)); have HO151 := mk (Kd.R_lower ho1 (below_size bl)); have HO154 := mk (Kd.R_lower (Kd.R_newB ho2 (g := gb144) (o := .cells #[.int .i64 a1_0, .int .i64 a1_1] 35 (0, 0)) (ub BK144.out)) (below_size bl)); replace BK143 := wb BK143 hb; replace BK144 := wb BK144 hb; replace BK145 := wb BK145 hb; replace HB := wh hb; (try clear hb); (try clear hb2); (try clear hk); (try clear hi); (try clear ho0); (try clear ho1); (try clear ho2)) | ((with_reducible refine gate_dst (N := 6) rfl ?_); refine bx 6 #[.slice none 0 0, .slice none 0 0, .slice none 0 0] 31 ?_; intro gb155 hg w11 hbox hb; replace HO148 := mk (Kd.R_below (up HO148.out) hb); replace HO151 := mk (Kd.R_below (up HO151.out) hb); replace HO154 := mk (Kd.R_below (up HO154.out) hb); have BK155 := mk hbox; have GW155 := wg hg; have GE155 := wg hg; replace HB := wh hb; have NB143_155 := nl BK143 hg; have NB155_143 := nr BK143 hg; replace BK143 := wb BK143 hb; have NB144_155 := nl BK144 hg; have NB155_144 := nr BK144 hg; replace BK144 := wb BK144 hb; have NB145_155 := nl BK145 hg; have NB155_145 := nr BK145 hg; replace BK145 := wb BK145 hb; clear hb hbox hg; obtain ⟨Ao12, co12, eo12⟩ := Kd.R_slice HO148.out; subst eo12; have hnb13 := NB155_143.out; have hnc13 := NB143_155.out; have hnb14 := NB155_144.out; have hnc14 := NB144_155.out; have hnb15 := NB155_145.out; have hnc15 := NB145_155.out; obtain ⟨hcz16_0, hcz16_1, hcz16_2, hfz16_0, hfz16_1, hfz16_2⟩ := bz3 BK155; obtain ⟨Ao17, co17, eo17⟩ := Kd.R_slice HO151.out; subst eo17; obtain ⟨Ao18, co18, eo18⟩ := Kd.R_slice HO154.out; subst eo18) | ((with_reducible refine gate_dst (N := 11) rfl ?_); refine Kd.R_lit k35 _ 35 ?hg (N := 11) ?hd (xs := ([] : List (S35))) (inner := []) (ok := fun _ => True) (okp := fun _ => True) ?hr ?hp (fun _ hk => hk) trivial (Below.refl _ _) (Nat.le_refl _) (by simp) ?_; (case hd => rfl); (case hg => rfl); (case hr => first | (go_simp; done) | (go_simp; rfl)); (case hp => exact (Reps.none _ _)); intro v157 w19 ho20 hb hg_ hnew_; clear hg_ hnew_; (first | rw [← Ny156.out] at ho20 | (simp only [Int.reduceToNat] at ho20; rw [← Ny156.out] at ho20)); replace HO148 := mk (Kd.R_below (by exact rs1 HO148 BK155) hb); replace HO151 := mk (Kd.R_below (by exact rs1 HO151 BK155) hb); have HO158 := mk (Kd.R_lower (Kd.R_newB (Kd.R_new' ho20 (Kd.R_lt (by exact rs1 HO154 BK155))) (g := gb144) (o := .cells #[.int .i64 a1_0, .int .i64 a1_1] 35 (0, 0)) bq) (below_size bl)); replace HO154 := mk (Kd.R_elder' (by exact rs1 HO154 BK155) (Kd.R_base ho20) hb); replace BK143 := wx BK143 hb; replace BK144 := wx BK144 hb; replace BK145 := wx BK145 hb; replace BK155 := mk (blk_below (g := gb155) (o := .cells #[.slice Ao12 t146.length co12, .slice Ao17 t149.length co17, .slice Ao18 t152.length co18] 31 (0, 0)) bq hb); replace HB := wh hb; clear hb ho20; obtain ⟨Ao21, co21, eo21⟩ := Kd.R_slice HO158.out; subst eo21; obtain ⟨hcz22_0, hcz22_1, hcz22_2, hfz22_0, hfz22_1, hfz22_2⟩ := bz3 BK155))
 go_loopg [7, 8] k (fun kq v7 v8 w' => ∃ (x7_1 : Bool) (x8_1 : Int) (x156002_1 : List (S35)) (u156002 : Value), v7 = .bool x7_1 ∧ v8 = .int .i64 x8_1 ∧ Aside0 (spec_AddPivot.l0 kq x7_1 x8_1 l0_0 l0_1 l0_2 a1_0 a1_1 t146 t149 x156002_1 = some (r1, r2, r3, r4)) ∧ Aside0 (kq ≤ k) ∧ Aside0 (Kd.R (Kd.int .i64) 3 w' w.heap.size (fun k_ => some k_ ≠ ((.slice Ao17 t149.length co17) : Value).ownBlock) (.slice Ao12 t146.length co12) t146) ∧ Aside0 (Kd.R (Kd.int .i64) 3 w' w.heap.size (fun k_ => some k_ ≠ ((.slice Ao12 t146.length co12) : Value).ownBlock) (.slice Ao17 t149.length co17) t149) ∧ Aside0 (Kd.R k35 35 w' w.heap.size (fun k_ => k_ ≠ gb144) u156002 x156002_1) ∧ Aside0 (w'.heap[gb143]? = some (.cells #[(.slice A0_0 l0_0.length c0_0), (.slice A0_1 l0_1.length c0_1), (.slice A0_2 l0_2.length c0_2)] 31 (0, 0))) ∧ Aside0 (w'.heap[gb144]? = some (.cells #[.int .i64 a1_0, .int .i64 a1_1] 35 (0, 0))) ∧ Aside0 (w'.heap[gb145]? = some (.cells #[(.slice none 0 0), (.slice none 0 0), (.slice none 0 0)] 31 (0, 0))) ∧ Aside0 (w'.heap[gb155]? = some (.cells #[(.slice Ao12 t146.length co12), (.slice Ao17 t149.length co17), u156002] 31 (0, 0))) ∧ Aside0 (Below w.heap.size w w'))
 case atStart => exact ⟨(false), (0), (y156), (.slice Ao21 y156.length co21), (by first | rfl | (simp; done) | (simp [*]; done)), (by first | rfl | (simp; done) | (simp [*]; done)), H', ⟨Nat.le_refl _⟩, ⟨(by exact rm (rs1 HO148 BK155))⟩, ⟨(by exact rm (rs1 HO151 BK155))⟩, ⟨(by exact rm (rs1 HO158 BK155))⟩, ⟨bq⟩, ⟨bq⟩, ⟨bq⟩, ⟨bq⟩, ⟨bl⟩⟩
 case round =>
  clear H'
  try clear c1
  try clear p2
  try clear c5
  try clear c7
  try clear c8
  try clear c13
  try clear c14
  try clear c15
  try clear hcz16_0
  try clear hcz16_1
  try clear hcz16_2
  try clear hcz22_0
  try clear hcz22_1
  try clear hcz22_2
  try clear hcz9_0
  try clear hcz9_1
  try clear hcz9_2
  try clear hfz16_0
  try clear hfz16_1
  try clear hfz16_2
  try clear hfz22_0
  try clear hfz22_1
  try clear hfz22_2
  try clear hfz9_0
  try clear hfz9_1
  try clear hfz9_2
  obtain ⟨x7_1, x8_1, x156002_1, u156002, rfl, rfl, HA, HK1, HO_156000, HO_156001, HO_156002, BK143, BK144, BK145, BK155, HB⟩ := hrel
  cases gk with
  | zero => exact absurd HA.out (by simp [spec_AddPivot.l0])
  | succ k1 =>
   have H := HA.out
   clear HA
   simp only [spec_AddPivot.l0] at H
   by_cases c23 : x8_1 < (l0_2.length : Int)
   ·rw [if_pos c23] at H
    have c23b0 : decide (x8_1 < (l0_2.length : Int)) = true := decide_eq_true c23
    clear c23
    by_cases c24 : x7_1 = true
    ·subst c24
     rw [if_pos rfl] at H
     by_cases c25 : 0 ≤ x8_1
     ·rw [if_pos c25] at H
      have c25b0 : decide (0 ≤ x8_1) = true := decide_eq_true c25
      clear c25
      by_cases c26 : x156002_1.length < 8796093022208
      ·rw [if_pos c26] at H
       have LMc26 := Aside0.mk c26
       clear c26
       obtain ⟨y160, hy160⟩ : ∃ y_ : List (S35), y_ = (x156002_1 ++ [(⟨(rd_T35 l0_2 x8_1).f0, (rd_T35 l0_2 x8_1).f1⟩ : S35)]) := ⟨_, rfl⟩
       replace H : (spec_AddPivot.l0 k1 true (wrap64 (x8_1 + 1)) l0_0 l0_1 l0_2 a1_0 a1_1 t146 t149 y160) = some (r1, r2, r3, r4) := by first | (rw [hy160]; with_reducible exact H) | (have H2_ := (Option.bind_some _ _).symm.trans H; rw [hy160]; with_reducible exact H2_) | (have H2_ := (Option.bind_some _ _).symm.trans H; with_reducible exact H2_) | with_reducible exact H | (rw [hy160]; exact H) | exact H
       have Ny160 := Aside0.mk hy160
       clear hy160
       have H' := Aside0.mk H
       clear H
       have hnb27 := NB143_144.out
       have hnc27 := NB144_143.out
       have hnb28 := NB143_145.out
       have hnc28 := NB145_143.out
       have hnb29 := NB143_155.out
       have hnc29 := NB155_143.out
       obtain ⟨hcz30_0, hcz30_1, hcz30_2, hfz30_0, hfz30_1, hfz30_2⟩ := bz3 BK143
       try go_wp2
       replace HO_156000 := mk (Kd.R_drew HO_156000.out)
       replace HO_156001 := mk (Kd.R_drew HO_156001.out)
       replace HO_156002 := mk (Kd.R_drew HO_156002.out)
       replace BK143 := wd BK143
       replace BK144 := wd BK144
       replace BK145 := wd BK145
       replace BK155 := wd BK155
       replace HB := mk (below_drew1 HB.out)
       refine start_ (n := 13) (S := fun w' => True) (ds := []) #[F_, F_, F_, F_, F_, F_, F_, F_, F_, F_, F_, F_, F_] (by kernel_rfl) rfl rfl trivial (fun hHeld => ?_); refine with_tabW spec_AddPivot.tab7 spec_AddPivot.bits7 (fun HT_ HW_ => ?_)
       generalize wr.drew = w31 at HO_156000 HO_156001 HO_156002 BK143 BK144 BK145 BK155 HB hHeld ⊢
       refine pu 0 20 (tf 1 12) ?_
       refine pu 1 21 (tf 2 11) ?_
       refine pu 2 22 (tf 3 10) ?_
       refine pn 3 23 (tf 4 9) ?_
       refine pn 4 24 (tf 5 8) ?_
       refine pn 5 25 (tf 6 7) ?_
       refine pn 6 26 (tf 7 6) ?_
       refine pn 7 27 (tf 8 5) ?_
       refine pn 8 28 (tf 9 4) ?_
       refine pn 9 29 (tf 10 3) ?_
       refine pn 10 30 (tf 11 2) ?_
       refine pn 11 31 (tf 12 1) ?_
       refine pu 12 32 (tf 13 0) ?_
       refine done_ (done_of HT_.out (by kernel_rfl)) ?_
       try go_wp2
       replace HO_156000 := mk (Kd.R_drew HO_156000.out)
       replace HO_156001 := mk (Kd.R_drew HO_156001.out)
       replace HO_156002 := mk (Kd.R_drew HO_156002.out)
       replace BK143 := wd BK143
       replace BK144 := wd BK144
       replace BK145 := wd BK145
       replace BK155 := wd BK155
       replace HB := mk (below_drew1 HB.out)
       have p159 : 0 ≤ (x8_1 : Int) := dt
       have q159 : x8_1 < (l0_2.length : Int) := dt
       obtain ⟨ad159, e159, hx159_0, hx159_1⟩ := at_T35 HR0_2.out x8_1 p159 q159
       have hw159_1 := hx159_1
       have hw159_0 := hx159_0
       cases e159
       replace hx159_0 := (HB.out.cell (World.block_lt_of_cell? w _ hx159_0)).trans hx159_0
       replace hx159_1 := (HB.out.cell (World.block_lt_of_cell? w _ hx159_1)).trans hx159_1
       replace p159 := eq_true p159
       replace q159 := eq_true q159
       refine start_ (n := 11) (S := fun w' => w'.cell? ⟨gb155, 0, none⟩ = some (.slice Ao12 t146.length co12) ∧ w'.cell? ⟨gb155, 1, none⟩ = some (.slice Ao17 t149.length co17) ∧ w'.cell? ⟨gb155, 2, none⟩ = some (u156002) ∧ w'.cell? ⟨gb143, 0, none⟩ = some (.slice A0_0 l0_0.length c0_0) ∧ w'.cell? ⟨gb143, 1, none⟩ = some (.slice A0_1 l0_1.length c0_1) ∧ w'.cell? ⟨gb143, 2, none⟩ = some (.slice (some ad159) l0_2.length c0_2) ∧ w'.cell? (ad159.add ((x8_1).toNat * 2)) = some (.int .i64 ((rd_T35 l0_2 x8_1).f0)) ∧ w'.cell? ⟨(ad159.add ((x8_1).toNat * 2)).block, (ad159.add ((x8_1).toNat * 2)).off + 1, none⟩ = some (.int .i64 ((rd_T35 l0_2 x8_1).f1))) (ds := [10]) #[F_, F_, F_, F_, F_, F_, F_, F_, F_, F_, F_] (by kernel_rfl) rfl rfl ⟨bc BK155 0, bc BK155 1, bc BK155 2, bc BK143 0, bc BK143 1, bc BK143 2, ((HB.out.cell (World.block_lt_of_cell? w _ hw159_0)).trans hw159_0), ((HB.out.cell (World.block_lt_of_cell? w _ hw159_1)).trans hw159_1)⟩ (fun hHeld => ?_); refine with_tabW spec_AddPivot.tab10 spec_AddPivot.bits10 (fun HT_ HW_ => ?_)
       generalize w31.drew = w32 at HO_156000 HO_156001 HO_156002 BK143 BK144 BK145 BK155 HB hx159_0 hx159_1 hHeld ⊢
       refine pu 0 39 (tf 1 10) ?_
       refine pu 2 41 #[T_,F_,T_,F_,F_,F_,F_,F_,F_,F_,F_] ?_
       refine pu 4 43 #[T_,F_,T_,F_,T_,F_,F_,F_,F_,F_,F_] ?_
       refine tk 1 40 #[T_,T_,T_,F_,T_,F_,F_,F_,F_,F_,F_] hHeld ?_
       refine tk 3 42 (tf 5 6) hHeld ?_
       refine pu 5 44 (tf 6 5) ?_
       refine tk 6 45 (tf 7 4) hHeld ?_
       refine on 7 46 (tf 8 3) (fun K hK => ?_)
       refine value_ (w1 := ?_) (v := ?_) (by rfl) rfl ?_ ?_
       rotate_left 2
       ·go_simp
        constructor
        ·rfl
        ·rfl
       refine hK.out _ _ ⟨(blk_cell (blk_alloc BK155.out _) 0).trans rfl, (blk_cell (blk_alloc BK155.out _) 1).trans rfl, (blk_cell (blk_alloc BK155.out _) 2).trans rfl, (blk_cell (blk_alloc BK143.out _) 0).trans rfl, (blk_cell (blk_alloc BK143.out _) 1).trans rfl, (blk_cell (blk_alloc BK143.out _) 2).trans rfl, (World.cell?_alloc_lt _ _ _ (World.block_lt_of_cell? _ _ (((HB.out.cell (World.block_lt_of_cell? w _ hw159_0)).trans hw159_0)))).trans (((HB.out.cell (World.block_lt_of_cell? w _ hw159_0)).trans hw159_0)), (World.cell?_alloc_lt _ _ _ (World.block_lt_of_cell? _ _ (((HB.out.cell (World.block_lt_of_cell? w _ hw159_1)).trans hw159_1)))).trans (((HB.out.cell (World.block_lt_of_cell? w _ hw159_1)).trans hw159_1))⟩ (fun hHeld => ?_)
       clear hK K
       refine nm 46 ?_
       refine on 8 47 (tf 9 2) (fun K hK => ?_)
       refine Kd.R_append_step k35 (w0 := w) w.heap.size (by rfl) (.tmp 40) (.tmp 46) 29 35 (.agg #[(.int .i64 0), (.int .i64 0)]) 16 rfl Try.underlying29 info35 rfl (by decide) (by omega) u156002 x156002_1 (⟨(rd_T35 l0_2 x8_1).f0, (rd_T35 l0_2 x8_1).f1⟩ : S35) [.int .i64 ((rd_T35 l0_2 x8_1).f0), .int .i64 ((rd_T35 l0_2 x8_1).f1)] (fun k_ => k_ ≠ gb144) (fun _ => False) rfl rfl ?aP (fun _ hk => hk.elim) ?aF ?aO ?aB ?aS ?aL ?_
       (case aP => exact k35_mkM _ _ _ (⟨(rd_T35 l0_2 x8_1).f0, (rd_T35 l0_2 x8_1).f1⟩ : S35))
       (case aB => exact bl)
       (case aF => exact (fun k_ hk => Kd.freshB (g := gb144) (o := .cells #[.int .i64 a1_0, .int .i64 a1_1] 35 (0, 0)) (ub BK144.out) k_ hk))
       (case aO => exact (up HO_156002.out))
       (case aS => exact (below_size bl))
       (case aL => have := LMc26.out; omega)
       intro v161 w33 ho hb hg hat
       rw [← Ny160.out] at ho
       replace HO_156000 := mk (Kd.R_over' (up HO_156000.out) (Kd.R_typed (up HO_156002.out)) (by decide) hg)
       replace HO_156001 := mk (Kd.R_over' (up HO_156001.out) (Kd.R_typed (up HO_156002.out)) (by decide) hg)
       replace BK143 := mk (blk_grown (g := gb143) (o := .cells #[.slice A0_0 l0_0.length c0_0, .slice A0_1 l0_1.length c0_1, .slice (some ad159) l0_2.length c0_2] 31 (0, 0)) (ub BK143.out) hg (Kd.R_ne HO_156002.out BK143.out (by decide)))
       replace BK144 := mk (blk_grown (g := gb144) (o := .cells #[.int .i64 a1_0, .int .i64 a1_1] 35 (0, 0)) (ub BK144.out) hg (Kd.R_away HO_156002.out (fun _ hk => hk)))
       replace BK145 := mk (blk_grown (g := gb145) (o := .cells #[.slice none 0 0, .slice none 0 0, .slice none 0 0] 31 (0, 0)) (ub BK145.out) hg (Kd.R_ne HO_156002.out BK145.out (by decide)))
       replace BK155 := mk (blk_grown (g := gb155) (o := .cells #[.slice Ao12 t146.length co12, .slice Ao17 t149.length co17, u156002] 31 (0, 0)) (ub BK155.out) hg (Kd.R_ne HO_156002.out BK155.out (by decide)))
       replace HB := mk hb
       have HO162 := mk ho
       clear HO_156002
       clear ho hb hg hat
       obtain ⟨Ao34, co34, eo34⟩ := Kd.R_slice HO162.out
       (first | subst eo34 | (injection eo34 with f1_ f2_ f3_; have f4_ := f1_.symm; have f5_ := f3_.symm; clear f1_ f2_ f3_; subst f4_; subst f5_))
       refine hK.out _ _ ⟨bc BK155 0, bc BK155 1, bc BK155 2, bc BK143 0, bc BK143 1, bc BK143 2, ((HB.out.cell (World.block_lt_of_cell? w _ hw159_0)).trans hw159_0), ((HB.out.cell (World.block_lt_of_cell? w _ hw159_1)).trans hw159_1)⟩ (fun hHeld => ?_)
       clear hK K
       refine nm 47 ?_
       refine pu 9 48 (tf 10 1) ?_
       refine last_ (i := 10) (N := none) #[T_, T_, T_, T_, T_, T_, T_, T_, T_, T_, T_] rfl rfl (one_of HT_.out (by kernel_rfl)) (by decide) (fun K hK => ?_)
       have hs35 : w33.cell? ⟨gb155, 2, none⟩ = some (u156002) := (blk_cell BK155.out 2).trans rfl
       have hfs35 := blk_frozen BK155.out 2
       have hns35_0 := NB143_155.out
       have hns35_1 := NB144_155.out
       have hns35_2 := NB145_155.out
       have hms35_0 := NB155_143.out
       have hms35_1 := NB155_144.out
       have hms35_2 := NB155_145.out
       refine skip_ (w1 := ?_) (by rfl) rfl ?_ ?_
       rotate_left
       ·go_simp
        rfl
       refine hK.out _ _ ?_
       clear hK K
       refine done_ (done_of HT_.out (by kernel_rfl)) ?_
       try go_wp2
       go_roundg k1
       case measure => have := HK1.out; omega
       case rel => exact ⟨(true), (wrap64 (x8_1 + 1)), (y160), (.slice Ao34 y160.length co34), (by first | rfl | (simp; done) | (simp [*]; done)), (by first | rfl | (simp; done) | (simp [*]; done)), H', ⟨by have := HK1.out; omega⟩, ⟨(by exact rm (rs1 HO_156000 BK155))⟩, ⟨(by exact rm (rs1 HO_156001 BK155))⟩, ⟨(by exact rm (rs1 HO162 BK155))⟩, ⟨bq⟩, ⟨bq⟩, ⟨bq⟩, ⟨bq⟩, ⟨bl⟩⟩
      ·rw [if_neg c26] at H
       exact absurd H (by simp)
     ·rw [if_neg c25] at H
      exact absurd H (by simp)
    ·replace c24 := Bool.eq_false_iff.mpr c24
     subst c24
     rw [if_neg nf] at H
     by_cases c36 : 0 ≤ x8_1
     ·rw [if_pos c36] at H
      have c36b0 : decide (0 ≤ x8_1) = true := decide_eq_true c36
      clear c36
      by_cases c37 : ((rd_T35 l0_2 x8_1).f0) > a1_0
      ·rw [if_pos c37] at H
       have c37b0 : decide (a1_0 < ((rd_T35 l0_2 x8_1).f0)) = true := decide_eq_true c37
       clear c37
       by_cases c38 : x156002_1.length < 8796093022208
       ·rw [if_pos c38] at H
        have LMc38 := Aside0.mk c38
        clear c38
        obtain ⟨y164, hy164⟩ : ∃ y_ : List (S35), y_ = (x156002_1 ++ [(⟨a1_0, a1_1⟩ : S35)]) := ⟨_, rfl⟩
        replace H : (if y164.length < 8796093022208 then (spec_AddPivot.l0 k1 true (wrap64 (x8_1 + 1)) l0_0 l0_1 l0_2 a1_0 a1_1 t146 t149 (y164 ++ [(⟨(rd_T35 l0_2 x8_1).f0, (rd_T35 l0_2 x8_1).f1⟩ : S35)])) else (none)) = some (r1, r2, r3, r4) := by first | (rw [hy164]; with_reducible exact H) | (have H2_ := (Option.bind_some _ _).symm.trans H; rw [hy164]; with_reducible exact H2_) | (have H2_ := (Option.bind_some _ _).symm.trans H; with_reducible exact H2_) | with_reducible exact H | (rw [hy164]; exact H) | exact H
        have Ny164 := Aside0.mk hy164
        clear hy164
        by_cases c39 : y164.length < 8796093022208
        ·rw [if_pos c39] at H
         have LMc39 := Aside0.mk c39
         clear c39
         obtain ⟨y168, hy168⟩ : ∃ y_ : List (S35), y_ = (y164 ++ [(⟨(rd_T35 l0_2 x8_1).f0, (rd_T35 l0_2 x8_1).f1⟩ : S35)]) := ⟨_, rfl⟩
         replace H : (spec_AddPivot.l0 k1 true (wrap64 (x8_1 + 1)) l0_0 l0_1 l0_2 a1_0 a1_1 t146 t149 y168) = some (r1, r2, r3, r4) := by first | (rw [hy168]; with_reducible exact H) | (have H2_ := (Option.bind_some _ _).symm.trans H; rw [hy168]; with_reducible exact H2_) | (have H2_ := (Option.bind_some _ _).symm.trans H; with_reducible exact H2_) | with_reducible exact H | (rw [hy168]; exact H) | exact H
         have Ny168 := Aside0.mk hy168
         clear hy168
         have H' := Aside0.mk H
         clear H
         have hnb40 := NB143_144.out
         have hnc40 := NB144_143.out
         have hnb41 := NB143_145.out
         have hnc41 := NB145_143.out
         have hnb42 := NB143_155.out
         have hnc42 := NB155_143.out
         obtain ⟨hcz43_0, hcz43_1, hcz43_2, hfz43_0, hfz43_1, hfz43_2⟩ := bz3 BK143
         try go_wp2
         replace HO_156000 := mk (Kd.R_drew HO_156000.out)
         replace HO_156001 := mk (Kd.R_drew HO_156001.out)
         replace HO_156002 := mk (Kd.R_drew HO_156002.out)
         replace BK143 := wd BK143
         replace BK144 := wd BK144
         replace BK145 := wd BK145
         replace BK155 := wd BK155
         replace HB := mk (below_drew1 HB.out)
         have p163 : 0 ≤ (x8_1 : Int) := dt
         have q163 : x8_1 < (l0_2.length : Int) := dt
         obtain ⟨ad163, e163, hx163_0, hx163_1⟩ := at_T35 HR0_2.out x8_1 p163 q163
         have hw163_1 := hx163_1
         have hw163_0 := hx163_0
         cases e163
         replace hx163_0 := (HB.out.cell (World.block_lt_of_cell? w _ hx163_0)).trans hx163_0
         replace hx163_1 := (HB.out.cell (World.block_lt_of_cell? w _ hx163_1)).trans hx163_1
         replace p163 := eq_true p163
         replace q163 := eq_true q163
         refine start_ (n := 13) (S := fun w' => w'.cell? ⟨gb143, 0, none⟩ = some (.slice A0_0 l0_0.length c0_0) ∧ w'.cell? ⟨gb143, 1, none⟩ = some (.slice A0_1 l0_1.length c0_1) ∧ w'.cell? ⟨gb143, 2, none⟩ = some (.slice (some ad163) l0_2.length c0_2) ∧ w'.cell? ⟨gb144, 0, none⟩ = some (.int .i64 a1_0) ∧ w'.cell? ⟨gb144, 1, none⟩ = some (.int .i64 a1_1) ∧ w'.cell? (ad163.add ((x8_1).toNat * 2)) = some (.int .i64 ((rd_T35 l0_2 x8_1).f0)) ∧ w'.cell? ⟨(ad163.add ((x8_1).toNat * 2)).block, (ad163.add ((x8_1).toNat * 2)).off + 1, none⟩ = some (.int .i64 ((rd_T35 l0_2 x8_1).f1))) (ds := []) #[F_, F_, F_, F_, F_, F_, F_, F_, F_, F_, F_, F_, F_] (by kernel_rfl) rfl rfl ⟨bc BK143 0, bc BK143 1, bc BK143 2, bc BK144 0, bc BK144 1, ((HB.out.cell (World.block_lt_of_cell? w _ hw163_0)).trans hw163_0), ((HB.out.cell (World.block_lt_of_cell? w _ hw163_1)).trans hw163_1)⟩ (fun hHeld => ?_); refine with_tabW spec_AddPivot.tab7 spec_AddPivot.bits7 (fun HT_ HW_ => ?_)
         generalize wr.drew = w44 at HO_156000 HO_156001 HO_156002 BK143 BK144 BK145 BK155 HB hx163_0 hx163_1 hHeld ⊢
         refine pu 0 20 (tf 1 12) ?_
         refine pu 1 21 (tf 2 11) ?_
         refine pu 2 22 (tf 3 10) ?_
         refine pu 3 23 (tf 4 9) ?_
         refine pu 5 25 #[T_,T_,T_,T_,F_,T_,F_,F_,F_,F_,F_,F_,F_] ?_
         refine pu 9 29 #[T_,T_,T_,T_,F_,T_,F_,F_,F_,T_,F_,F_,F_] ?_
         refine tk 4 24 #[T_,T_,T_,T_,T_,T_,F_,F_,F_,T_,F_,F_,F_] hHeld ?_
         refine pu 6 26 #[T_,T_,T_,T_,T_,T_,T_,F_,F_,T_,F_,F_,F_] ?_
         refine pu 7 27 #[T_,T_,T_,T_,T_,T_,T_,T_,F_,T_,F_,F_,F_] ?_
         refine tk 8 28 (tf 10 3) hHeld ?_
         refine tk 10 30 (tf 11 2) hHeld ?_
         refine pu 11 31 (tf 12 1) ?_
         refine pu 12 32 (tf 13 0) ?_
         refine done_ (done_of HT_.out (by kernel_rfl)) ?_
         have hnb45 := NB155_144.out
         have hnc45 := NB144_155.out
         have hnb46 := NB155_145.out
         have hnc46 := NB145_155.out
         obtain ⟨hcz47_0, hcz47_1, hcz47_2, hfz47_0, hfz47_1, hfz47_2⟩ := bz3 BK155
         have hnb48 := NB144_145.out
         have hnc48 := NB145_144.out
         obtain ⟨hcz49_0, hcz49_1, hfz49_0, hfz49_1⟩ := bz2 BK144
         try go_wp2_with (first | ((with_reducible refine gate_builtin (b := .append) (xs := #[.tmp 34, .tmp 36]) rfl ?_); at_builtin; refine Kd.R_append k35 (w0 := w) w.heap.size rfl (.tmp 34) (.tmp 36) 29 35 (.agg #[(.int .i64 0), (.int .i64 0)]) 16 rfl Try.underlying29 info35 rfl (by decide) (by omega) u156002 x156002_1 (⟨a1_0, a1_1⟩ : S35) [.int .i64 a1_0, .int .i64 a1_1] (fun k_ => k_ ≠ gb144) (fun _ => False) rfl rfl ?aP (fun _ hk => hk.elim) ?aF ?aO ?aB ?aS ?aL ?_; (case aP => exact k35_mkM _ _ _ (⟨a1_0, a1_1⟩ : S35)); (case aB => exact bl); (case aF => exact (fun k_ hk => Kd.freshB (g := gb144) (o := .cells #[.int .i64 a1_0, .int .i64 a1_1] 35 (0, 0)) (ub BK144.out) k_ hk)); (case aO => exact (up HO_156002.out)); (case aS => exact (below_size bl)); (case aL => have := LMc38.out; omega); intro v165 w50 ho hb hg hat; rw [← Ny164.out] at ho; replace HO_156000 := mk (Kd.R_over' (up HO_156000.out) (Kd.R_typed (up HO_156002.out)) (by decide) hg); replace HO_156001 := mk (Kd.R_over' (up HO_156001.out) (Kd.R_typed (up HO_156002.out)) (by decide) hg); replace BK143 := mk (blk_grown (g := gb143) (o := .cells #[.slice A0_0 l0_0.length c0_0, .slice A0_1 l0_1.length c0_1, .slice (some ad163) l0_2.length c0_2] 31 (0, 0)) (ub BK143.out) hg (Kd.R_ne HO_156002.out BK143.out (by decide))); replace BK144 := mk (blk_grown (g := gb144) (o := .cells #[.int .i64 a1_0, .int .i64 a1_1] 35 (0, 0)) (ub BK144.out) hg (Kd.R_away HO_156002.out (fun _ hk => hk))); replace BK145 := mk (blk_grown (g := gb145) (o := .cells #[.slice none 0 0, .slice none 0 0, .slice none 0 0] 31 (0, 0)) (ub BK145.out) hg (Kd.R_ne HO_156002.out BK145.out (by decide))); replace BK155 := mk (blk_grown (g := gb155) (o := .cells #[.slice Ao12 t146.length co12, .slice Ao17 t149.length co17, u156002] 31 (0, 0)) (ub BK155.out) hg (Kd.R_ne HO_156002.out BK155.out (by decide))); replace HB := mk hb; have HO166 := mk ho; clear HO_156002; clear ho hb hg hat; obtain ⟨Ao51, co51, eo51⟩ := Kd.R_slice HO166.out; subst eo51; obtain ⟨hcz52_0, hcz52_1, hcz52_2, hfz52_0, hfz52_1, hfz52_2⟩ := bz3 BK155))
         have n0_ : Aside0 (Kd.R (Kd.int .i64) 3 (w50.setCell ⟨gb155, 2, none⟩ (.slice Ao51 y164.length co51)) w.heap.size (fun k_ => some k_ ≠ (.slice Ao17 t149.length co17 : Value).ownBlock) (.slice Ao12 t146.length co12) t146) := ⟨(by exact rm (rs1 HO_156000 BK155))⟩
         have n1_ : Aside0 (Kd.R (Kd.int .i64) 3 (w50.setCell ⟨gb155, 2, none⟩ (.slice Ao51 y164.length co51)) w.heap.size (fun k_ => some k_ ≠ (.slice Ao12 t146.length co12 : Value).ownBlock) (.slice Ao17 t149.length co17) t149) := ⟨(by exact rm (rs1 HO_156001 BK155))⟩
         have n2_ : Aside0 (Kd.R k35 35 (w50.setCell ⟨gb155, 2, none⟩ (.slice Ao51 y164.length co51)) w.heap.size (fun k_ => k_ ≠ gb144) (.slice Ao51 y164.length co51) y164) := ⟨(by exact rm (rs1 HO166 BK155))⟩
         have n3_ : Aside0 ((w50.setCell ⟨gb155, 2, none⟩ (.slice Ao51 y164.length co51)).heap[gb143]? = some (.cells #[.slice A0_0 l0_0.length c0_0, .slice A0_1 l0_1.length c0_1, .slice (some ad163) l0_2.length c0_2] 31 (0, 0))) := ⟨bq⟩
         have n4_ : Aside0 ((w50.setCell ⟨gb155, 2, none⟩ (.slice Ao51 y164.length co51)).heap[gb144]? = some (.cells #[.int .i64 a1_0, .int .i64 a1_1] 35 (0, 0))) := ⟨bq⟩
         have n5_ : Aside0 ((w50.setCell ⟨gb155, 2, none⟩ (.slice Ao51 y164.length co51)).heap[gb145]? = some (.cells #[.slice none 0 0, .slice none 0 0, .slice none 0 0] 31 (0, 0))) := ⟨bq⟩
         have n6_ : Aside0 ((w50.setCell ⟨gb155, 2, none⟩ (.slice Ao51 y164.length co51)).heap[gb155]? = some (.cells #[.slice Ao12 t146.length co12, .slice Ao17 t149.length co17, .slice Ao51 y164.length co51] 31 (0, 0))) := ⟨bq⟩
         have n7_ : Aside0 (Below w.heap.size w (w50.setCell ⟨gb155, 2, none⟩ (.slice Ao51 y164.length co51))) := ⟨bl⟩
         (try clear HO_156000)
         (try clear HO_156001)
         (try clear HO166)
         (try clear BK143)
         (try clear BK144)
         (try clear BK145)
         (try clear BK155)
         (try clear HB)
         generalize (w50.setCell ⟨gb155, 2, none⟩ (.slice Ao51 y164.length co51)) = w53 at n0_ n1_ n2_ n3_ n4_ n5_ n6_ n7_ ⊢
         have HO_156000 := n0_
         have HO_156001 := n1_
         have HO166 := n2_
         have BK143 := n3_
         have BK144 := n4_
         have BK145 := n5_
         have BK155 := n6_
         have HB := n7_
         clear n0_ n1_ n2_ n3_ n4_ n5_ n6_ n7_
         replace HO_156000 := mk (Kd.R_drew HO_156000.out)
         replace HO_156001 := mk (Kd.R_drew HO_156001.out)
         replace HO166 := mk (Kd.R_drew HO166.out)
         replace BK143 := wd BK143
         replace BK144 := wd BK144
         replace BK145 := wd BK145
         replace BK155 := wd BK155
         replace HB := mk (below_drew1 HB.out)
         have p167 : 0 ≤ (x8_1 : Int) := dt
         have q167 : x8_1 < (l0_2.length : Int) := dt
         obtain ⟨ad167, e167, hx167_0, hx167_1⟩ := at_T35 HR0_2.out x8_1 p167 q167
         have hw167_1 := hx167_1
         have hw167_0 := hx167_0
         obtain rfl : ad163 = ad167 := (by injection e167)
         replace hx167_0 := (HB.out.cell (World.block_lt_of_cell? w _ hx167_0)).trans hx167_0
         replace hx167_1 := (HB.out.cell (World.block_lt_of_cell? w _ hx167_1)).trans hx167_1
         replace p167 := eq_true p167
         replace q167 := eq_true q167
         refine start_ (n := 11) (S := fun w' => w'.cell? ⟨gb155, 0, none⟩ = some (.slice Ao12 t146.length co12) ∧ w'.cell? ⟨gb155, 1, none⟩ = some (.slice Ao17 t149.length co17) ∧ w'.cell? ⟨gb155, 2, none⟩ = some (.slice Ao51 y164.length co51) ∧ w'.cell? ⟨gb143, 0, none⟩ = some (.slice A0_0 l0_0.length c0_0) ∧ w'.cell? ⟨gb143, 1, none⟩ = some (.slice A0_1 l0_1.length c0_1) ∧ w'.cell? ⟨gb143, 2, none⟩ = some (.slice (some ad163) l0_2.length c0_2) ∧ w'.cell? (ad163.add ((x8_1).toNat * 2)) = some (.int .i64 ((rd_T35 l0_2 x8_1).f0)) ∧ w'.cell? ⟨(ad163.add ((x8_1).toNat * 2)).block, (ad163.add ((x8_1).toNat * 2)).off + 1, none⟩ = some (.int .i64 ((rd_T35 l0_2 x8_1).f1))) (ds := [10]) #[F_, F_, F_, F_, F_, F_, F_, F_, F_, F_, F_] (by kernel_rfl) rfl rfl ⟨bc BK155 0, bc BK155 1, bc BK155 2, bc BK143 0, bc BK143 1, bc BK143 2, ((HB.out.cell (World.block_lt_of_cell? w _ hw167_0)).trans hw167_0), ((HB.out.cell (World.block_lt_of_cell? w _ hw167_1)).trans hw167_1)⟩ (fun hHeld => ?_); refine with_tabW spec_AddPivot.tab10 spec_AddPivot.bits10 (fun HT_ HW_ => ?_)
         generalize w53.drew = w54 at HO_156000 HO_156001 HO166 BK143 BK144 BK145 BK155 HB hx167_0 hx167_1 hHeld ⊢
         refine pu 0 39 (tf 1 10) ?_
         refine pu 2 41 #[T_,F_,T_,F_,F_,F_,F_,F_,F_,F_,F_] ?_
         refine pu 4 43 #[T_,F_,T_,F_,T_,F_,F_,F_,F_,F_,F_] ?_
         refine tk 1 40 #[T_,T_,T_,F_,T_,F_,F_,F_,F_,F_,F_] hHeld ?_
         refine tk 3 42 (tf 5 6) hHeld ?_
         refine pu 5 44 (tf 6 5) ?_
         refine tk 6 45 (tf 7 4) hHeld ?_
         refine on 7 46 (tf 8 3) (fun K hK => ?_)
         refine value_ (w1 := ?_) (v := ?_) (by rfl) rfl ?_ ?_
         rotate_left 2
         ·go_simp
          constructor
          ·rfl
          ·rfl
         refine hK.out _ _ ⟨(blk_cell (blk_alloc BK155.out _) 0).trans rfl, (blk_cell (blk_alloc BK155.out _) 1).trans rfl, (blk_cell (blk_alloc BK155.out _) 2).trans rfl, (blk_cell (blk_alloc BK143.out _) 0).trans rfl, (blk_cell (blk_alloc BK143.out _) 1).trans rfl, (blk_cell (blk_alloc BK143.out _) 2).trans rfl, (World.cell?_alloc_lt _ _ _ (World.block_lt_of_cell? _ _ (((HB.out.cell (World.block_lt_of_cell? w _ hw167_0)).trans hw167_0)))).trans (((HB.out.cell (World.block_lt_of_cell? w _ hw167_0)).trans hw167_0)), (World.cell?_alloc_lt _ _ _ (World.block_lt_of_cell? _ _ (((HB.out.cell (World.block_lt_of_cell? w _ hw167_1)).trans hw167_1)))).trans (((HB.out.cell (World.block_lt_of_cell? w _ hw167_1)).trans hw167_1))⟩ (fun hHeld => ?_)
         clear hK K
         refine nm 46 ?_
         refine on 8 47 (tf 9 2) (fun K hK => ?_)
         refine Kd.R_append_step k35 (w0 := w) w.heap.size (by rfl) (.tmp 40) (.tmp 46) 29 35 (.agg #[(.int .i64 0), (.int .i64 0)]) 16 rfl Try.underlying29 info35 rfl (by decide) (by omega) (.slice Ao51 y164.length co51) y164 (⟨(rd_T35 l0_2 x8_1).f0, (rd_T35 l0_2 x8_1).f1⟩ : S35) [.int .i64 ((rd_T35 l0_2 x8_1).f0), .int .i64 ((rd_T35 l0_2 x8_1).f1)] (fun k_ => k_ ≠ gb144) (fun _ => False) rfl rfl ?aP (fun _ hk => hk.elim) ?aF ?aO ?aB ?aS ?aL ?_
         (case aP => exact k35_mkM _ _ _ (⟨(rd_T35 l0_2 x8_1).f0, (rd_T35 l0_2 x8_1).f1⟩ : S35))
         (case aB => exact bl)
         (case aF => exact (fun k_ hk => Kd.freshB (g := gb144) (o := .cells #[.int .i64 a1_0, .int .i64 a1_1] 35 (0, 0)) (ub BK144.out) k_ hk))
         (case aO => exact (up HO166.out))
         (case aS => exact (below_size bl))
         (case aL => have := LMc39.out; omega)
         intro v169 w55 ho hb hg hat
         rw [← Ny168.out] at ho
         replace HO_156000 := mk (Kd.R_over' (up HO_156000.out) (Kd.R_typed (up HO166.out)) (by decide) hg)
         replace HO_156001 := mk (Kd.R_over' (up HO_156001.out) (Kd.R_typed (up HO166.out)) (by decide) hg)
         replace BK143 := mk (blk_grown (g := gb143) (o := .cells #[.slice A0_0 l0_0.length c0_0, .slice A0_1 l0_1.length c0_1, .slice (some ad163) l0_2.length c0_2] 31 (0, 0)) (ub BK143.out) hg (Kd.R_ne HO166.out BK143.out (by decide)))
         replace BK144 := mk (blk_grown (g := gb144) (o := .cells #[.int .i64 a1_0, .int .i64 a1_1] 35 (0, 0)) (ub BK144.out) hg (Kd.R_away HO166.out (fun _ hk => hk)))
         replace BK145 := mk (blk_grown (g := gb145) (o := .cells #[.slice none 0 0, .slice none 0 0, .slice none 0 0] 31 (0, 0)) (ub BK145.out) hg (Kd.R_ne HO166.out BK145.out (by decide)))
         replace BK155 := mk (blk_grown (g := gb155) (o := .cells #[.slice Ao12 t146.length co12, .slice Ao17 t149.length co17, .slice Ao51 y164.length co51] 31 (0, 0)) (ub BK155.out) hg (Kd.R_ne HO166.out BK155.out (by decide)))
         replace HB := mk hb
         have HO170 := mk ho
         clear HO166
         clear ho hb hg hat
         obtain ⟨Ao56, co56, eo56⟩ := Kd.R_slice HO170.out
         (first | subst eo56 | (injection eo56 with f1_ f2_ f3_; have f4_ := f1_.symm; have f5_ := f3_.symm; clear f1_ f2_ f3_; subst f4_; subst f5_))
         refine hK.out _ _ ⟨bc BK155 0, bc BK155 1, bc BK155 2, bc BK143 0, bc BK143 1, bc BK143 2, ((HB.out.cell (World.block_lt_of_cell? w _ hw167_0)).trans hw167_0), ((HB.out.cell (World.block_lt_of_cell? w _ hw167_1)).trans hw167_1)⟩ (fun hHeld => ?_)
         clear hK K
         refine nm 47 ?_
         refine pu 9 48 (tf 10 1) ?_
         refine last_ (i := 10) (N := none) #[T_, T_, T_, T_, T_, T_, T_, T_, T_, T_, T_] rfl rfl (one_of HT_.out (by kernel_rfl)) (by decide) (fun K hK => ?_)
         have hs57 : w55.cell? ⟨gb155, 2, none⟩ = some (.slice Ao51 y164.length co51) := (blk_cell BK155.out 2).trans rfl
         have hfs57 := blk_frozen BK155.out 2
         have hns57_0 := NB143_155.out
         have hns57_1 := NB144_155.out
         have hns57_2 := NB145_155.out
         have hms57_0 := NB155_143.out
         have hms57_1 := NB155_144.out
         have hms57_2 := NB155_145.out
         refine skip_ (w1 := ?_) (by rfl) rfl ?_ ?_
         rotate_left
         ·go_simp
          rfl
         refine hK.out _ _ ?_
         clear hK K
         refine done_ (done_of HT_.out (by kernel_rfl)) ?_
         try go_wp2
         go_roundg k1
         case measure => have := HK1.out; omega
         case rel => exact ⟨(true), (wrap64 (x8_1 + 1)), (y168), (.slice Ao56 y168.length co56), (by first | rfl | (simp; done) | (simp [*]; done)), (by first | rfl | (simp; done) | (simp [*]; done)), H', ⟨by have := HK1.out; omega⟩, ⟨(by exact rm (rs1 HO_156000 BK155))⟩, ⟨(by exact rm (rs1 HO_156001 BK155))⟩, ⟨(by exact rm (rs1 HO170 BK155))⟩, ⟨bq⟩, ⟨bq⟩, ⟨bq⟩, ⟨bq⟩, ⟨bl⟩⟩
        ·rw [if_neg c39] at H
         exact absurd H (by simp)
       ·rw [if_neg c38] at H
        exact absurd H (by simp)
      ·rw [if_neg c37] at H
       have c37b0 : decide (a1_0 < ((rd_T35 l0_2 x8_1).f0)) = false := decide_eq_false c37
       clear c37
       by_cases c58 : x156002_1.length < 8796093022208
       ·rw [if_pos c58] at H
        have LMc58 := Aside0.mk c58
        clear c58
        obtain ⟨y172, hy172⟩ : ∃ y_ : List (S35), y_ = (x156002_1 ++ [(⟨(rd_T35 l0_2 x8_1).f0, (rd_T35 l0_2 x8_1).f1⟩ : S35)]) := ⟨_, rfl⟩
        replace H : (spec_AddPivot.l0 k1 false (wrap64 (x8_1 + 1)) l0_0 l0_1 l0_2 a1_0 a1_1 t146 t149 y172) = some (r1, r2, r3, r4) := by first | (rw [hy172]; with_reducible exact H) | (have H2_ := (Option.bind_some _ _).symm.trans H; rw [hy172]; with_reducible exact H2_) | (have H2_ := (Option.bind_some _ _).symm.trans H; with_reducible exact H2_) | with_reducible exact H | (rw [hy172]; exact H) | exact H
        have Ny172 := Aside0.mk hy172
        clear hy172
        have H' := Aside0.mk H
        clear H
        have hnb59 := NB143_144.out
        have hnc59 := NB144_143.out
        have hnb60 := NB143_145.out
        have hnc60 := NB145_143.out
        have hnb61 := NB143_155.out
        have hnc61 := NB155_143.out
        obtain ⟨hcz62_0, hcz62_1, hcz62_2, hfz62_0, hfz62_1, hfz62_2⟩ := bz3 BK143
        try go_wp2
        replace HO_156000 := mk (Kd.R_drew HO_156000.out)
        replace HO_156001 := mk (Kd.R_drew HO_156001.out)
        replace HO_156002 := mk (Kd.R_drew HO_156002.out)
        replace BK143 := wd BK143
        replace BK144 := wd BK144
        replace BK145 := wd BK145
        replace BK155 := wd BK155
        replace HB := mk (below_drew1 HB.out)
        have p163 : 0 ≤ (x8_1 : Int) := dt
        have q163 : x8_1 < (l0_2.length : Int) := dt
        obtain ⟨ad163, e163, hx163_0, hx163_1⟩ := at_T35 HR0_2.out x8_1 p163 q163
        have hw163_1 := hx163_1
        have hw163_0 := hx163_0
        cases e163
        replace hx163_0 := (HB.out.cell (World.block_lt_of_cell? w _ hx163_0)).trans hx163_0
        replace hx163_1 := (HB.out.cell (World.block_lt_of_cell? w _ hx163_1)).trans hx163_1
        replace p163 := eq_true p163
        replace q163 := eq_true q163
        refine start_ (n := 13) (S := fun w' => w'.cell? ⟨gb143, 0, none⟩ = some (.slice A0_0 l0_0.length c0_0) ∧ w'.cell? ⟨gb143, 1, none⟩ = some (.slice A0_1 l0_1.length c0_1) ∧ w'.cell? ⟨gb143, 2, none⟩ = some (.slice (some ad163) l0_2.length c0_2) ∧ w'.cell? ⟨gb144, 0, none⟩ = some (.int .i64 a1_0) ∧ w'.cell? ⟨gb144, 1, none⟩ = some (.int .i64 a1_1) ∧ w'.cell? (ad163.add ((x8_1).toNat * 2)) = some (.int .i64 ((rd_T35 l0_2 x8_1).f0)) ∧ w'.cell? ⟨(ad163.add ((x8_1).toNat * 2)).block, (ad163.add ((x8_1).toNat * 2)).off + 1, none⟩ = some (.int .i64 ((rd_T35 l0_2 x8_1).f1))) (ds := []) #[F_, F_, F_, F_, F_, F_, F_, F_, F_, F_, F_, F_, F_] (by kernel_rfl) rfl rfl ⟨bc BK143 0, bc BK143 1, bc BK143 2, bc BK144 0, bc BK144 1, ((HB.out.cell (World.block_lt_of_cell? w _ hw163_0)).trans hw163_0), ((HB.out.cell (World.block_lt_of_cell? w _ hw163_1)).trans hw163_1)⟩ (fun hHeld => ?_); refine with_tabW spec_AddPivot.tab7 spec_AddPivot.bits7 (fun HT_ HW_ => ?_)
        generalize wr.drew = w63 at HO_156000 HO_156001 HO_156002 BK143 BK144 BK145 BK155 HB hx163_0 hx163_1 hHeld ⊢
        refine pu 0 20 (tf 1 12) ?_
        refine pu 1 21 (tf 2 11) ?_
        refine pu 2 22 (tf 3 10) ?_
        refine pu 3 23 (tf 4 9) ?_
        refine pu 5 25 #[T_,T_,T_,T_,F_,T_,F_,F_,F_,F_,F_,F_,F_] ?_
        refine pu 9 29 #[T_,T_,T_,T_,F_,T_,F_,F_,F_,T_,F_,F_,F_] ?_
        refine tk 4 24 #[T_,T_,T_,T_,T_,T_,F_,F_,F_,T_,F_,F_,F_] hHeld ?_
        refine pu 6 26 #[T_,T_,T_,T_,T_,T_,T_,F_,F_,T_,F_,F_,F_] ?_
        refine pu 7 27 #[T_,T_,T_,T_,T_,T_,T_,T_,F_,T_,F_,F_,F_] ?_
        refine tk 8 28 (tf 10 3) hHeld ?_
        refine tk 10 30 (tf 11 2) hHeld ?_
        refine pu 11 31 (tf 12 1) ?_
        refine pu 12 32 (tf 13 0) ?_
        refine done_ (done_of HT_.out (by kernel_rfl)) ?_
        try go_wp2
        replace HO_156000 := mk (Kd.R_drew HO_156000.out)
        replace HO_156001 := mk (Kd.R_drew HO_156001.out)
        replace HO_156002 := mk (Kd.R_drew HO_156002.out)
        replace BK143 := wd BK143
        replace BK144 := wd BK144
        replace BK145 := wd BK145
        replace BK155 := wd BK155
        replace HB := mk (below_drew1 HB.out)
        have p171 : 0 ≤ (x8_1 : Int) := dt
        have q171 : x8_1 < (l0_2.length : Int) := dt
        obtain ⟨ad171, e171, hx171_0, hx171_1⟩ := at_T35 HR0_2.out x8_1 p171 q171
        have hw171_1 := hx171_1
        have hw171_0 := hx171_0
        obtain rfl : ad163 = ad171 := (by injection e171)
        replace hx171_0 := (HB.out.cell (World.block_lt_of_cell? w _ hx171_0)).trans hx171_0
        replace hx171_1 := (HB.out.cell (World.block_lt_of_cell? w _ hx171_1)).trans hx171_1
        replace p171 := eq_true p171
        replace q171 := eq_true q171
        refine start_ (n := 11) (S := fun w' => w'.cell? ⟨gb155, 0, none⟩ = some (.slice Ao12 t146.length co12) ∧ w'.cell? ⟨gb155, 1, none⟩ = some (.slice Ao17 t149.length co17) ∧ w'.cell? ⟨gb155, 2, none⟩ = some (u156002) ∧ w'.cell? ⟨gb143, 0, none⟩ = some (.slice A0_0 l0_0.length c0_0) ∧ w'.cell? ⟨gb143, 1, none⟩ = some (.slice A0_1 l0_1.length c0_1) ∧ w'.cell? ⟨gb143, 2, none⟩ = some (.slice (some ad163) l0_2.length c0_2) ∧ w'.cell? (ad163.add ((x8_1).toNat * 2)) = some (.int .i64 ((rd_T35 l0_2 x8_1).f0)) ∧ w'.cell? ⟨(ad163.add ((x8_1).toNat * 2)).block, (ad163.add ((x8_1).toNat * 2)).off + 1, none⟩ = some (.int .i64 ((rd_T35 l0_2 x8_1).f1))) (ds := [10]) #[F_, F_, F_, F_, F_, F_, F_, F_, F_, F_, F_] (by kernel_rfl) rfl rfl ⟨bc BK155 0, bc BK155 1, bc BK155 2, bc BK143 0, bc BK143 1, bc BK143 2, ((HB.out.cell (World.block_lt_of_cell? w _ hw171_0)).trans hw171_0), ((HB.out.cell (World.block_lt_of_cell? w _ hw171_1)).trans hw171_1)⟩ (fun hHeld => ?_); refine with_tabW spec_AddPivot.tab10 spec_AddPivot.bits10 (fun HT_ HW_ => ?_)
        generalize w63.drew = w64 at HO_156000 HO_156001 HO_156002 BK143 BK144 BK145 BK155 HB hx171_0 hx171_1 hHeld ⊢
        refine pu 0 39 (tf 1 10) ?_
        refine pu 2 41 #[T_,F_,T_,F_,F_,F_,F_,F_,F_,F_,F_] ?_
        refine pu 4 43 #[T_,F_,T_,F_,T_,F_,F_,F_,F_,F_,F_] ?_
        refine tk 1 40 #[T_,T_,T_,F_,T_,F_,F_,F_,F_,F_,F_] hHeld ?_
        refine tk 3 42 (tf 5 6) hHeld ?_
        refine pu 5 44 (tf 6 5) ?_
        refine tk 6 45 (tf 7 4) hHeld ?_
        refine on 7 46 (tf 8 3) (fun K hK => ?_)
        refine value_ (w1 := ?_) (v := ?_) (by rfl) rfl ?_ ?_
        rotate_left 2
        ·go_simp
         constructor
         ·rfl
         ·rfl
        refine hK.out _ _ ⟨(blk_cell (blk_alloc BK155.out _) 0).trans rfl, (blk_cell (blk_alloc BK155.out _) 1).trans rfl, (blk_cell (blk_alloc BK155.out _) 2).trans rfl, (blk_cell (blk_alloc BK143.out _) 0).trans rfl, (blk_cell (blk_alloc BK143.out _) 1).trans rfl, (blk_cell (blk_alloc BK143.out _) 2).trans rfl, (World.cell?_alloc_lt _ _ _ (World.block_lt_of_cell? _ _ (((HB.out.cell (World.block_lt_of_cell? w _ hw171_0)).trans hw171_0)))).trans (((HB.out.cell (World.block_lt_of_cell? w _ hw171_0)).trans hw171_0)), (World.cell?_alloc_lt _ _ _ (World.block_lt_of_cell? _ _ (((HB.out.cell (World.block_lt_of_cell? w _ hw171_1)).trans hw171_1)))).trans (((HB.out.cell (World.block_lt_of_cell? w _ hw171_1)).trans hw171_1))⟩ (fun hHeld => ?_)
        clear hK K
        refine nm 46 ?_
        refine on 8 47 (tf 9 2) (fun K hK => ?_)
        refine Kd.R_append_step k35 (w0 := w) w.heap.size (by rfl) (.tmp 40) (.tmp 46) 29 35 (.agg #[(.int .i64 0), (.int .i64 0)]) 16 rfl Try.underlying29 info35 rfl (by decide) (by omega) u156002 x156002_1 (⟨(rd_T35 l0_2 x8_1).f0, (rd_T35 l0_2 x8_1).f1⟩ : S35) [.int .i64 ((rd_T35 l0_2 x8_1).f0), .int .i64 ((rd_T35 l0_2 x8_1).f1)] (fun k_ => k_ ≠ gb144) (fun _ => False) rfl rfl ?aP (fun _ hk => hk.elim) ?aF ?aO ?aB ?aS ?aL ?_
        (case aP => exact k35_mkM _ _ _ (⟨(rd_T35 l0_2 x8_1).f0, (rd_T35 l0_2 x8_1).f1⟩ : S35))
        (case aB => exact bl)
        (case aF => exact (fun k_ hk => Kd.freshB (g := gb144) (o := .cells #[.int .i64 a1_0, .int .i64 a1_1] 35 (0, 0)) (ub BK144.out) k_ hk))
        (case aO => exact (up HO_156002.out))
        (case aS => exact (below_size bl))
        (case aL => have := LMc58.out; omega)
        intro v173 w65 ho hb hg hat
        rw [← Ny172.out] at ho
        replace HO_156000 := mk (Kd.R_over' (up HO_156000.out) (Kd.R_typed (up HO_156002.out)) (by decide) hg)
        replace HO_156001 := mk (Kd.R_over' (up HO_156001.out) (Kd.R_typed (up HO_156002.out)) (by decide) hg)
        replace BK143 := mk (blk_grown (g := gb143) (o := .cells #[.slice A0_0 l0_0.length c0_0, .slice A0_1 l0_1.length c0_1, .slice (some ad163) l0_2.length c0_2] 31 (0, 0)) (ub BK143.out) hg (Kd.R_ne HO_156002.out BK143.out (by decide)))
        replace BK144 := mk (blk_grown (g := gb144) (o := .cells #[.int .i64 a1_0, .int .i64 a1_1] 35 (0, 0)) (ub BK144.out) hg (Kd.R_away HO_156002.out (fun _ hk => hk)))
        replace BK145 := mk (blk_grown (g := gb145) (o := .cells #[.slice none 0 0, .slice none 0 0, .slice none 0 0] 31 (0, 0)) (ub BK145.out) hg (Kd.R_ne HO_156002.out BK145.out (by decide)))
        replace BK155 := mk (blk_grown (g := gb155) (o := .cells #[.slice Ao12 t146.length co12, .slice Ao17 t149.length co17, u156002] 31 (0, 0)) (ub BK155.out) hg (Kd.R_ne HO_156002.out BK155.out (by decide)))
        replace HB := mk hb
        have HO174 := mk ho
        clear HO_156002
        clear ho hb hg hat
        obtain ⟨Ao66, co66, eo66⟩ := Kd.R_slice HO174.out
        (first | subst eo66 | (injection eo66 with f1_ f2_ f3_; have f4_ := f1_.symm; have f5_ := f3_.symm; clear f1_ f2_ f3_; subst f4_; subst f5_))
        refine hK.out _ _ ⟨bc BK155 0, bc BK155 1, bc BK155 2, bc BK143 0, bc BK143 1, bc BK143 2, ((HB.out.cell (World.block_lt_of_cell? w _ hw171_0)).trans hw171_0), ((HB.out.cell (World.block_lt_of_cell? w _ hw171_1)).trans hw171_1)⟩ (fun hHeld => ?_)
        clear hK K
        refine nm 47 ?_
        refine pu 9 48 (tf 10 1) ?_
        refine last_ (i := 10) (N := none) #[T_, T_, T_, T_, T_, T_, T_, T_, T_, T_, T_] rfl rfl (one_of HT_.out (by kernel_rfl)) (by decide) (fun K hK => ?_)
        have hs67 : w65.cell? ⟨gb155, 2, none⟩ = some (u156002) := (blk_cell BK155.out 2).trans rfl
        have hfs67 := blk_frozen BK155.out 2
        have hns67_0 := NB143_155.out
        have hns67_1 := NB144_155.out
        have hns67_2 := NB145_155.out
        have hms67_0 := NB155_143.out
        have hms67_1 := NB155_144.out
        have hms67_2 := NB155_145.out
        refine skip_ (w1 := ?_) (by rfl) rfl ?_ ?_
        rotate_left
        ·go_simp
         rfl
        refine hK.out _ _ ?_
        clear hK K
        refine done_ (done_of HT_.out (by kernel_rfl)) ?_
        try go_wp2
        go_roundg k1
        case measure => have := HK1.out; omega
        case rel => exact ⟨(false), (wrap64 (x8_1 + 1)), (y172), (.slice Ao66 y172.length co66), (by first | rfl | (simp; done) | (simp [*]; done)), (by first | rfl | (simp; done) | (simp [*]; done)), H', ⟨by have := HK1.out; omega⟩, ⟨(by exact rm (rs1 HO_156000 BK155))⟩, ⟨(by exact rm (rs1 HO_156001 BK155))⟩, ⟨(by exact rm (rs1 HO174 BK155))⟩, ⟨bq⟩, ⟨bq⟩, ⟨bq⟩, ⟨bq⟩, ⟨bl⟩⟩
       ·rw [if_neg c58] at H
        exact absurd H (by simp)
     ·rw [if_neg c36] at H
      exact absurd H (by simp)
   ·rw [if_neg c23] at H
    have c23b0 : decide (x8_1 < (l0_2.length : Int)) = false := decide_eq_false c23
    clear c23
    have HC68 := Aside0.mk H
    clear H
    have hnb69 := NB143_144.out
    have hnc69 := NB144_143.out
    have hnb70 := NB143_145.out
    have hnc70 := NB145_143.out
    have hnb71 := NB143_155.out
    have hnc71 := NB155_143.out
    obtain ⟨hcz72_0, hcz72_1, hcz72_2, hfz72_0, hfz72_1, hfz72_2⟩ := bz3 BK143
    go_upto_if 50 with (fail)
    go_cut [] (fun wc => ∃ (kq : Nat) (x156002_67 : List (S35)) (u156002 : Value), Aside0 (spec_AddPivot.j1 kq l0_0 l0_1 l0_2 t146 t149 x156002_67 = some (r1, r2, r3, r4)) ∧ Aside0 (kq ≤ k1) ∧ Aside0 (Kd.R (Kd.int .i64) 3 wc w.heap.size (fun k_ => some k_ ≠ ((.slice Ao17 t149.length co17) : Value).ownBlock) (.slice Ao12 t146.length co12) t146) ∧ Aside0 (Kd.R (Kd.int .i64) 3 wc w.heap.size (fun k_ => some k_ ≠ ((.slice Ao12 t146.length co12) : Value).ownBlock) (.slice Ao17 t149.length co17) t149) ∧ Aside0 (Kd.R k35 35 wc w.heap.size (fun k_ => k_ ≠ gb144) u156002 x156002_67) ∧ Aside0 (wc.heap[gb143]? = some (.cells #[(.slice A0_0 l0_0.length c0_0), (.slice A0_1 l0_1.length c0_1), (.slice A0_2 l0_2.length c0_2)] 31 (0, 0))) ∧ Aside0 (wc.heap[gb144]? = some (.cells #[.int .i64 a1_0, .int .i64 a1_1] 35 (0, 0))) ∧ Aside0 (wc.heap[gb145]? = some (.cells #[(.slice none 0 0), (.slice none 0 0), (.slice none 0 0)] 31 (0, 0))) ∧ Aside0 (wc.heap[gb155]? = some (.cells #[(.slice Ao12 t146.length co12), (.slice Ao17 t149.length co17), u156002] 31 (0, 0))) ∧ Aside0 (Below w.heap.size w wc))
    case first =>
     have H := HC68.out
     clear HC68
     by_cases c73 : x7_1 = true
     ·subst c73
      rw [if_pos rfl] at H
      have H' := Aside0.mk H
      clear H
      go_wp2
      go_meet
      case rel => exact ⟨_, (x156002_1), (u156002), H', ⟨by have := HK1.out; first | omega | exact Nat.le_refl _⟩, ⟨up HO_156000.out⟩, ⟨up HO_156001.out⟩, ⟨up HO_156002.out⟩, ⟨ub BK143.out⟩, ⟨ub BK144.out⟩, ⟨ub BK145.out⟩, ⟨ub BK155.out⟩, ⟨bl⟩⟩
     ·replace c73 := Bool.eq_false_iff.mpr c73
      subst c73
      rw [if_neg nf] at H
      by_cases c74 : x156002_1.length < 8796093022208
      ·rw [if_pos c74] at H
       have LMc74 := Aside0.mk c74
       clear c74
       obtain ⟨y175, hy175⟩ : ∃ y_ : List (S35), y_ = (x156002_1 ++ [(⟨a1_0, a1_1⟩ : S35)]) := ⟨_, rfl⟩
       replace H : (spec_AddPivot.j1 k1 l0_0 l0_1 l0_2 t146 t149 y175) = some (r1, r2, r3, r4) := by first | (rw [hy175]; with_reducible exact H) | (have H2_ := (Option.bind_some _ _).symm.trans H; rw [hy175]; with_reducible exact H2_) | (have H2_ := (Option.bind_some _ _).symm.trans H; with_reducible exact H2_) | with_reducible exact H | (rw [hy175]; exact H) | exact H
       have Ny175 := Aside0.mk hy175
       clear hy175
       have H' := Aside0.mk H
       clear H
       have hnb75 := NB155_143.out
       have hnc75 := NB143_155.out
       have hnb76 := NB155_144.out
       have hnc76 := NB144_155.out
       have hnb77 := NB155_145.out
       have hnc77 := NB145_155.out
       obtain ⟨hcz78_0, hcz78_1, hcz78_2, hfz78_0, hfz78_1, hfz78_2⟩ := bz3 BK155
       have hnb79 := NB144_143.out
       have hnc79 := NB143_144.out
       have hnb80 := NB144_145.out
       have hnc80 := NB145_144.out
       obtain ⟨hcz81_0, hcz81_1, hfz81_0, hfz81_1⟩ := bz2 BK144
       go_wp2_with (first | ((with_reducible refine gate_builtin (b := .append) (xs := #[.tmp 52, .tmp 54]) rfl ?_); at_builtin; refine Kd.R_append k35 (w0 := w) w.heap.size rfl (.tmp 52) (.tmp 54) 29 35 (.agg #[(.int .i64 0), (.int .i64 0)]) 16 rfl Try.underlying29 info35 rfl (by decide) (by omega) u156002 x156002_1 (⟨a1_0, a1_1⟩ : S35) [.int .i64 a1_0, .int .i64 a1_1] (fun k_ => k_ ≠ gb144) (fun _ => False) rfl rfl ?aP (fun _ hk => hk.elim) ?aF ?aO ?aB ?aS ?aL ?_; (case aP => exact k35_mkM _ _ _ (⟨a1_0, a1_1⟩ : S35)); (case aB => exact bl); (case aF => exact (fun k_ hk => Kd.freshB (g := gb144) (o := .cells #[.int .i64 a1_0, .int .i64 a1_1] 35 (0, 0)) (ub BK144.out) k_ hk)); (case aO => exact (up HO_156002.out)); (case aS => exact (below_size bl)); (case aL => have := LMc74.out; omega); intro v176 w82 ho hb hg hat; rw [← Ny175.out] at ho; replace HO_156000 := mk (Kd.R_over' (up HO_156000.out) (Kd.R_typed (up HO_156002.out)) (by decide) hg); replace HO_156001 := mk (Kd.R_over' (up HO_156001.out) (Kd.R_typed (up HO_156002.out)) (by decide) hg); replace BK143 := mk (blk_grown (g := gb143) (o := .cells #[.slice A0_0 l0_0.length c0_0, .slice A0_1 l0_1.length c0_1, .slice A0_2 l0_2.length c0_2] 31 (0, 0)) (ub BK143.out) hg (Kd.R_ne HO_156002.out BK143.out (by decide))); replace BK144 := mk (blk_grown (g := gb144) (o := .cells #[.int .i64 a1_0, .int .i64 a1_1] 35 (0, 0)) (ub BK144.out) hg (Kd.R_away HO_156002.out (fun _ hk => hk))); replace BK145 := mk (blk_grown (g := gb145) (o := .cells #[.slice none 0 0, .slice none 0 0, .slice none 0 0] 31 (0, 0)) (ub BK145.out) hg (Kd.R_ne HO_156002.out BK145.out (by decide))); replace BK155 := mk (blk_grown (g := gb155) (o := .cells #[.slice Ao12 t146.length co12, .slice Ao17 t149.length co17, u156002] 31 (0, 0)) (ub BK155.out) hg (Kd.R_ne HO_156002.out BK155.out (by decide))); replace HB := mk hb; have HO177 := mk ho; clear HO_156002; clear ho hb hg hat; obtain ⟨Ao83, co83, eo83⟩ := Kd.R_slice HO177.out; subst eo83; obtain ⟨hcz84_0, hcz84_1, hcz84_2, hfz84_0, hfz84_1, hfz84_2⟩ := bz3 BK155))
       go_meet
       case rel => exact ⟨_, (y175), (.slice Ao83 y175.length co83), H', ⟨by have := HK1.out; first | omega | exact Nat.le_refl _⟩, ⟨(by exact rm (rs1 HO_156000 BK155))⟩, ⟨(by exact rm (rs1 HO_156001 BK155))⟩, ⟨(by exact rm (rs1 HO177 BK155))⟩, ⟨bq⟩, ⟨bq⟩, ⟨bq⟩, ⟨bq⟩, ⟨bl⟩⟩
      ·rw [if_neg c74] at H
       exact absurd H (by simp)
    case rest =>
     clear HC68
     try clear p1
     try clear q1
     try clear hx1
     try clear c2
     try clear p2
     try clear c3
     try clear c5
     try clear c6
     try clear p6
     try clear c7
     try clear c8
     try clear p16
     try clear q16
     try clear hx16
     try clear p17
     try clear q17
     try clear hx17
     try clear c23
     try clear c23b0
     try clear c36
     try clear c37
     try clear c37b0
     try clear c38
     try clear c39
     try clear c58
     try clear c59
     try clear c60
     try clear c61
     try clear p64
     try clear c69
     try clear c70
     try clear c71
     try clear c73
     try clear c74
     try clear c75
     try clear c76
     try clear c77
     try clear c79
     try clear c80
     try clear hcz62_0
     try clear hcz62_1
     try clear hcz62_2
     try clear hcz72_0
     try clear hcz72_1
     try clear hcz72_2
     try clear hcz78_0
     try clear hcz78_1
     try clear hcz78_2
     try clear hcz81_0
     try clear hcz81_1
     try clear hcz84_0
     try clear hcz84_1
     try clear hcz84_2
     try clear hfz62_0
     try clear hfz62_1
     try clear hfz62_2
     try clear hfz72_0
     try clear hfz72_1
     try clear hfz72_2
     try clear hfz78_0
     try clear hfz78_1
     try clear hfz78_2
     try clear hfz81_0
     try clear hfz81_1
     try clear hfz84_0
     try clear hfz84_1
     try clear hfz84_2
     try clear hx163_0
     try clear hx163_1
     try clear hx167_0
     try clear hx167_1
     try clear hx171_0
     try clear hx171_1
     try clear p163
     try clear p167
     try clear p171
     try clear q163
     try clear q167
     try clear q171
     obtain ⟨kq, x156002_67, u156002, HA, HJ67, HO_156000, HO_156001, HO_156002, BK143, BK144, BK145, BK155, HB⟩ := hcut
     cases kq with
     | zero => exact absurd HA.out (by simp [spec_AddPivot.j1])
     | succ kj67 =>
      have H := HA.out
      clear HA
      simp only [spec_AddPivot.j1] at H
      revert H; refine bo ?_; rintro t178 A85 H
      by_cases c86 : t178 = true
      ·subst c86
       rw [if_pos rfl] at H
       revert H; refine bo ?_; rintro t179 A87 H
       by_cases c88 : t179 = true
       ·subst c88
        rw [if_pos rfl] at H
        simp only [Option.some.injEq, Prod.mk.injEq] at H
        obtain ⟨rfl, rfl, rfl, rfl⟩ := H
        have hnb89 := NB143_144.out
        have hnc89 := NB144_143.out
        have hnb90 := NB143_145.out
        have hnc90 := NB145_143.out
        have hnb91 := NB143_155.out
        have hnc91 := NB155_143.out
        obtain ⟨hcz92_0, hcz92_1, hcz92_2, hfz92_0, hfz92_1, hfz92_2⟩ := bz3 BK143
        go_wp2_with (first | ((with_reducible refine gate_callee (f := 15) rfl ?_); refine gl (some 58) rfl Try.func15 #[.agg #[.slice A0_0 l0_0.length c0_0, .slice A0_1 l0_1.length c0_1, .slice A0_2 l0_2.length c0_2]] ?_; (with_reducible refine (spec_IsCracker.calls kj67 _ _ l0_0 _ _ l0_1 _ _ l0_2 true _ ?side1 ?side2 ?side3 ?side4 ?side5 ?side6 A85.out).mono ?_); (case side1 => exact uc (Kd.C_below HR0_0.out HB.out)); (case side2 => exact HC0_0.out); (case side3 => exact uc (Kd.C_below HR0_1.out HB.out)); (case side4 => exact HC0_1.out); (case side5 => exact uc (Kd.C_below HR0_2.out HB.out)); (case side6 => exact HC0_2.out); rintro e w93 ⟨rfl, hb⟩; refine ⟨_, rfl, ?_⟩; replace HO_156000 := mk (Kd.R_below (up HO_156000.out) hb); replace HO_156001 := mk (Kd.R_below (up HO_156001.out) hb); replace HO_156002 := mk (Kd.R_below (up HO_156002.out) hb); replace BK143 := wb BK143 hb; replace BK144 := wb BK144 hb; replace BK145 := wb BK145 hb; replace BK155 := wb BK155 hb; replace HB := wh hb; (try clear hb); (try clear hb2); (try clear hk); (try clear hi); have hnb94 := NB155_144.out; have hnc94 := NB144_155.out; have hnb95 := NB155_145.out; have hnc95 := NB145_155.out; obtain ⟨hcz96_0, hcz96_1, hcz96_2, hfz96_0, hfz96_1, hfz96_2⟩ := bz3 BK155; obtain ⟨Ao97, co97, eo97⟩ := Kd.R_slice HO_156002.out; subst eo97) | (go_at_call 15; (with_reducible refine (spec_IsCracker.calls kj67 _ _ t146 _ _ t149 _ _ x156002_67 true _ ?side1 ?side2 ?side3 ?side4 ?side5 ?side6 A87.out).mono ?_); (case side1 => exact uc (Kd.R_reads' HO_156000.out).2.2); (case side2 => exact (Kd.R_reads' HO_156000.out).2.1); (case side3 => exact uc (Kd.R_reads' HO_156001.out).2.2); (case side4 => exact (Kd.R_reads' HO_156001.out).2.1); (case side5 => exact uc (Kd.R_reads' HO_156002.out).2.2); (case side6 => exact (Kd.R_reads' HO_156002.out).2.1); rintro e w98 ⟨rfl, hb⟩; replace HO_156000 := mk (Kd.R_below (up HO_156000.out) hb); replace HO_156001 := mk (Kd.R_below (up HO_156001.out) hb); replace HO_156002 := mk (Kd.R_below (up HO_156002.out) hb); replace BK143 := wb BK143 hb; replace BK144 := wb BK144 hb; replace BK145 := wb BK145 hb; replace BK155 := wb BK155 hb; replace HB := wh hb; (try clear hb); (try clear hb2); (try clear hk); (try clear hi); obtain ⟨hcz99_0, hcz99_1, hcz99_2, hfz99_0, hfz99_1, hfz99_2⟩ := bz3 BK155; have hnb100 := NB145_144.out; have hnc100 := NB144_145.out; obtain ⟨hcz101_0, hcz101_1, hcz101_2, hfz101_0, hfz101_1, hfz101_2⟩ := bz3 BK145))
        refine bodyPost_ret (results_ct rfl _ _ gb145 31 #[.slice Ao12 t146.length co12, .slice Ao17 t149.length co17, .slice Ao97 x156002_67.length co97] (0, 0) _ rfl bq Try.underlying31 rfl (by kernel_rfl)) rfl ?_
        exact ⟨_, _, _, by first | rfl | (simp [errW_none, errW_some] <;> rfl) | (simp [*, errW_none, errW_some] <;> rfl), (by exact rm (rs1 HO_156000 BK145)), (by exact rm (rs1 HO_156001 BK145)), (by exact rm (rs1 HO_156002 BK145)), bl⟩
       ·replace c88 := Bool.eq_false_iff.mpr c88
        subst c88
        rw [if_neg nf] at H
        revert H; refine bo ?_; rintro ⟨t180, t183, t186⟩ A102 H
        dsimp only at H
        simp only [Option.some.injEq, Prod.mk.injEq] at H
        obtain ⟨rfl, rfl, rfl, rfl⟩ := H
        have hnb103 := NB143_144.out
        have hnc103 := NB144_143.out
        have hnb104 := NB143_145.out
        have hnc104 := NB145_143.out
        have hnb105 := NB143_155.out
        have hnc105 := NB155_143.out
        obtain ⟨hcz106_0, hcz106_1, hcz106_2, hfz106_0, hfz106_1, hfz106_2⟩ := bz3 BK143
        go_wp2_with (first | ((with_reducible refine gate_callee (f := 15) rfl ?_); refine gl (some 58) rfl Try.func15 #[.agg #[.slice A0_0 l0_0.length c0_0, .slice A0_1 l0_1.length c0_1, .slice A0_2 l0_2.length c0_2]] ?_; (with_reducible refine (spec_IsCracker.calls kj67 _ _ l0_0 _ _ l0_1 _ _ l0_2 true _ ?side1 ?side2 ?side3 ?side4 ?side5 ?side6 A85.out).mono ?_); (case side1 => exact uc (Kd.C_below HR0_0.out HB.out)); (case side2 => exact HC0_0.out); (case side3 => exact uc (Kd.C_below HR0_1.out HB.out)); (case side4 => exact HC0_1.out); (case side5 => exact uc (Kd.C_below HR0_2.out HB.out)); (case side6 => exact HC0_2.out); rintro e w107 ⟨rfl, hb⟩; refine ⟨_, rfl, ?_⟩; replace HO_156000 := mk (Kd.R_below (up HO_156000.out) hb); replace HO_156001 := mk (Kd.R_below (up HO_156001.out) hb); replace HO_156002 := mk (Kd.R_below (up HO_156002.out) hb); replace BK143 := wb BK143 hb; replace BK144 := wb BK144 hb; replace BK145 := wb BK145 hb; replace BK155 := wb BK155 hb; replace HB := wh hb; (try clear hb); (try clear hb2); (try clear hk); (try clear hi); have hnb108 := NB155_144.out; have hnc108 := NB144_155.out; have hnb109 := NB155_145.out; have hnc109 := NB145_155.out; obtain ⟨hcz110_0, hcz110_1, hcz110_2, hfz110_0, hfz110_1, hfz110_2⟩ := bz3 BK155; obtain ⟨Ao111, co111, eo111⟩ := Kd.R_slice HO_156002.out; subst eo111) | (go_at_call 15; (with_reducible refine (spec_IsCracker.calls kj67 _ _ t146 _ _ t149 _ _ x156002_67 false _ ?side1 ?side2 ?side3 ?side4 ?side5 ?side6 A87.out).mono ?_); (case side1 => exact uc (Kd.R_reads' HO_156000.out).2.2); (case side2 => exact (Kd.R_reads' HO_156000.out).2.1); (case side3 => exact uc (Kd.R_reads' HO_156001.out).2.2); (case side4 => exact (Kd.R_reads' HO_156001.out).2.1); (case side5 => exact uc (Kd.R_reads' HO_156002.out).2.2); (case side6 => exact (Kd.R_reads' HO_156002.out).2.1); rintro e w112 ⟨rfl, hb⟩; replace HO_156000 := mk (Kd.R_below (up HO_156000.out) hb); replace HO_156001 := mk (Kd.R_below (up HO_156001.out) hb); replace HO_156002 := mk (Kd.R_below (up HO_156002.out) hb); replace BK143 := wb BK143 hb; replace BK144 := wb BK144 hb; replace BK145 := wb BK145 hb; replace BK155 := wb BK155 hb; replace HB := wh hb; (try clear hb); (try clear hb2); (try clear hk); (try clear hi); obtain ⟨hcz113_0, hcz113_1, hcz113_2, hfz113_0, hfz113_1, hfz113_2⟩ := bz3 BK143) | ((with_reducible refine gate_callee (f := 14) rfl ?_); refine gl (some 66) rfl Try.func14 #[.agg #[.slice A0_0 l0_0.length c0_0, .slice A0_1 l0_1.length c0_1, .slice A0_2 l0_2.length c0_2]] ?_; (with_reducible refine (spec_l4Copy.calls _ _ l0_0 _ _ l0_1 _ _ l0_2 t180 t183 t186 _ ?side1 ?side2 ?side3 ?side4 ?side5 ?side6 A102.out).mono ?_); (case side1 => exact uc (Kd.C_below HR0_0.out HB.out)); (case side2 => exact HC0_0.out); (case side3 => exact uc (Kd.C_below HR0_1.out HB.out)); (case side4 => exact HC0_1.out); (case side5 => exact uc (Kd.C_below HR0_2.out HB.out)); (case side6 => exact HC0_2.out); rintro e w114 ⟨v181, v184, v187, rfl, ho0, ho1, ho2, hb⟩; refine ⟨_, rfl, ?_⟩; have HO182 := mk (Kd.R_lower (Kd.R_new' (Kd.R_new' ho0 (Kd.R_lt (up HO_156000.out))) (Kd.R_lt (up HO_156001.out))) (below_size bl)); have HO185 := mk (Kd.R_lower (Kd.R_new' (Kd.R_new' ho1 (Kd.R_lt (up HO_156000.out))) (Kd.R_lt (up HO_156001.out))) (below_size bl)); replace HO_156000 := mk (Kd.R_mono (Kd.R_told (Kd.R_told (Kd.R_old (up HO_156000.out) hb) (Kd.R_base ho0)) (Kd.R_base ho1)) (fun _ h_ => h_.1)); replace HO_156001 := mk (Kd.R_mono (Kd.R_told (Kd.R_told (Kd.R_old (up HO_156001.out) hb) (Kd.R_base ho0)) (Kd.R_base ho1)) (fun _ h_ => h_.1)); have HO188 := mk (Kd.R_lower (Kd.R_newB (Kd.R_new' ho2 (Kd.R_lt (up HO_156002.out))) (g := gb144) (o := .cells #[.int .i64 a1_0, .int .i64 a1_1] 35 (0, 0)) (ub BK144.out)) (below_size bl)); replace HO_156002 := mk (Kd.R_elder' (up HO_156002.out) (Kd.R_base ho2) hb); replace BK143 := wb BK143 hb; replace BK144 := wb BK144 hb; replace BK145 := wb BK145 hb; replace BK155 := wb BK155 hb; replace HB := wh hb; (try clear hb); (try clear hb2); (try clear hk); (try clear hi); (try clear ho0); (try clear ho1); (try clear ho2); obtain ⟨Ao115, co115, eo115⟩ := Kd.R_slice HO182.out; subst eo115; have hnb116 := NB145_144.out; have hnc116 := NB144_145.out; obtain ⟨hcz117_0, hcz117_1, hcz117_2, hfz117_0, hfz117_1, hfz117_2⟩ := bz3 BK145; obtain ⟨Ao118, co118, eo118⟩ := Kd.R_slice HO185.out; subst eo118; obtain ⟨Ao119, co119, eo119⟩ := Kd.R_slice HO188.out; subst eo119))
        refine bodyPost_ret (results_ct rfl _ _ gb145 31 #[.slice Ao115 t180.length co115, .slice Ao118 t183.length co118, .slice Ao119 t186.length co119] (0, 0) _ rfl bq Try.underlying31 rfl (by kernel_rfl)) rfl ?_
        exact ⟨_, _, _, by first | rfl | (simp [errW_none, errW_some] <;> rfl) | (simp [*, errW_none, errW_some] <;> rfl), (by exact rm (rs1 HO182 BK145)), (by exact rm (rs1 HO185 BK145)), (by exact rm (rs1 HO188 BK145)), bl⟩
      ·replace c86 := Bool.eq_false_iff.mpr c86
       subst c86
       rw [if_neg nf] at H
       revert H; refine bo ?_; rintro ⟨t189, t192, t195⟩ A120 H
       dsimp only at H
       simp only [Option.some.injEq, Prod.mk.injEq] at H
       obtain ⟨rfl, rfl, rfl, rfl⟩ := H
       have hnb121 := NB143_144.out
       have hnc121 := NB144_143.out
       have hnb122 := NB143_145.out
       have hnc122 := NB145_143.out
       have hnb123 := NB143_155.out
       have hnc123 := NB155_143.out
       obtain ⟨hcz124_0, hcz124_1, hcz124_2, hfz124_0, hfz124_1, hfz124_2⟩ := bz3 BK143
       go_wp2_with (first | ((with_reducible refine gate_callee (f := 15) rfl ?_); refine gl (some 58) rfl Try.func15 #[.agg #[.slice A0_0 l0_0.length c0_0, .slice A0_1 l0_1.length c0_1, .slice A0_2 l0_2.length c0_2]] ?_; (with_reducible refine (spec_IsCracker.calls kj67 _ _ l0_0 _ _ l0_1 _ _ l0_2 false _ ?side1 ?side2 ?side3 ?side4 ?side5 ?side6 A85.out).mono ?_); (case side1 => exact uc (Kd.C_below HR0_0.out HB.out)); (case side2 => exact HC0_0.out); (case side3 => exact uc (Kd.C_below HR0_1.out HB.out)); (case side4 => exact HC0_1.out); (case side5 => exact uc (Kd.C_below HR0_2.out HB.out)); (case side6 => exact HC0_2.out); rintro e w125 ⟨rfl, hb⟩; refine ⟨_, rfl, ?_⟩; replace HO_156000 := mk (Kd.R_below (up HO_156000.out) hb); replace HO_156001 := mk (Kd.R_below (up HO_156001.out) hb); replace HO_156002 := mk (Kd.R_below (up HO_156002.out) hb); replace BK143 := wb BK143 hb; replace BK144 := wb BK144 hb; replace BK145 := wb BK145 hb; replace BK155 := wb BK155 hb; replace HB := wh hb; (try clear hb); (try clear hb2); (try clear hk); (try clear hi); obtain ⟨hcz126_0, hcz126_1, hcz126_2, hfz126_0, hfz126_1, hfz126_2⟩ := bz3 BK143) | ((with_reducible refine gate_callee (f := 14) rfl ?_); refine gl (some 66) rfl Try.func14 #[.agg #[.slice A0_0 l0_0.length c0_0, .slice A0_1 l0_1.length c0_1, .slice A0_2 l0_2.length c0_2]] ?_; (with_reducible refine (spec_l4Copy.calls _ _ l0_0 _ _ l0_1 _ _ l0_2 t189 t192 t195 _ ?side1 ?side2 ?side3 ?side4 ?side5 ?side6 A120.out).mono ?_); (case side1 => exact uc (Kd.C_below HR0_0.out HB.out)); (case side2 => exact HC0_0.out); (case side3 => exact uc (Kd.C_below HR0_1.out HB.out)); (case side4 => exact HC0_1.out); (case side5 => exact uc (Kd.C_below HR0_2.out HB.out)); (case side6 => exact HC0_2.out); rintro e w127 ⟨v190, v193, v196, rfl, ho0, ho1, ho2, hb⟩; refine ⟨_, rfl, ?_⟩; have HO191 := mk (Kd.R_lower (Kd.R_new' (Kd.R_new' ho0 (Kd.R_lt (up HO_156000.out))) (Kd.R_lt (up HO_156001.out))) (below_size bl)); have HO194 := mk (Kd.R_lower (Kd.R_new' (Kd.R_new' ho1 (Kd.R_lt (up HO_156000.out))) (Kd.R_lt (up HO_156001.out))) (below_size bl)); replace HO_156000 := mk (Kd.R_mono (Kd.R_told (Kd.R_told (Kd.R_old (up HO_156000.out) hb) (Kd.R_base ho0)) (Kd.R_base ho1)) (fun _ h_ => h_.1)); replace HO_156001 := mk (Kd.R_mono (Kd.R_told (Kd.R_told (Kd.R_old (up HO_156001.out) hb) (Kd.R_base ho0)) (Kd.R_base ho1)) (fun _ h_ => h_.1)); have HO197 := mk (Kd.R_lower (Kd.R_newB (Kd.R_new' ho2 (Kd.R_lt (up HO_156002.out))) (g := gb144) (o := .cells #[.int .i64 a1_0, .int .i64 a1_1] 35 (0, 0)) (ub BK144.out)) (below_size bl)); replace HO_156002 := mk (Kd.R_elder' (up HO_156002.out) (Kd.R_base ho2) hb); replace BK143 := wb BK143 hb; replace BK144 := wb BK144 hb; replace BK145 := wb BK145 hb; replace BK155 := wb BK155 hb; replace HB := wh hb; (try clear hb); (try clear hb2); (try clear hk); (try clear hi); (try clear ho0); (try clear ho1); (try clear ho2); obtain ⟨Ao128, co128, eo128⟩ := Kd.R_slice HO191.out; subst eo128; have hnb129 := NB145_144.out; have hnc129 := NB144_145.out; have hnb130 := NB145_155.out; have hnc130 := NB155_145.out; obtain ⟨hcz131_0, hcz131_1, hcz131_2, hfz131_0, hfz131_1, hfz131_2⟩ := bz3 BK145; obtain ⟨Ao132, co132, eo132⟩ := Kd.R_slice HO194.out; subst eo132; obtain ⟨Ao133, co133, eo133⟩ := Kd.R_slice HO197.out; subst eo133))
       refine bodyPost_ret (results_ct rfl _ _ gb145 31 #[.slice Ao128 t189.length co128, .slice Ao132 t192.length co132, .slice Ao133 t195.length co133] (0, 0) _ rfl bq Try.underlying31 rfl (by kernel_rfl)) rfl ?_
       exact ⟨_, _, _, by first | rfl | (simp [errW_none, errW_some] <;> rfl) | (simp [*, errW_none, errW_some] <;> rfl), (by exact rm (rs1 HO191 BK145)), (by exact rm (rs1 HO194 BK145)), (by exact rm (rs1 HO197 BK145)), bl⟩

end Go.Proofs.Ytmliclopdbkbeaa.PFnExactAddPivot
