-- printed by a program of this session, a turned copy of the print of the kit
import Derived.Test.YtfjanffppobheaaGreatDoorSq
import Derived.Test.YtfjanffppobheaaGreatDoorPFnTextsx0
import Derived.Test.YtfjanffppobheaaGreatDoorPFnTextsx2
import Derived.Test.YtfjanffppobheaaGreatDoorPFnTextsx6
namespace Go.Proofs.YtfjanffppobheaaGreatDoor.PFnTexts
open Go.RowKit Go.Proofs.YtfjanffppobheaaGreatDoorW.PrintWords Go.Proofs.YtfjanffppobheaaGreatDoorW.PrintLast Go.Proofs.YtfjanffppobheaaGreatDoorW.PrintMore Go.Proofs.YtfjanffppobheaaGreatDoor.Sq
attribute [local go_sem] max2_int min2_int max_two min_two max_three min_three max_four min_four Giv.cell_twice   -- for this text's walks alone
set_option linter.unusedVariables false
set_option linter.unusedSimpArgs false

/-! ### impl_ParseTable: function 7 -/
mutual
def impl_ParseTable.l0 : Nat → ByteArray → List ByteArray → List ByteArray → Int → Int → List (S58) → Option ((List (S58)) × Bool)
 | 0, _, _, _, _, _, _ => none
 | k + 1, x0, x4, x25, x26, x27, x257000 => if x27 < x26 then (if 0 ≤ x27 then (if x27 < (x25.length : Int) then (if x257000.length < 3518437208883 then (impl_ParseTable.l0 k x0 x4 x25 x26 (wrap64 (x27 + 1)) (x257000 ++ [(⟨rdOf ByteArray.empty x25 x27, ([] : List Int)⟩ : S58)])) else (none)) else (none)) else (none)) else (if 1 ≤ (mx 1 (wrap64 ((x4.length : Int) - 1))) then (if (mx 1 (wrap64 ((x4.length : Int) - 1))) ≤ (x4.length : Int) then ((some ((x4.take ((mx 1 (wrap64 ((x4.length : Int) - 1))) : Int).toNat).drop 1 : List ByteArray)).bind fun y265 => (impl_ParseTable.l1 k x0 y265 (y265.length : Int) 0 x257000)) else (none)) else (none))
def impl_ParseTable.l1 : Nat → ByteArray → List ByteArray → Int → Int → List (S58) → Option ((List (S58)) × Bool)
 | 0, _, _, _, _, _ => none
 | k + 1, x0, x44, x45, x46, x257000 => if x46 < x45 then (if 0 ≤ x46 then (if x46 < (x44.length : Int) then ((strings_Split.f (rdOf ByteArray.empty x44 x46) (⟨#[32]⟩ : ByteArray)).bind fun t271 => (if (t271.length : Int) = (x257000.length : Int) then (impl_ParseTable.l2 k x0 x44 x45 x46 t271 (t271.length : Int) 0 x257000) else (some (([] : List (S58)), false)))) else (none)) else (none)) else (if x0.toList = ([] : List UInt8) then (some (([] : List (S58)), false)) else ((impl_FormatTable.f k x257000).bind fun t269 => (if t269.toList = x0.toList then (some (x257000, true)) else (some (([] : List (S58)), false)))))
def impl_ParseTable.l2 : Nat → ByteArray → List ByteArray → Int → Int → List ByteArray → Int → Int → List (S58) → Option ((List (S58)) × Bool)
 | 0, _, _, _, _, _, _, _, _ => none
 | k + 1, x0, x44, x45, x46, x59, x60, x61, x257000 => if x61 < x60 then (if 0 ≤ x61 then (if x61 < (x59.length : Int) then ((impl_ParseInt.f (rdOf ByteArray.empty x59 x61)).bind fun bt275 => (if x61 < (x257000.length : Int) then (if ((rd_T58 x257000 x61).f1).length < 17592186044416 then (impl_ParseTable.l2 k x0 x44 x45 x46 x59 x60 (wrap64 (x61 + 1)) (x257000.set (x61 : Int).toNat (⟨(rd_T58 x257000 x61).f0, (((rd_T58 x257000 x61).f1) ++ [bt275.1])⟩ : S58))) else (none)) else (none))) else (none)) else (none)) else (impl_ParseTable.l1 k x0 x44 x45 (wrap64 (x46 + 1)) x257000)
end
def impl_ParseTable.f (k : Nat) (a0 : ByteArray) : Option ((List (S58)) × Bool) := (strings_Split.f a0 (⟨#[10]⟩ : ByteArray)).bind fun t253 => (if (t253.length : Int) > 66 then (some (([] : List (S58)), false)) else (if 0 < (t253.length : Int) then ((strings_Split.f (rdOf ByteArray.empty t253 0) (⟨#[32]⟩ : ByteArray)).bind fun t258 => (impl_ParseTable.l0 k a0 t253 t258 (t258.length : Int) 0 ([] : List (S58)))) else (none)))
theorem impl_ParseTable.mono_l : ∀ k, (∀ y0 y1 y2 y3 y4 y5, LeO (impl_ParseTable.l0 k y0 y1 y2 y3 y4 y5) (impl_ParseTable.l0 (k + 1) y0 y1 y2 y3 y4 y5)) ∧ (∀ y0 y1 y2 y3 y4, LeO (impl_ParseTable.l1 k y0 y1 y2 y3 y4) (impl_ParseTable.l1 (k + 1) y0 y1 y2 y3 y4)) ∧ (∀ y0 y1 y2 y3 y4 y5 y6 y7, LeO (impl_ParseTable.l2 k y0 y1 y2 y3 y4 y5 y6 y7) (impl_ParseTable.l2 (k + 1) y0 y1 y2 y3 y4 y5 y6 y7))
 | 0 => ⟨fun _ _ _ _ _ _ r h => by simp [impl_ParseTable.l0] at h, fun _ _ _ _ _ r h => by simp [impl_ParseTable.l1] at h, fun _ _ _ _ _ _ _ _ r h => by simp [impl_ParseTable.l2] at h⟩
 | k + 1 => by
  obtain ⟨ih0, ih1, ih2⟩ := impl_ParseTable.mono_l k
  refine ⟨?_, ?_, ?_⟩
  ·intro y0 y1 y2 y3 y4 y5
   unfold impl_ParseTable.l0
   exact mo
  ·intro y0 y1 y2 y3 y4
   unfold impl_ParseTable.l1
   exact mo
  ·intro y0 y1 y2 y3 y4 y5 y6 y7
   unfold impl_ParseTable.l2
   exact mo
theorem impl_ParseTable.mono : ∀ a0 k, LeO (impl_ParseTable.f k a0) (impl_ParseTable.f (k + 1) a0) := by
 intro a0 k
 obtain ⟨ih0, ih1, ih2⟩ := impl_ParseTable.mono_l k
 unfold impl_ParseTable.f
 exact mo
instance impl_ParseTable.mi (a0 k) : LeC (impl_ParseTable.f k a0) (impl_ParseTable.f (k + 1) a0) := ⟨impl_ParseTable.mono a0 k⟩
def impl_ParseTable.T20 : Bool × List (List Nat × List Nat) := (true, [([], []), ([0], [0]), ([], []), ([], []), ([3], [3]), ([], []), ([4, 5], [4, 5]), ([6], [6]), ([7], [7]), ([], []), ([9], [9]), ([8, 10], [8, 10]), ([1, 2, 0, 1, 2, 3, 4, 5, 6, 7, 8, 9, 10, 11], [1, 2]), ([12, 0, 1, 2, 3, 4, 5, 6, 7, 8, 9, 10, 11], [12]), ([13, 11, 11, 0, 1, 2, 3, 4, 5, 6, 7, 8, 9, 10, 11], [11, 13])])
def impl_ParseTable.B20 : List Nat := [0, 1, 0, 0, 8, 0, 56, 120, 248, 0, 512, 2040, 4095, 8191, 16383]
theorem impl_ParseTable.tab20 : rtab .any (opsOf Tryz.f7 20) = impl_ParseTable.T20 := by kernel_rfl
theorem impl_ParseTable.bits20 : waitsOk impl_ParseTable.T20.2 impl_ParseTable.B20 = true := by kernel_rfl
set_option maxHeartbeats 8000000 in
set_option maxRecDepth 100000 in
theorem impl_ParseTable.calls (k : Nat) (a0 : ByteArray) (r1 : List (S58)) (r2 : Bool) (w : World) (TB0 : Aside0 (TabOk w)) (h : impl_ParseTable.f k a0 = some (r1, r2)) :
  Calls Tryz.prog 7 #[.string a0] w fun e w' => ∃ v0_ : Value, e = .returned (.tuple #[.agg #[v0_], .bool r2]) ∧ Kd.S k58 58 w' w.heap.size (fun _ => True) v0_ r1 ∧ Below w.heap.size w w' := by
 have hu26 := Tryz.underlying26
 have hu58 := Tryz.underlying58
 have HB := Aside0.mk (Below.refl w.heap.size w)
 have H : ((strings_Split.f a0 (⟨#[10]⟩ : ByteArray)).bind fun t253 => (if (t253.length : Int) > 66 then (some (([] : List (S58)), false)) else (if 0 < (t253.length : Int) then ((strings_Split.f (rdOf ByteArray.empty t253 0) (⟨#[32]⟩ : ByteArray)).bind fun t258 => (impl_ParseTable.l0 k a0 t253 t258 (t258.length : Int) 0 ([] : List (S58)))) else (none)))) = some (r1, r2) := h
 clear h
 revert H; refine bo ?_; rintro t253 A2 H
 by_cases c3 : (t253.length : Int) > 66
 ·rw [if_pos c3] at H
  have c3b0 : decide (66 < (t253.length : Int)) = true := decide_eq_true c3
  have c3b1 : decide (66 < t253.length) = true := decide_eq_true (by omega)
  clear c3
  simp only [Option.some.injEq, Prod.mk.injEq] at H
  obtain ⟨rfl, rfl⟩ := H
  go_enter Tryz.func7, Tryz.ntmps7
  go_wp2_with (first | ((with_reducible refine gate_dst (N := 2) rfl ?_); refine bx 2 #[.slice none 0 0] 26 ?_; intro gb252 hg w4 hbox hb; have BK252 := mk hbox; have GW252 := wg hg; have GE252 := wg hg; replace HB := wh hb; clear hb hbox hg) | ((with_reducible refine gate_callee (f := 33) rfl ?_); refine gl (some 16) rfl Tryz.func33 #[.string a0, .string (⟨#[10]⟩ : ByteArray)] ?_; (with_reducible refine (strings_Split.calls a0 (⟨#[10]⟩ : ByteArray) t253 _ ?side1 A2.out).mono ?_); (case side1 => exact ⟨TabOk.step TB0.out bl⟩); rintro e w5 ⟨v254, rfl, ho0, hb⟩; refine ⟨_, rfl, ?_⟩; have HO255 := mk (Kd.R_lower ho0 (below_size bl)); replace BK252 := wb BK252 hb; replace HB := wh hb; (try clear hb); (try clear hb2); (try clear hk); (try clear hi); (try clear ho0); obtain ⟨Ao6, co6, eo6⟩ := Kd.R_slice HO255.out; subst eo6; obtain ⟨hcz7_0, hfz7_0⟩ := bz1 BK252))
  refine bodyPost_ret (results_ct rfl _ _ gb252 26 #[.slice none 0 0] (0, 0) _ rfl bq Tryz.underlying26 rfl (by kernel_rfl)) rfl ?_
  exact ⟨_, by first | rfl | (simp [errW_none, errW_some] <;> rfl) | (simp [*, errW_none, errW_some] <;> rfl), by first | exact Kd.S_nil _ _ _ _ _ | exact Kd.N_nil _ _ _ _ _ | exact Kd.V_nil _ _ _ _ _ | exact Kd.Q_nil _ _ _ _ _ | exact Kd.R_nil _ _ _ _ _, bl⟩
 ·rw [if_neg c3] at H
  have c3b0 : decide (66 < (t253.length : Int)) = false := decide_eq_false c3
  have c3b1 : decide (66 < t253.length) = false := decide_eq_false (by omega)
  clear c3
  by_cases c8 : 0 < (t253.length : Int)
  ·rw [if_pos c8] at H
   have c8b0 : decide (0 < (t253.length : Int)) = true := decide_eq_true c8
   have c8b1 : decide (0 < t253.length) = true := decide_eq_true (by omega)
   clear c8
   revert H; refine bo ?_; rintro t258 A9 H
   have H' := Aside0.mk H
   clear H
   go_enter Tryz.func7, Tryz.ntmps7
   go_wp2_with (first | ((with_reducible refine gate_dst (N := 2) rfl ?_); refine bx 2 #[.slice none 0 0] 26 ?_; intro gb252 hg w10 hbox hb; have BK252 := mk hbox; have GW252 := wg hg; have GE252 := wg hg; replace HB := wh hb; clear hb hbox hg) | ((with_reducible refine gate_callee (f := 33) rfl ?_); refine gl (some 16) rfl Tryz.func33 #[.string a0, .string (⟨#[10]⟩ : ByteArray)] ?_; (with_reducible refine (strings_Split.calls a0 (⟨#[10]⟩ : ByteArray) t253 _ ?side1 A2.out).mono ?_); (case side1 => exact ⟨TabOk.step TB0.out bl⟩); rintro e w11 ⟨v254, rfl, ho0, hb⟩; refine ⟨_, rfl, ?_⟩; have HO255 := mk (Kd.R_lower ho0 (below_size bl)); replace BK252 := wb BK252 hb; replace HB := wh hb; (try clear hb); (try clear hb2); (try clear hk); (try clear hi); (try clear ho0); obtain ⟨Ao12, co12, eo12⟩ := Kd.R_slice HO255.out; subst eo12) | ((with_reducible refine gate_dst (N := 5) rfl ?_); refine bx 5 #[.slice none 0 0] 26 ?_; intro gb256 hg w13 hbox hb; replace HO255 := mk (Kd.R_below (up HO255.out) hb); have BK256 := mk hbox; have GW256 := wg hg; have GE256 := wg hg; replace HB := wh hb; have NB252_256 := nl BK252 hg; have NB256_252 := nr BK252 hg; replace BK252 := wb BK252 hb; clear hb hbox hg; have hnb14 := NB256_252.out; have hnc14 := NB252_256.out; obtain ⟨hcz15_0, hfz15_0⟩ := bz1 BK256; have p257 : 0 ≤ (0 : Int) := (by omega); have q257 : 0 < (t253.length : Int) := dt; obtain ⟨ad257, e257, hx257_0⟩ := Kd.at_string (Kd.R_reads' HO255.out).2.2 0 p257 q257; cases e257; have qi257 : (0 < t253.length) = True := eq_true (by omega); (try rw [show ((0 : Int)).toNat = 0 from rfl] at hx257_0); (try rw [Addr.add_zero'] at hx257_0); have hn257_0 : ad257.block ≠ gb256 := Kd.own_blk (Kd.R_ne HO255.out BK256.out (by decide)); replace hx257_0 := (cell_far (p := ⟨gb256, 0, none⟩) (by first | (rw [add_block]; exact hn257_0) | (show (Addr.add _ _).block ≠ _; rw [add_block]; exact hn257_0) | exact hn257_0) (.slice none 0 0)).trans hx257_0; clear hn257_0; replace p257 := eq_true p257; replace q257 := eq_true q257) | ((with_reducible refine gate_callee (f := 33) rfl ?_); refine gl (some 25) rfl Tryz.func33 #[.string (rdOf ByteArray.empty t253 0), .string (⟨#[32]⟩ : ByteArray)] ?_; (with_reducible refine (strings_Split.calls (rdOf ByteArray.empty t253 0) (⟨#[32]⟩ : ByteArray) t258 _ ?side1 A9.out).mono ?_); (case side1 => exact ⟨TabOk.step TB0.out bl⟩); rintro e w16 ⟨v259, rfl, ho0, hb⟩; refine ⟨_, rfl, ?_⟩; have HO260 := mk (Kd.R_lower (Kd.R_new' ho0 (Kd.R_lt (by exact rs1 HO255 BK256))) (below_size bl)); replace HO255 := mk (Kd.R_elder' (by exact rs1 HO255 BK256) (Kd.R_base ho0) hb); replace BK252 := wx BK252 hb; replace BK256 := mk (blk_below (g := gb256) (o := .cells #[.slice none 0 0] 26 (0, 0)) bq hb); replace HB := wh hb; (try clear hb); (try clear hb2); (try clear hk); (try clear hi); (try clear ho0); obtain ⟨Ao17, co17, eo17⟩ := Kd.R_slice HO260.out; subst eo17))
   go_loopg [27] k (fun kq v27 w' => ∃ (x27_1 : Int) (x257000_1 : List (S58)) (u257000 : Value), v27 = .int .i64 x27_1 ∧ Aside0 (impl_ParseTable.l0 kq a0 t253 t258 (t258.length : Int) x27_1 x257000_1 = some (r1, r2)) ∧ Aside0 (kq ≤ k) ∧ Aside0 (Kd.R Kd.string 9 w' w.heap.size (fun k_ => some k_ ≠ ((.slice Ao17 t258.length co17) : Value).ownBlock) (.slice (some ad257) t253.length co12) t253) ∧ Aside0 (Kd.R Kd.string 9 w' w.heap.size (fun k_ => some k_ ≠ ((.slice (some ad257) t253.length co12) : Value).ownBlock) (.slice Ao17 t258.length co17) t258) ∧ Aside0 (Kd.S k58 58 w' w.heap.size (fun _ => True) u257000 x257000_1) ∧ Aside0 (w'.heap[gb252]? = some (.cells #[(.slice none 0 0)] 26 (0, 0))) ∧ Aside0 (w'.heap[gb256]? = some (.cells #[u257000] 26 (0, 0))) ∧ Aside0 (Below w.heap.size w w'))
   case atStart => exact ⟨(0), (([] : List (S58))), (.slice none 0 0), (by first | rfl | (simp; done) | (simp [*]; done)), H', ⟨Nat.le_refl _⟩, ⟨by exact up (Kd.R_mono HO255.out (fun _ hk => hk.2))⟩, ⟨by exact up (Kd.R_mono HO260.out (fun _ hk => hk.2))⟩, ⟨by first | exact Kd.S_nil _ _ _ _ _ | exact Kd.N_nil _ _ _ _ _ | exact Kd.V_nil _ _ _ _ _ | exact Kd.Q_nil _ _ _ _ _ | exact Kd.R_nil _ _ _ _ _⟩, ⟨ub BK252.out⟩, ⟨ub BK256.out⟩, ⟨bl⟩⟩
   case round =>
    clear H'
    try clear c1
    try clear p2
    try clear q2
    try clear hx2
    try clear qi2
    try clear c3
    try clear c3b0
    try clear c3b1
    try clear c7
    try clear c8
    try clear c8b0
    try clear c8b1
    try clear c14
    try clear hcz15_0
    try clear hcz7_0
    try clear hfz15_0
    try clear hfz7_0
    try clear hx257_0
    try clear p257
    try clear q257
    obtain ⟨x27_1, x257000_1, u257000, rfl, HA, HK1, HO_4, HO_25, HO_257000, BK252, BK256, HB⟩ := hrel
    cases gk with
    | zero => exact absurd HA.out (by simp [impl_ParseTable.l0])
    | succ k1 =>
     have H := HA.out
     clear HA
     simp only [impl_ParseTable.l0] at H
     by_cases c18 : x27_1 < (t258.length : Int)
     ·rw [if_pos c18] at H
      have c18b0 : decide (x27_1 < (t258.length : Int)) = true := decide_eq_true c18
      clear c18
      by_cases c19 : 0 ≤ x27_1
      ·rw [if_pos c19] at H
       have c19b0 : decide (0 ≤ x27_1) = true := decide_eq_true c19
       clear c19
       by_cases c20 : x27_1 < (t258.length : Int)
       ·rw [if_pos c20] at H
        have c20b0 : decide (x27_1 < (t258.length : Int)) = true := decide_eq_true c20
        clear c20
        by_cases c21 : x257000_1.length < 3518437208883
        ·rw [if_pos c21] at H
         have LMc21 := Aside0.mk c21
         clear c21
         obtain ⟨y262, hy262⟩ : ∃ y_ : List (S58), y_ = (x257000_1 ++ [(⟨rdOf ByteArray.empty t258 x27_1, ([] : List Int)⟩ : S58)]) := ⟨_, rfl⟩
         replace H : (impl_ParseTable.l0 k1 a0 t253 t258 (t258.length : Int) (wrap64 (x27_1 + 1)) y262) = some (r1, r2) := by first | (rw [hy262]; with_reducible exact H) | (have H2_ := (Option.bind_some _ _).symm.trans H; rw [hy262]; with_reducible exact H2_) | (have H2_ := (Option.bind_some _ _).symm.trans H; with_reducible exact H2_) | with_reducible exact H | (rw [hy262]; exact H) | exact H
         have Ny262 := Aside0.mk hy262
         clear hy262
         have H' := Aside0.mk H
         clear H
         have p261 : 0 ≤ (x27_1 : Int) := dt
         have q261 : x27_1 < (t258.length : Int) := dt
         obtain ⟨ad261, e261, hx261_0⟩ := Kd.at_string (Kd.R_reads' HO_25.out).2.2 x27_1 p261 q261
         cases e261
         replace p261 := eq_true p261
         replace q261 := eq_true q261
         have hnb22 := NB256_252.out
         have hnc22 := NB252_256.out
         obtain ⟨hcz23_0, hfz23_0⟩ := bz1 BK256
         go_wp2_with (first | ((with_reducible refine gate_builtin (b := .append) (xs := #[.tmp 32, .tmp 35]) rfl ?_); at_builtin; refine Kd.S_append k58 (w0 := w) w.heap.size rfl (.tmp 32) (.tmp 35) 24 58 (.agg #[(.string ⟨#[]⟩), (.slice none 0 0)]) 40 rfl Tryz.underlying24 info58 rfl (by decide) (by omega) u257000 x257000_1 (⟨rdOf ByteArray.empty t258 x27_1, ([] : List Int)⟩ : S58) [.string (rdOf ByteArray.empty t258 x27_1), .slice none 0 0] (fun _ => True) (fun _ => False) rfl rfl ?aP (fun k_ hk_ => hk_.elim) ?aF ?aO ?aB ?aS ?aL ?_; (case aP => exact k58_mkM _ _ _ (⟨rdOf ByteArray.empty t258 x27_1, ([] : List Int)⟩ : S58) (Kd.R_nil _ _ _ _ _)); (case aB => exact bl); (case aF => exact (fun _ _ => trivial)); (case aO => exact (by (with_reducible repeat (first | apply Kd.S_alloc | apply Kd.S_drewN | apply Kd.S_drew)); exact Kd.S_mono HO_257000.out (fun k_ hk => ⟨trivial, fun e_ => e_⟩))); (case aS => exact (below_size bl)); (case aL => have := LMc21.out; omega); intro v263 w24 ho hb hg hat; rw [← Ny262.out] at ho; replace HO_4 := mk (Kd.R_over' (up HO_4.out) (Kd.S_typed (by (with_reducible repeat (first | apply Kd.S_alloc | apply Kd.S_drewN | apply Kd.S_drew)); exact HO_257000.out)) (by decide) hg); replace HO_25 := mk (Kd.R_over' (up HO_25.out) (Kd.S_typed (by (with_reducible repeat (first | apply Kd.S_alloc | apply Kd.S_drewN | apply Kd.S_drew)); exact HO_257000.out)) (by decide) hg); replace BK252 := mk (blk_grown (g := gb252) (o := .cells #[.slice none 0 0] 26 (0, 0)) (ub BK252.out) hg (Kd.S_ne HO_257000.out BK252.out (by decide))); replace BK256 := mk (blk_grown (g := gb256) (o := .cells #[u257000] 26 (0, 0)) (ub BK256.out) hg (Kd.S_ne HO_257000.out BK256.out (by decide))); replace HB := mk hb; have HO264 := mk ho; clear HO_257000; clear ho hb hg hat; obtain ⟨Ao25, co25, eo25⟩ := Kd.S_slice HO264.out; subst eo25; obtain ⟨hcz26_0, hfz26_0⟩ := bz1 BK256))
         go_roundg k1
         case measure => have := HK1.out; omega
         case rel => exact ⟨(wrap64 (x27_1 + 1)), (y262), (.slice Ao25 y262.length co25), (by first | rfl | (simp; done) | (simp [*]; done)), H', ⟨by have := HK1.out; omega⟩, ⟨(by exact rm (rs1 HO_4 BK256))⟩, ⟨(by exact rm (rs1 HO_25 BK256))⟩, ⟨by (with_reducible repeat (first | apply Kd.S_alloc | apply Kd.S_drewN | apply Kd.S_drew)); exact Kd.S_mono (Kd.S_far (p := ⟨gb256, 0, none⟩) (Kd.S_types HO264.out BK256.out (by decide)) (fun _ hk => hk.2) (.slice Ao25 y262.length co25)) (fun _ hk => trivial)⟩, ⟨bq⟩, ⟨bq⟩, ⟨bl⟩⟩
        ·rw [if_neg c21] at H
         exact absurd H (by simp)
       ·rw [if_neg c20] at H
        exact absurd H (by simp)
      ·rw [if_neg c19] at H
       exact absurd H (by simp)
     ·rw [if_neg c18] at H
      have c18b0 : decide (x27_1 < (t258.length : Int)) = false := decide_eq_false c18
      clear c18
      obtain ⟨ji27, hji27⟩ : ∃ j_ : Int, (mx 1 (wrap64 ((t253.length : Int) - 1))) = j_ := ⟨_, rfl⟩
      replace H : (if 1 ≤ (ji27) then (if (ji27) ≤ (t253.length : Int) then ((some ((t253.take ((ji27) : Int).toNat).drop 1 : List ByteArray)).bind fun y265 => (impl_ParseTable.l1 k1 a0 y265 (y265.length : Int) 0 x257000_1)) else (none)) else (none)) = some (r1, r2) := by first | (rw [hji27] at H; exact H) | (simp only [hji27] at H ⊢; exact H)
      have hji27_ : (if 1 < (wrap64 ((t253.length : Int) - 1)) then (wrap64 ((t253.length : Int) - 1)) else 1) = ji27 := hji27
      by_cases c28 : 1 ≤ (ji27)
      ·rw [if_pos c28] at H
       have c28b0 := eq_true c28
       have c28b1 : decide (1 ≤ (ji27)) = true := decide_eq_true c28
       clear c28
       by_cases c29 : (ji27) ≤ (t253.length : Int)
       ·rw [if_pos c29] at H
        have c29b0 := eq_true c29
        have c29b1 : decide ((ji27) ≤ (t253.length : Int)) = true := decide_eq_true c29
        clear c29
        obtain ⟨y265, hy265⟩ : ∃ y_ : List ByteArray, y_ = ((t253.take ((ji27) : Int).toNat).drop 1) := ⟨_, rfl⟩
        replace H : (impl_ParseTable.l1 k1 a0 y265 (y265.length : Int) 0 x257000_1) = some (r1, r2) := by first | (rw [hy265]; with_reducible exact H) | (have H2_ := (Option.bind_some _ _).symm.trans H; rw [hy265]; with_reducible exact H2_) | (have H2_ := (Option.bind_some _ _).symm.trans H; with_reducible exact H2_) | with_reducible exact H | (rw [hy265]; exact H) | exact H
        have Ny265 := Aside0.mk hy265
        clear hy265
        have H' := Aside0.mk H
        clear H
        have q30 : ((ji27) : Int) ≤ ((t253.length : Int) : Int) := dt
        obtain ⟨i030, hi030, _, hsz30, _⟩ := info_parts info9
        have hroom30 : t253.length ≤ co12 := (Kd.R_reads' HO_4.out).2.1
        have hC30 : Kd.C Kd.string _ (some ad257) t253.length t253 := (Kd.R_reads' HO_4.out).2.2
        have ql30 : (1 : Int) ≤ ((ji27) : Int) := dt
        have hcut30 := cut_mid (P := Tryz.prog) 56 9 .i64 .i64 Tryz.underlying56 hi030 1 hsz30 (some ad257) t253.length co12 1 (ji27) (by omega) ql30 q30 hroom30
        have hr30 := Kd.C_mid (lo := (1 : Int).toNat) (hi := ((ji27) : Int).toNat) (c := co12) hC30 (by omega) (by omega) hroom30
        obtain ⟨A30, hA30⟩ : ∃ A1, A1 = (if co12 = (1 : Int).toNat then (some ad257) else ((some ad257) : Option Addr).map (·.add ((1 : Int).toNat * 1))) := ⟨_, rfl⟩
        obtain ⟨c30, hc30⟩ : ∃ c1, c1 = co12 - (1 : Int).toNat := ⟨_, rfl⟩
        have hy30 : y265.length = ((ji27) : Int).toNat - (1 : Int).toNat := (by rw [Ny265.out, List.length_drop, List.length_take] <;> omega)
        rw [show ((t253).take ((ji27) : Int).toNat).drop (1 : Int).toNat = y265 from Ny265.out.symm] at hr30
        replace hr30 : Kd.C Kd.string _ A30 y265.length y265 := (by rw [hA30]; exact hr30)
        have HCM_ : ∀ W : World, Kd.C Kd.string W (some ad257) t253.length t253 → Kd.C Kd.string W A30 y265.length y265 := by
          intro W hW_
          have hr30 := Kd.C_mid (lo := (1 : Int).toNat) (hi := ((ji27) : Int).toNat) (c := co12) hW_ (by omega) (by omega) hroom30
          rw [show ((t253).take ((ji27) : Int).toNat).drop (1 : Int).toNat = y265 from Ny265.out.symm] at hr30
          rw [hA30]; exact hr30
        replace HCM_ := Aside0.mk HCM_
        rw [← hy30, ← hA30, ← hc30] at hcut30
        have HR268 := Aside0.mk hr30
        have HC268 := Aside0.mk (show y265.length ≤ c30 from by rw [hy30, hc30]; exact Nat.sub_le_sub_right (Nat.le_trans (by omega) hroom30) _)
        clear hr30 hC30 hroom30 hi030 hsz30 hc30
        have KY30 := Aside0.mk hy30
        have KA30 := Aside0.mk hA30
        clear hy30 hA30
        have KL30 := Aside0.mk (show ((ji27) : Int).toNat ≤ t253.length from by omega)
        have KM30 := Aside0.mk (show 1 ≤ ((ji27) : Int).toNat from by omega)
        replace q30 := eq_true q30
        go_wp2
        go_loopg [46] k1 (fun kq v46 w' => ∃ (x46_2 : Int) (x257000_2 : List (S58)) (u257000 : Value), v46 = .int .i64 x46_2 ∧ Aside0 (impl_ParseTable.l1 kq a0 y265 (y265.length : Int) x46_2 x257000_2 = some (r1, r2)) ∧ Aside0 (kq ≤ k1) ∧ Aside0 (Kd.R Kd.string 9 w' w.heap.size (fun _ => True) (.slice (some ad257) t253.length co12) t253) ∧ Aside0 (Kd.S k58 58 w' w.heap.size (fun _ => True) u257000 x257000_2) ∧ Aside0 (w'.heap[gb252]? = some (.cells #[(.slice none 0 0)] 26 (0, 0))) ∧ Aside0 (w'.heap[gb256]? = some (.cells #[u257000] 26 (0, 0))) ∧ Aside0 (Below w.heap.size w w'))
        case atStart => exact ⟨(0), (x257000_1), (u257000), (by first | rfl | (simp; done) | (simp [*]; done)), H', ⟨Nat.le_refl _⟩, ⟨(by exact up (Kd.R_mono HO_4.out (fun _ _ => trivial)))⟩, ⟨by (with_reducible repeat (first | apply Kd.S_alloc | apply Kd.S_drewN | apply Kd.S_drew)); exact HO_257000.out⟩, ⟨ub BK252.out⟩, ⟨ub BK256.out⟩, ⟨bl⟩⟩
        case round =>
         clear H'
         try clear c1
         try clear c2
         try clear p2
         try clear q2
         try clear hx2
         try clear qi2
         try clear c3
         try clear c3b0
         try clear c3b1
         try clear q3
         try clear p6
         try clear c7
         try clear c8
         try clear c8b0
         try clear c8b1
         try clear c14
         try clear c18
         try clear c18b0
         try clear c19
         try clear c19b0
         try clear c20
         try clear c20b0
         try clear c21
         try clear c22
         try clear p25
         try clear q25
         try clear hx25
         try clear qi25
         try clear p26
         try clear q26
         try clear hx26
         try clear c28
         try clear c28b0
         try clear c28b1
         try clear c29
         try clear c29b0
         try clear c29b1
         try clear c30
         try clear q30
         try clear hcz15_0
         try clear hcz23_0
         try clear hcz26_0
         try clear hcz7_0
         try clear hfz15_0
         try clear hfz23_0
         try clear hfz26_0
         try clear hfz7_0
         try clear hx257_0
         try clear hx261_0
         try clear p2
         try clear p257
         try clear p261
         try clear q2
         try clear q257
         try clear q261
         try clear q30
         obtain ⟨x46_2, x257000_2, u257000, rfl, HA, HK2, HX_4, HO_257000, BK252, BK256, HB⟩ := hrel
         cases gk with
         | zero => exact absurd HA.out (by simp [impl_ParseTable.l1])
         | succ k2 =>
          have H := HA.out
          clear HA
          simp only [impl_ParseTable.l1] at H
          by_cases c31 : x46_2 < (y265.length : Int)
          ·rw [if_pos c31] at H
           have c31b0 : decide (x46_2 < (y265.length : Int)) = true := decide_eq_true c31
           clear c31
           by_cases c32 : 0 ≤ x46_2
           ·rw [if_pos c32] at H
            have c32b0 : decide (0 ≤ x46_2) = true := decide_eq_true c32
            clear c32
            by_cases c33 : x46_2 < (y265.length : Int)
            ·rw [if_pos c33] at H
             have c33b0 : decide (x46_2 < (y265.length : Int)) = true := decide_eq_true c33
             clear c33
             revert H; refine bo ?_; rintro t271 A34 H
             by_cases c35 : (t271.length : Int) = (x257000_2.length : Int)
             ·rw [if_pos c35] at H
              have c35b0 : ((t271.length : Int) == (x257000_2.length : Int)) = true := beq_iff_eq.mpr c35
              have c35b1 : ((t271.length : Int) != (x257000_2.length : Int)) = false := bne_eq_false_iff_eq.mpr c35
              have c35b2 : (t271.length == x257000_2.length) = true := by first | simpa using c35 | (simp at c35 ⊢; omega)
              clear c35
              have H' := Aside0.mk H
              clear H
              have p270 : 0 ≤ (x46_2 : Int) := dt
              have q270 : x46_2 < (y265.length : Int) := dt
              obtain ⟨ad270, e270, hx270_0⟩ := Kd.at_string (HCM_.out _ (Kd.R_reads' HX_4.out).2.2) x46_2 p270 q270
              cases e270
              replace p270 := eq_true p270
              replace q270 := eq_true q270
              go_wp2_with (first | ((with_reducible refine gate_callee (f := 33) rfl ?_); refine gl (some 51) rfl Tryz.func33 #[.string (rdOf ByteArray.empty y265 x46_2), .string (⟨#[32]⟩ : ByteArray)] ?_; (with_reducible refine (strings_Split.calls (rdOf ByteArray.empty y265 x46_2) (⟨#[32]⟩ : ByteArray) t271 _ ?side1 A34.out).mono ?_); (case side1 => exact ⟨TabOk.step TB0.out bl⟩); rintro e w36 ⟨v272, rfl, ho0, hb⟩; refine ⟨_, rfl, ?_⟩; replace HX_4 := Aside0.mk (Kd.R_below (up HX_4.out) hb); replace HO_257000 := mk (Kd.S_below (by (with_reducible repeat (first | apply Kd.S_alloc | apply Kd.S_drewN | apply Kd.S_drew)); exact HO_257000.out) hb); have HO273 := mk (Kd.R_lower ho0 (below_size bl)); replace BK252 := wb BK252 hb; replace BK256 := wb BK256 hb; replace HB := wh hb; (try clear hb); (try clear hb2); (try clear hk); (try clear hi); (try clear ho0); obtain ⟨Ao37, co37, eo37⟩ := Kd.R_slice HO273.out; subst eo37; have hnb38 := NB256_252.out; have hnc38 := NB252_256.out; obtain ⟨hcz39_0, hfz39_0⟩ := bz1 BK256; obtain ⟨Ao40, co40, eo40⟩ := Kd.S_slice HO_257000.out; subst eo40))
              go_loopg [61] k2 (fun kq v61 w' => ∃ (x61_3 : Int) (x257000_3 : List (S58)) (u257000 : Value), v61 = .int .i64 x61_3 ∧ Aside0 (impl_ParseTable.l2 kq a0 y265 (y265.length : Int) x46_2 t271 (t271.length : Int) x61_3 x257000_3 = some (r1, r2)) ∧ Aside0 (kq ≤ k2) ∧ Aside0 (Kd.R Kd.string 9 w' w.heap.size (fun _ => True) (.slice (some ad257) t253.length co12) t253) ∧ Aside0 (Kd.R Kd.string 9 w' w.heap.size (fun _ => True) (.slice Ao37 t271.length co37) t271) ∧ Aside0 (Kd.S k58 58 w' w.heap.size (fun _ => True) u257000 x257000_3) ∧ Aside0 (w'.heap[gb252]? = some (.cells #[(.slice none 0 0)] 26 (0, 0))) ∧ Aside0 (w'.heap[gb256]? = some (.cells #[u257000] 26 (0, 0))) ∧ Aside0 (Below w.heap.size w w'))
              case atStart => exact ⟨(0), (x257000_2), (.slice Ao40 x257000_2.length co40), (by first | rfl | (simp; done) | (simp [*]; done)), H', ⟨Nat.le_refl _⟩, ⟨(up HX_4.out)⟩, ⟨up HO273.out⟩, ⟨by (with_reducible repeat (first | apply Kd.S_alloc | apply Kd.S_drewN | apply Kd.S_drew)); exact HO_257000.out⟩, ⟨ub BK252.out⟩, ⟨ub BK256.out⟩, ⟨bl⟩⟩
              case round =>
               clear H'
               try clear c1
               try clear c2
               try clear p2
               try clear q2
               try clear hx2
               try clear qi2
               try clear c3
               try clear c3b0
               try clear c3b1
               try clear q3
               try clear p6
               try clear c7
               try clear c8
               try clear c8b0
               try clear c8b1
               try clear c14
               try clear c18
               try clear c18b0
               try clear c19
               try clear c19b0
               try clear c20
               try clear c20b0
               try clear c21
               try clear c22
               try clear p25
               try clear q25
               try clear hx25
               try clear qi25
               try clear p26
               try clear q26
               try clear hx26
               try clear p27
               try clear q27
               try clear hx27
               try clear c28
               try clear c28b0
               try clear c28b1
               try clear c29
               try clear c29b0
               try clear c29b1
               try clear c30
               try clear q30
               try clear c31
               try clear c31b0
               try clear c32
               try clear c32b0
               try clear c33
               try clear c33b0
               try clear c35
               try clear c35b0
               try clear c35b1
               try clear c35b2
               try clear c38
               try clear hcz15_0
               try clear hcz23_0
               try clear hcz26_0
               try clear hcz39_0
               try clear hcz7_0
               try clear hfz15_0
               try clear hfz23_0
               try clear hfz26_0
               try clear hfz39_0
               try clear hfz7_0
               try clear hx257_0
               try clear hx261_0
               try clear hx270_0
               try clear p2
               try clear p25
               try clear p257
               try clear p26
               try clear p261
               try clear p270
               try clear p6
               try clear q2
               try clear q25
               try clear q257
               try clear q26
               try clear q261
               try clear q270
               try clear q3
               try clear q30
               obtain ⟨x61_3, x257000_3, u257000, rfl, HA, HK3, HX_4, HO_59, HO_257000, BK252, BK256, HB⟩ := hrel
               cases gk with
               | zero => exact absurd HA.out (by simp [impl_ParseTable.l2])
               | succ k3 =>
                have H := HA.out
                clear HA
                simp only [impl_ParseTable.l2] at H
                by_cases c41 : x61_3 < (t271.length : Int)
                ·rw [if_pos c41] at H
                 have c41b0 : decide (x61_3 < (t271.length : Int)) = true := decide_eq_true c41
                 clear c41
                 by_cases c42 : 0 ≤ x61_3
                 ·rw [if_pos c42] at H
                  have c42b0 : decide (0 ≤ x61_3) = true := decide_eq_true c42
                  clear c42
                  by_cases c43 : x61_3 < (t271.length : Int)
                  ·rw [if_pos c43] at H
                   have c43b0 : decide (x61_3 < (t271.length : Int)) = true := decide_eq_true c43
                   clear c43
                   revert H; refine bo ?_; rintro ⟨t275, t276⟩ A44 H
                   dsimp only at H
                   by_cases c45 : x61_3 < (x257000_3.length : Int)
                   ·rw [if_pos c45] at H
                    have c45b0 : decide (x61_3 < (x257000_3.length : Int)) = true := decide_eq_true c45
                    clear c45
                    by_cases c46 : ((rd_T58 x257000_3 x61_3).f1).length < 17592186044416
                    ·rw [if_pos c46] at H
                     have LMc46 := Aside0.mk c46
                     clear c46
                     obtain ⟨y278, hy278⟩ : ∃ y_ : List Int, y_ = (((rd_T58 x257000_3 x61_3).f1) ++ [t275]) := ⟨_, rfl⟩
                     replace H : (impl_ParseTable.l2 k3 a0 y265 (y265.length : Int) x46_2 t271 (t271.length : Int) (wrap64 (x61_3 + 1)) (x257000_3.set (x61_3 : Int).toNat (⟨(rd_T58 x257000_3 x61_3).f0, y278⟩ : S58))) = some (r1, r2) := by first | (rw [hy278]; with_reducible exact H) | (have H2_ := (Option.bind_some _ _).symm.trans H; rw [hy278]; with_reducible exact H2_) | (have H2_ := (Option.bind_some _ _).symm.trans H; with_reducible exact H2_) | with_reducible exact H | (rw [hy278]; exact H) | exact H
                     have Ny278 := Aside0.mk hy278
                     clear hy278
                     obtain ⟨y281, hy281⟩ : ∃ y_ : List (S58), y_ = (x257000_3.set (x61_3 : Int).toNat (⟨(rd_T58 x257000_3 x61_3).f0, y278⟩ : S58)) := ⟨_, rfl⟩
                     replace H : (impl_ParseTable.l2 k3 a0 y265 (y265.length : Int) x46_2 t271 (t271.length : Int) (wrap64 (x61_3 + 1)) y281) = some (r1, r2) := by first | (rw [hy281]; with_reducible exact H) | (have H2_ := (Option.bind_some _ _).symm.trans H; rw [hy281]; with_reducible exact H2_) | (have H2_ := (Option.bind_some _ _).symm.trans H; with_reducible exact H2_) | with_reducible exact H | (rw [hy281]; exact H) | exact H
                     have Ny281 := Aside0.mk hy281
                     clear hy281
                     have H' := Aside0.mk H
                     clear H
                     have p274 : 0 ≤ (x61_3 : Int) := dt
                     have q274 : x61_3 < (t271.length : Int) := dt
                     obtain ⟨ad274, e274, hx274_0⟩ := Kd.at_string (Kd.R_reads' HO_59.out).2.2 x61_3 p274 q274
                     cases e274
                     replace p274 := eq_true p274
                     replace q274 := eq_true q274
                     try go_wp2_with (first | ((with_reducible refine gate_callee (f := 34) rfl ?_); refine gl (some 68) rfl Tryz.func34 #[.string (rdOf ByteArray.empty t271 x61_3)] ?_; (with_reducible refine (impl_ParseInt.calls (rdOf ByteArray.empty t271 x61_3) t275 t276 _ ?side1 A44.out).mono ?_); (case side1 => exact ⟨TabOk.step TB0.out bl⟩); rintro e w48 ⟨rfl, hb⟩; refine ⟨_, rfl, ?_⟩; replace HX_4 := Aside0.mk (Kd.R_below (up HX_4.out) hb); replace HO_59 := mk (Kd.R_below (up HO_59.out) hb); replace HO_257000 := mk (Kd.S_below (by (with_reducible repeat (first | apply Kd.S_alloc | apply Kd.S_drewN | apply Kd.S_drew)); exact HO_257000.out) hb); replace BK252 := wb BK252 hb; replace BK256 := wb BK256 hb; replace HB := wh hb; (try clear hb); (try clear hb2); (try clear hk); (try clear hi)))
                     replace HX_4 := Aside0.mk (Kd.R_drew HX_4.out)
                     replace HO_59 := mk (Kd.R_drew HO_59.out)
                     replace HO_257000 := mk (Kd.S_drew HO_257000.out)
                     replace BK252 := wd BK252
                     replace BK256 := wd BK256
                     replace HB := mk (below_drew1 HB.out)
                     obtain ⟨Ao50, co50, eo50⟩ := Kd.S_slice HO_257000.out
                     (first | subst eo50 | (injection eo50 with f1_ f2_ f3_; have f4_ := f1_.symm; have f5_ := f3_.symm; clear f1_ f2_ f3_; subst f4_; subst f5_))
                     have p277 : 0 ≤ (x61_3 : Int) := dt
                     have q277 : x61_3 < (x257000_3.length : Int) := dt
                     obtain ⟨ad277, A277_1, c277_1, e277, hx277_0, hx277_1, hl277_1, hi277_1⟩ := at_T58 (Kd.S_reads' HO_257000.out).2.2 x61_3 p277 q277
                     cases e277
                     obtain ⟨ce277, hce277, hMe277, hcc277⟩ := Kd.S_get HO_257000.out z58 x61_3 p277 (by first | exact q277 | exact dt | (have e_ := (Kd.S_reads' HO_257000.out).1; omega))
                     obtain ⟨ve277_1, rfl, ge277_1⟩ := k58_openM hMe277
                     have hv277_1 := hcc277 1 _ rfl
                     rw [add_field _ _ 1 (by omega)] at hv277_1
                     replace hv277_1 := Option.some.inj (hv277_1.symm.trans hx277_1)
                     rw [hv277_1] at ge277_1
                     have HL277_1 := Aside0.mk (show Kd.R (Kd.int .i64) 3 _ _ _ _ ((rd_T58 x257000_3 x61_3).f1) from ge277_1)
                     clear hv277_1 ge277_1
                     have HX277_1 := Aside0.mk hx277_1
                     clear hcc277 hce277
                     have HR277_1 := Aside0.mk hi277_1
                     have HC277_1 := Aside0.mk hl277_1
                     clear hi277_1 hl277_1
                     replace p277 := eq_true p277
                     replace q277 := eq_true q277
                     obtain ⟨go51, co51, eo51, gb51, gl51, cl51, HG51⟩ := Kd.S_form HO_257000.out (by have h_ : (x61_3 : Int) < ((x257000_3.length : Int) : Int) := dt; have h2_ : 0 ≤ (x61_3 : Int) := dt; omega)
                     (first | cases eo51 | (injection eo51 with ea_ en_ ec_; (first | subst ea_ | (injection ea_ with ea_; subst ea_)); subst ec_; clear en_))
                     have GB51 := Aside0.mk gb51
                     have GG51 := Aside0.mk HG51
                     clear gb51 gl51 HG51
                     (first | simp only [add_plain] at hx277_0 | skip)
                     (first | simp only [add_plain] at hx277_1 | skip)
                     obtain ⟨oki51, ce51, hcl51, hM51, hcc51, _, _, hH51⟩ := Kd.S_elem HO_257000.out z58 (x61_3 : Int) dt (by have h_ : (x61_3 : Int) < ((x257000_3.length : Int) : Int) := dt; first | exact h_ | (have e_ := (Kd.S_reads' HO_257000.out).1; omega) | simpa using h_)
                     obtain ⟨ve51_1, rfl, ge51_1⟩ := k58_openM hM51
                     have hv51 := hcc51 1 _ rfl
                     have hX51 := HX277_1.out
                     (try simp only [add_plain] at hX51)
                     (try simp only [Nat.add_zero] at hv51)
                     replace hv51 := Option.some.inj (hv51.symm.trans hX51)
                     subst hv51
                     clear hX51 hcc51 hcl51
                     have UU51 := Aside0.mk (show Kd.R (Kd.int .i64) 3 _ w.heap.size oki51 (.slice A277_1 ((rd_T58 x257000_3 x61_3).f1).length c277_1) ((rd_T58 x257000_3 x61_3).f1) from ge51_1)
                     have HH51 := Aside0.mk hH51
                     have HN51 := Aside0.mk (Kd.S_reads' HO_257000.out).1
                     clear hH51 ge51_1
                     refine start_ (n := 15) (S := fun w' => w'.cell? ⟨gb256, 0, none⟩ = some (.slice (some ⟨go51, 0, none⟩) x257000_3.length co50) ∧ w'.cell? ⟨go51, ((x61_3).toNat * 2), none⟩ = some (.string ((rd_T58 x257000_3 x61_3).f0)) ∧ w'.cell? ⟨go51, ((x61_3).toNat * 2) + 1, none⟩ = some (.slice A277_1 ((rd_T58 x257000_3 x61_3).f1).length c277_1)) (ds := [14]) #[F_, F_, F_, F_, F_, F_, F_, F_, F_, F_, F_, F_, F_, F_, F_] (by kernel_rfl) rfl rfl ⟨bc BK256 0, hx277_0, hx277_1⟩ (fun hHeld => ?_); refine with_tabW impl_ParseTable.tab20 impl_ParseTable.bits20 (fun HT_ HW_ => ?_)
                     generalize w48.drew = w49 at HX_4 HO_59 HO_257000 BK252 BK256 HB GG51 HH51 HL277_1 HR277_1 HX277_1 UU51 hx277_0 hx277_1 hHeld ⊢
                     refine pu 0 71 (tf 1 14) ?_
                     refine pu 2 73 #[T_,F_,T_,F_,F_,F_,F_,F_,F_,F_,F_,F_,F_,F_,F_] ?_
                     refine pu 3 74 #[T_,F_,T_,T_,F_,F_,F_,F_,F_,F_,F_,F_,F_,F_,F_] ?_
                     refine pu 5 76 #[T_,F_,T_,T_,F_,T_,F_,F_,F_,F_,F_,F_,F_,F_,F_] ?_
                     refine pu 9 80 #[T_,F_,T_,T_,F_,T_,F_,F_,F_,T_,F_,F_,F_,F_,F_] ?_
                     refine tk 1 72 #[T_,T_,T_,T_,F_,T_,F_,F_,F_,T_,F_,F_,F_,F_,F_] hHeld ?_
                     refine tk 4 75 #[T_,T_,T_,T_,T_,T_,F_,F_,F_,T_,F_,F_,F_,F_,F_] hHeld ?_
                     refine pu 6 77 #[T_,T_,T_,T_,T_,T_,T_,F_,F_,T_,F_,F_,F_,F_,F_] ?_
                     refine pu 7 78 #[T_,T_,T_,T_,T_,T_,T_,T_,F_,T_,F_,F_,F_,F_,F_] ?_
                     refine tk 8 79 (tf 10 5) hHeld ?_
                     refine on 10 81 (tf 11 4) (fun K hK => ?_)
                     refine value_ (w1 := ?_) (v := ?_) (by rfl) rfl ?_ ?_
                     rotate_left 2
                     ·go_simp
                      constructor
                      ·rfl
                      ·rfl
                     refine hK.out _ _ ⟨(blk_cell (blk_alloc BK256.out _) 0).trans rfl, (World.cell?_alloc_lt _ _ _ (World.block_lt_of_cell? _ _ (hHeld.2.1))).trans (hHeld.2.1), (World.cell?_alloc_lt _ _ _ (World.block_lt_of_cell? _ _ (hHeld.2.2))).trans (hHeld.2.2)⟩ (fun hHeld => ?_)
                     clear hK K
                     refine nm 81 ?_
                     refine on 11 82 (tf 12 3) (fun K hK => ?_)
                     refine Kd.R_append_step (Kd.int .i64) (w0 := w) w.heap.size (by rfl) (.tmp 79) (.tmp 81) 47 3 (.int .i64 0) 8 rfl Tryz.underlying47 info3 rfl (by decide) (by omega) (.slice A277_1 ((rd_T58 x257000_3 x61_3).f1).length c277_1) ((rd_T58 x257000_3 x61_3).f1) t275 [.int .i64 t275] (fun k_ => oki51 k_ ∨ ((fun _ => True)) k_ ∧ w49.heap.size ≤ k_) (fun _ => False) rfl rfl ?aP (fun _ hk => hk.elim) ?aF ?aO ?aB ?aS ?aL ?_
                     (case aP => exact rfl)
                     (case aB => exact bl)
                     (case aF => exact (fun k_ hk => .inr ⟨trivial, hk⟩))
                     (case aO => exact (by exact up (Kd.R_mono UU51.out (fun _ hk => .inl hk))))
                     (case aS => exact (below_size bl))
                     (case aL => have := LMc46.out; omega)
                     intro v279 w52 ho hb hg hat
                     (first | have HS1_ := cell_grown hg (hHeld.2.1) (by first | (rw [add_block]; exact (fun e_ => ((HL277_1.out.1 _ e_.symm).2) rfl)) | (show some (Addr.add _ _).block ≠ _; rw [add_block]; exact (fun e_ => ((HL277_1.out.1 _ e_.symm).2) rfl)) | exact (fun e_ => ((HL277_1.out.1 _ e_.symm).2) rfl)) | have HS1_ := cell_grown hg (cell_unalloc (hHeld.2.1) (by first | (rw [add_block]; exact Kd.S_lt HO_257000.out _ rfl) | (show (Addr.add _ _).block < _; rw [add_block]; exact Kd.S_lt HO_257000.out _ rfl) | exact Kd.S_lt HO_257000.out _ rfl)) (by first | (rw [add_block]; exact (fun e_ => ((HL277_1.out.1 _ e_.symm).2) rfl)) | (show some (Addr.add _ _).block ≠ _; rw [add_block]; exact (fun e_ => ((HL277_1.out.1 _ e_.symm).2) rfl)) | exact (fun e_ => ((HL277_1.out.1 _ e_.symm).2) rfl)))
                     (first | have HS2_ := cell_grown hg (hHeld.2.2) (by first | (rw [add_block]; exact (fun e_ => ((HL277_1.out.1 _ e_.symm).2) rfl)) | (show some (Addr.add _ _).block ≠ _; rw [add_block]; exact (fun e_ => ((HL277_1.out.1 _ e_.symm).2) rfl)) | exact (fun e_ => ((HL277_1.out.1 _ e_.symm).2) rfl)) | have HS2_ := cell_grown hg (cell_unalloc (hHeld.2.2) (by first | (rw [add_block]; exact Kd.S_lt HO_257000.out _ rfl) | (show (Addr.add _ _).block < _; rw [add_block]; exact Kd.S_lt HO_257000.out _ rfl) | exact Kd.S_lt HO_257000.out _ rfl)) (by first | (rw [add_block]; exact (fun e_ => ((HL277_1.out.1 _ e_.symm).2) rfl)) | (show some (Addr.add _ _).block ≠ _; rw [add_block]; exact (fun e_ => ((HL277_1.out.1 _ e_.symm).2) rfl)) | exact (fun e_ => ((HL277_1.out.1 _ e_.symm).2) rfl)))
                     rw [← Ny278.out] at ho
                     replace HX_4 := Aside0.mk (Kd.R_over' (v := (.slice A277_1 ((rd_T58 x257000_3 x61_3).f1).length c277_1)) (up HX_4.out) (Kd.R_typed HL277_1.out) (by decide) hg)
                     replace HO_59 := mk (Kd.R_over' (v := (.slice A277_1 ((rd_T58 x257000_3 x61_3).f1).length c277_1)) (up HO_59.out) (Kd.R_typed HL277_1.out) (by decide) hg)
                     replace BK252 := mk (blk_grown (g := gb252) (o := .cells #[.slice none 0 0] 26 (0, 0)) (ub BK252.out) hg (Kd.R_ne HL277_1.out BK252.out (by decide)))
                     replace BK256 := mk (blk_grown (g := gb256) (o := .cells #[.slice (some ⟨go51, 0, none⟩) x257000_3.length co50] 26 (0, 0)) (ub BK256.out) hg (Kd.R_ne HL277_1.out BK256.out (by decide)))
                     replace HB := mk hb
                     replace HH51 := mk (Kd.H_grown (Kd.H_widen (by repeat (first | exact HH51.out | refine Kd.H_alloc ?_ _ | refine Kd.H_drewN ?_ _ | refine Kd.H_drew ?_))) hg (fun k_ e_ => .inl (UU51.out.1 k_ e_)))
                     have HO280 := mk ho
                     clear HO_257000 UU51 HL277_1
                     clear ho hb hg hat
                     have p47 : 0 ≤ (x61_3 : Int) := dt
                     have q47 : (x61_3 : Int) < ((x257000_3.length : Int) : Int) := dt
                     replace p47 := eq_true p47
                     replace q47 := eq_true q47
                     obtain ⟨Ao55, co55, eo55⟩ := Kd.R_slice HO280.out
                     (first | subst eo55 | (injection eo55 with f1_ f2_ f3_; have f4_ := f1_.symm; have f5_ := f3_.symm; clear f1_ f2_ f3_; subst f4_; subst f5_))
                     obtain ⟨_, _, hraw53, _, _, hcc53, _⟩ := Kd.H_raw HH51.out dt (by have h_ : (x61_3 : Int) < ((x257000_3.length : Int) : Int) := dt; first | exact h_ | (have e_ := (HN51.out); omega) | simpa using h_)
                     obtain ⟨_, hfr53⟩ := Kd.H_at HH51.out dt (by have h_ : (x61_3 : Int) < ((x257000_3.length : Int) : Int) := dt; first | exact h_ | (have e_ := (HN51.out); omega) | simpa using h_)
                     have hx53_0 := hcc53 1 _ rfl
                     have hf53_0 := hfr53 1
                     (try rw [show (k58).sz = 2 from rfl] at hx53_0)
                     (try rw [show (k58).sz = 2 from rfl] at hf53_0)
                     have HP53 := Kd.S_seg0 HH51.out dt (by have h_ : (x61_3 : Int) < ((x257000_3.length : Int) : Int) := dt; first | exact h_ | (have e_ := (HN51.out); omega) | simpa using h_) (seg := [.slice Ao55 y278.length co55]) (j := 1) (show 2 ≤ 2 from by decide) (x' := (⟨(rd_T58 x257000_3 x61_3).f0, y278⟩ : S58)) (k58_mkM _ _ _ (⟨(rd_T58 x257000_3 x61_3).f0, y278⟩ : S58) HO280.out) (fun _ hk => hk)
                     clear hcc53 hfr53
                     have HNB252_go51 := Aside0.mk (show gb252 ≠ go51 from by have h_ := Kd.R_ne hraw53 BK252.out (by decide); intro e_; exact h_ (by rw [e_]; rfl))
                     have HNB256_go51 := Aside0.mk (show gb256 ≠ go51 from by have h_ := Kd.R_ne hraw53 BK256.out (by decide); intro e_; exact h_ (by rw [e_]; rfl))
                     have HS53 := HP53.1
                     rw [← Ny281.out] at HS53
                     have HQ53 := Aside0.mk HS53
                     obtain ⟨_, hgg53⟩ := Kd.R_typed hraw53 go51 rfl
                     have GG53_ := Aside0.mk hgg53
                     clear HP53 HS53 hgg53
                     refine hK.out _ _ ⟨bc BK256 0, HS1_, HS2_⟩ (fun hHeld => ?_)
                     clear hK K
                     refine nm 82 ?_
                     refine pu 12 83 (tf 13 2) ?_
                     refine pu 13 84 (tf 14 1) ?_
                     refine last_ (i := 14) (N := none) #[T_, T_, T_, T_, T_, T_, T_, T_, T_, T_, T_, T_, T_, T_, T_] rfl rfl (one_of HT_.out (by kernel_rfl)) (by decide) (fun K hK => ?_)
                     refine skip_ (w1 := ?_) (by rfl) rfl ?_ ?_
                     rotate_left
                     ·go_simp
                      rfl
                     refine hK.out _ _ ?_
                     clear hK K
                     refine done_ (done_of HT_.out (by kernel_rfl)) ?_
                     try go_wp2
                     go_roundg k3
                     case measure => have := HK1.out; have := HK2.out; have := HK3.out; omega
                     case rel => exact ⟨(wrap64 (x61_3 + 1)), (y281), (.slice (some ⟨go51, 0, none⟩) x257000_3.length co50), (by first | rfl | (simp; done) | (simp [*]; done)), H', ⟨by have := HK1.out; have := HK2.out; have := HK3.out; omega⟩, ⟨by exact up (Kd.R_mono (Kd.R_far (p := ⟨go51, (x61_3 : Int).toNat * 2 + 1, none⟩) (Kd.R_types HX_4.out GG53_.out (by decide)) (fun _ hk => hk.2) (.slice Ao55 y278.length co55)) (fun _ hk => trivial))⟩, ⟨by exact up (Kd.R_mono (Kd.R_far (p := ⟨go51, (x61_3 : Int).toNat * 2 + 1, none⟩) (Kd.R_types HO_59.out GG53_.out (by decide)) (fun _ hk => hk.2) (.slice Ao55 y278.length co55)) (fun _ hk => trivial))⟩, ⟨by (with_reducible repeat (first | apply Kd.S_alloc | apply Kd.S_drewN | apply Kd.S_drew)); exact HQ53.out⟩, ⟨by (with_reducible repeat (first | refine blk_drewN ?_ _ | refine blk_drew ?_ | refine blk_alloc ?_ _)); refine blk_far ?_ HNB252_go51.out _; (with_reducible repeat (first | refine blk_drewN ?_ _ | refine blk_drew ?_ | refine blk_alloc ?_ _)); exact BK252.out⟩, ⟨by (with_reducible repeat (first | refine blk_drewN ?_ _ | refine blk_drew ?_ | refine blk_alloc ?_ _)); refine blk_far ?_ HNB256_go51.out _; (with_reducible repeat (first | refine blk_drewN ?_ _ | refine blk_drew ?_ | refine blk_alloc ?_ _)); exact BK256.out⟩, ⟨by repeat (first | (with_reducible first | exact HB.out | apply below_alloc | apply pw_below_drewN | apply below_drew1 | refine below_set ?_ GB51.out | refine below_set ?_ GE252.out | refine below_set ?_ GE256.out) | exact HB.out)⟩⟩
                    ·rw [if_neg c46] at H
                     exact absurd H (by simp)
                   ·rw [if_neg c45] at H
                    exact absurd H (by simp)
                  ·rw [if_neg c43] at H
                   exact absurd H (by simp)
                 ·rw [if_neg c42] at H
                  exact absurd H (by simp)
                ·rw [if_neg c41] at H
                 have c41b0 : decide (x61_3 < (t271.length : Int)) = false := decide_eq_false c41
                 clear c41
                 have H' := Aside0.mk H
                 clear H
                 go_wp2
                 go_roundg k3
                 case measure => have := HK1.out; have := HK2.out; have := HK3.out; omega
                 case rel => exact ⟨(wrap64 (x46_2 + 1)), (x257000_3), (u257000), (by first | rfl | (simp; done) | (simp [*]; done)), H', ⟨by have := HK1.out; have := HK2.out; have := HK3.out; omega⟩, ⟨(up HX_4.out)⟩, ⟨by (with_reducible repeat (first | apply Kd.S_alloc | apply Kd.S_drewN | apply Kd.S_drew)); exact HO_257000.out⟩, ⟨ub BK252.out⟩, ⟨ub BK256.out⟩, ⟨bl⟩⟩
             ·rw [if_neg c35] at H
              have c35b0 : ((t271.length : Int) == (x257000_2.length : Int)) = false := beq_eq_false_iff_ne.mpr c35
              have c35b1 : ((t271.length : Int) != (x257000_2.length : Int)) = true := bne_iff_ne.mpr c35
              have c35b2 : (t271.length == x257000_2.length) = false := by first | simpa using c35 | (simp at c35 ⊢; omega)
              simp only [Option.some.injEq, Prod.mk.injEq] at H
              obtain ⟨rfl, rfl⟩ := H
              have p270 : 0 ≤ (x46_2 : Int) := dt
              have q270 : x46_2 < (y265.length : Int) := dt
              obtain ⟨ad270, e270, hx270_0⟩ := Kd.at_string (HCM_.out _ (Kd.R_reads' HX_4.out).2.2) x46_2 p270 q270
              cases e270
              replace p270 := eq_true p270
              replace q270 := eq_true q270
              go_wp2_with (first | ((with_reducible refine gate_callee (f := 33) rfl ?_); refine gl (some 51) rfl Tryz.func33 #[.string (rdOf ByteArray.empty y265 x46_2), .string (⟨#[32]⟩ : ByteArray)] ?_; (with_reducible refine (strings_Split.calls (rdOf ByteArray.empty y265 x46_2) (⟨#[32]⟩ : ByteArray) t271 _ ?side1 A34.out).mono ?_); (case side1 => exact ⟨TabOk.step TB0.out bl⟩); rintro e w56 ⟨v272, rfl, ho0, hb⟩; refine ⟨_, rfl, ?_⟩; replace HX_4 := Aside0.mk (Kd.R_below (up HX_4.out) hb); replace HO_257000 := mk (Kd.S_below (by (with_reducible repeat (first | apply Kd.S_alloc | apply Kd.S_drewN | apply Kd.S_drew)); exact HO_257000.out) hb); have HO273 := mk (Kd.R_lower ho0 (below_size bl)); replace BK252 := wb BK252 hb; replace BK256 := wb BK256 hb; replace HB := wh hb; (try clear hb); (try clear hb2); (try clear hk); (try clear hi); (try clear ho0); obtain ⟨Ao57, co57, eo57⟩ := Kd.R_slice HO273.out; subst eo57; have hnb58 := NB256_252.out; have hnc58 := NB252_256.out; obtain ⟨hcz59_0, hfz59_0⟩ := bz1 BK256; obtain ⟨Ao60, co60, eo60⟩ := Kd.S_slice HO_257000.out; subst eo60; obtain ⟨hcz61_0, hfz61_0⟩ := bz1 BK252))
              refine bodyPost_ret (results_ct rfl _ _ gb252 26 #[.slice none 0 0] (0, 0) _ rfl bq Tryz.underlying26 rfl (by kernel_rfl)) rfl ?_
              exact ⟨_, by first | rfl | (simp [errW_none, errW_some] <;> rfl) | (simp only [← hji27]; first | rfl | (simp [errW_none, errW_some] <;> rfl)) | (simp [*, errW_none, errW_some] <;> rfl), by first | exact Kd.S_nil _ _ _ _ _ | exact Kd.N_nil _ _ _ _ _ | exact Kd.V_nil _ _ _ _ _ | exact Kd.Q_nil _ _ _ _ _ | exact Kd.R_nil _ _ _ _ _, bl⟩
            ·rw [if_neg c33] at H
             exact absurd H (by simp)
           ·rw [if_neg c32] at H
            exact absurd H (by simp)
          ·rw [if_neg c31] at H
           have c31b0 : decide (x46_2 < (y265.length : Int)) = false := decide_eq_false c31
           clear c31
           by_cases c62 : a0.toList = ([] : List UInt8)
           ·rw [if_pos c62] at H
            have c62b0 : (a0.toList == ([] : List UInt8)) = true := beq_iff_eq.mpr c62
            have c62b1 : (a0.toList != ([] : List UInt8)) = false := bne_eq_false_iff_eq.mpr c62
            clear c62
            simp only [Option.some.injEq, Prod.mk.injEq] at H
            obtain ⟨rfl, rfl⟩ := H
            have hnb63 := NB252_256.out
            have hnc63 := NB256_252.out
            obtain ⟨hcz64_0, hfz64_0⟩ := bz1 BK252
            go_wp2
            refine bodyPost_ret (results_ct rfl _ _ gb252 26 #[.slice none 0 0] (0, 0) _ rfl bq Tryz.underlying26 rfl (by kernel_rfl)) rfl ?_
            exact ⟨_, by first | rfl | (simp [errW_none, errW_some] <;> rfl) | (simp only [← hji27]; first | rfl | (simp [errW_none, errW_some] <;> rfl)) | (simp [*, errW_none, errW_some] <;> rfl), by first | exact Kd.S_nil _ _ _ _ _ | exact Kd.N_nil _ _ _ _ _ | exact Kd.V_nil _ _ _ _ _ | exact Kd.Q_nil _ _ _ _ _ | exact Kd.R_nil _ _ _ _ _, bl⟩
           ·rw [if_neg c62] at H
            have c62b0 : (a0.toList == ([] : List UInt8)) = false := beq_eq_false_iff_ne.mpr c62
            have c62b1 : (a0.toList != ([] : List UInt8)) = true := bne_iff_ne.mpr c62
            revert H; refine bo ?_; rintro t269 A65 H
            by_cases c66 : t269.toList = a0.toList
            ·rw [if_pos c66] at H
             have c66b0 : (t269.toList == a0.toList) = true := beq_iff_eq.mpr c66
             have c66b1 : (t269.toList != a0.toList) = false := bne_eq_false_iff_eq.mpr c66
             clear c66
             simp only [Option.some.injEq, Prod.mk.injEq] at H
             obtain ⟨rfl, rfl⟩ := H
             have hnb67 := NB256_252.out
             have hnc67 := NB252_256.out
             obtain ⟨hcz68_0, hfz68_0⟩ := bz1 BK256
             obtain ⟨Ao69, co69, eo69⟩ := Kd.S_slice HO_257000.out
             subst eo69
             go_wp2_with (first | (go_at_call 6; (with_reducible refine (impl_FormatTable.calls k2 _ _ x257000_2 t269 _ ?side1 ?side2 ?side3 A65.out).mono ?_); (case side1 => exact uc (Kd.S_reads' HO_257000.out).2.2); (case side2 => exact (Kd.S_reads' HO_257000.out).2.1); (case side3 => exact ⟨TabOk.step TB0.out bl⟩); rintro e w70 ⟨rfl, hb⟩; replace HO_257000 := mk (Kd.S_below (by (with_reducible repeat (first | apply Kd.S_alloc | apply Kd.S_drewN | apply Kd.S_drew)); exact HO_257000.out) hb); replace BK252 := wb BK252 hb; replace BK256 := wb BK256 hb; replace HB := wh hb; (try clear hb); (try clear hb2); (try clear hk); (try clear hi); obtain ⟨hcz71_0, hfz71_0⟩ := bz1 BK256; obtain ⟨hcz72_0, hfz72_0⟩ := bz1 BK252))
             refine bodyPost_ret (results_ct rfl _ _ gb252 26 #[.slice Ao69 x257000_2.length co69] (0, 0) _ rfl bq Tryz.underlying26 rfl (by kernel_rfl)) rfl ?_
             exact ⟨_, by first | rfl | (simp [errW_none, errW_some] <;> rfl) | (simp only [← hji27]; first | rfl | (simp [errW_none, errW_some] <;> rfl)) | (simp [*, errW_none, errW_some] <;> rfl), by (with_reducible repeat (first | apply Kd.S_alloc | apply Kd.S_drewN | apply Kd.S_drew)); exact Kd.S_mono (Kd.S_far (p := ⟨gb252, 0, none⟩) (Kd.S_types HO_257000.out BK252.out (by decide)) (fun _ hk => hk.2) (.slice Ao69 x257000_2.length co69)) (fun _ hk => trivial), bl⟩
            ·rw [if_neg c66] at H
             have c66b0 : (t269.toList == a0.toList) = false := beq_eq_false_iff_ne.mpr c66
             have c66b1 : (t269.toList != a0.toList) = true := bne_iff_ne.mpr c66
             simp only [Option.some.injEq, Prod.mk.injEq] at H
             obtain ⟨rfl, rfl⟩ := H
             have hnb73 := NB256_252.out
             have hnc73 := NB252_256.out
             obtain ⟨hcz74_0, hfz74_0⟩ := bz1 BK256
             obtain ⟨Ao75, co75, eo75⟩ := Kd.S_slice HO_257000.out
             subst eo75
             go_wp2_with (first | (go_at_call 6; (with_reducible refine (impl_FormatTable.calls k2 _ _ x257000_2 t269 _ ?side1 ?side2 ?side3 A65.out).mono ?_); (case side1 => exact uc (Kd.S_reads' HO_257000.out).2.2); (case side2 => exact (Kd.S_reads' HO_257000.out).2.1); (case side3 => exact ⟨TabOk.step TB0.out bl⟩); rintro e w76 ⟨rfl, hb⟩; replace HO_257000 := mk (Kd.S_below (by (with_reducible repeat (first | apply Kd.S_alloc | apply Kd.S_drewN | apply Kd.S_drew)); exact HO_257000.out) hb); replace BK252 := wb BK252 hb; replace BK256 := wb BK256 hb; replace HB := wh hb; (try clear hb); (try clear hb2); (try clear hk); (try clear hi); obtain ⟨hcz77_0, hfz77_0⟩ := bz1 BK252))
             refine bodyPost_ret (results_ct rfl _ _ gb252 26 #[.slice none 0 0] (0, 0) _ rfl bq Tryz.underlying26 rfl (by kernel_rfl)) rfl ?_
             exact ⟨_, by first | rfl | (simp [errW_none, errW_some] <;> rfl) | (simp only [← hji27]; first | rfl | (simp [errW_none, errW_some] <;> rfl)) | (simp [*, errW_none, errW_some] <;> rfl), by first | exact Kd.S_nil _ _ _ _ _ | exact Kd.N_nil _ _ _ _ _ | exact Kd.V_nil _ _ _ _ _ | exact Kd.Q_nil _ _ _ _ _ | exact Kd.R_nil _ _ _ _ _, bl⟩
       ·rw [if_neg c29] at H
        exact absurd H (by simp)
      ·rw [if_neg c28] at H
       exact absurd H (by simp)
  ·rw [if_neg c8] at H
   exact absurd H (by simp)

/-! ### spec_l3Range: function 57 -/
def spec_l3Range.f (s0_0 : List Int) (s0_1 : Int) (s0_2 : Int) : Option (Int × Int × Int × Int) := (spec_l1PickInt.f s0_0 s0_1 s0_2 (([3, 10, 30, 1000] : List Int))).bind fun bt286 => ((spec_l1Below.f s0_0 bt286.2.1 bt286.2.2 bt286.1).bind fun bt289 => ((spec_l1Below.f s0_0 bt289.2.1 bt289.2.2 bt286.1).bind fun bt292 => (some (wrap64 (bt289.1 - (wrap64 (Int.tdiv bt286.1 3))), mn 1000 (wrap64 ((wrap64 (bt289.1 - (wrap64 (Int.tdiv bt286.1 3)))) + bt292.1)), bt292.2.1, bt292.2.2))))
set_option maxHeartbeats 8000000 in
set_option maxRecDepth 100000 in
theorem spec_l3Range.calls (g : Nat) (s0_0 : List Int) (s0_1 : Int) (s0_2 : Int) (r1 : Int) (r2 : Int) (r3 : Int) (r4 : Int) (w0 w : World) (hI : IsS78 w0 w g s0_0 s0_1 s0_2) (hB : Below w0.heap.size w0 w) (h : spec_l3Range.f s0_0 s0_1 s0_2 = some (r1, r2, r3, r4)) :
    Calls Tryz.prog 57 #[.pointer (some ⟨g, 0, none⟩)] w fun e w' => e = .returned (.agg #[.int .i64 r1, .int .i64 r2]) ∧ IsS78 w0 w' g s0_0 r3 r4 ∧ Below w0.heap.size w0 w' ∧ KeepBut w w' g none := by
  have hu32 := Tryz.underlying32
  have HI0 := Aside0.mk hI
  have HK := Aside0.mk (KeepBut.refl w g none)
  have HL := Aside0.mk hB.size
  clear hI
  have HW0 := Aside0.mk hB.size
  have HB := Aside0.mk hB
  clear hB
  have H : ((spec_l1PickInt.f s0_0 s0_1 s0_2 (([3, 10, 30, 1000] : List Int))).bind fun bt286 => ((spec_l1Below.f s0_0 bt286.2.1 bt286.2.2 bt286.1).bind fun bt289 => ((spec_l1Below.f s0_0 bt289.2.1 bt289.2.2 bt286.1).bind fun bt292 => (some (wrap64 (bt289.1 - (wrap64 (Int.tdiv bt286.1 3))), mn 1000 (wrap64 ((wrap64 (bt289.1 - (wrap64 (Int.tdiv bt286.1 3)))) + bt292.1)), bt292.2.1, bt292.2.2))))) = some (r1, r2, r3, r4) := h
  clear h
  obtain ⟨y283, hy283⟩ : ∃ y_ : List Int, y_ = (([3, 10, 30, 1000] : List Int)) := ⟨_, rfl⟩
  replace H : ((spec_l1PickInt.f s0_0 s0_1 s0_2 y283).bind fun bt286 => ((spec_l1Below.f s0_0 bt286.2.1 bt286.2.2 bt286.1).bind fun bt289 => ((spec_l1Below.f s0_0 bt289.2.1 bt289.2.2 bt286.1).bind fun bt292 => (some (wrap64 (bt289.1 - (wrap64 (Int.tdiv bt286.1 3))), mn 1000 (wrap64 ((wrap64 (bt289.1 - (wrap64 (Int.tdiv bt286.1 3)))) + bt292.1)), bt292.2.1, bt292.2.2))))) = some (r1, r2, r3, r4) := by first | (rw [hy283]; with_reducible exact H) | (have H2_ := (Option.bind_some _ _).symm.trans H; rw [hy283]; with_reducible exact H2_) | (have H2_ := (Option.bind_some _ _).symm.trans H; with_reducible exact H2_) | with_reducible exact H | (rw [hy283]; exact H) | exact H
  have Ny283 := Aside0.mk hy283
  clear hy283
  revert H; refine bo ?_; rintro ⟨t286, t287, t288⟩ A2 H
  dsimp only at H
  revert H; refine bo ?_; rintro ⟨t289, t290, t291⟩ A3 H
  dsimp only at H
  revert H; refine bo ?_; rintro ⟨t292, t293, t294⟩ A4 H
  dsimp only at H
  obtain ⟨ji5, hji5⟩ : ∃ j_ : Int, (mn 1000 (wrap64 ((wrap64 (t289 - (wrap64 (Int.tdiv t286 3)))) + t292))) = j_ := ⟨_, rfl⟩
  replace H : (some (wrap64 (t289 - (wrap64 (Int.tdiv t286 3))), ji5, t293, t294)) = some (r1, r2, r3, r4) := by first | (rw [hji5] at H; exact H) | (simp only [hji5] at H ⊢; exact H)
  (try rw [hji5] at A2)
  (try rw [hji5] at A3)
  (try rw [hji5] at A4)
  (try (have hji5h : ji5 ≤ 1000 := by (rw [← hji5]; unfold mn; (repeat' split) <;> omega)))
  (try (have hji5g : ji5 ≤ 64 := by omega))
  have hji5_ : (if (wrap64 ((wrap64 (t289 - (wrap64 (Int.tdiv t286 3)))) + t292)) < 1000 then (wrap64 ((wrap64 (t289 - (wrap64 (Int.tdiv t286 3)))) + t292)) else 1000) = ji5 := hji5
  simp only [Option.some.injEq, Prod.mk.injEq] at H
  obtain ⟨rfl, rfl, rfl, rfl⟩ := H
  go_enter Tryz.func57, Tryz.ntmps57
  go_wp2_with (first | ((with_reducible refine gate_dst (N := 2) rfl ?_); refine bx 2 #[.int .i64 0, .int .i64 0] 32 ?_; intro gb282 hg w6 hbox hb; replace HB := mk (below_step (by repeat (first | (with_reducible first | exact HB.out | apply below_alloc | apply pw_below_drewN | apply below_drew1 | refine below_set ?_ (IsS78.ge HI0.out)) | exact HB.out)) hb); have BK282 := mk hbox; have GW282 := mk ((by rw [hg]; exact (keep_size (w := w) (g := g) (row := none) (by repeat (first | (with_reducible first | exact HK.out | apply KeepBut.set_ | apply keep_drewN | apply keep_drew | apply keep_alloc) | exact HK.out))) : w.heap.size ≤ gb282)); have GE282 := mk ((Nat.le_trans HW0.out (by rw [hg]; exact (keep_size (w := w) (g := g) (row := none) (by repeat (first | (with_reducible first | exact HK.out | apply KeepBut.set_ | apply keep_drewN | apply keep_drew | apply keep_alloc) | exact HK.out))) : w.heap.size ≤ gb282) : w0.heap.size ≤ gb282)); replace HK := mk (KeepBut.trans (by repeat (first | (with_reducible first | exact HK.out | apply KeepBut.set_ | apply keep_drewN | apply keep_drew | apply keep_alloc) | exact HK.out)) (KeepBut.of_below hb g none) (.inl rfl)); have NB0_282 := mk ((by rw [hg]; exact Nat.ne_of_lt (IsS78.lt (show IsS78 w0 _ g s0_0 s0_1 s0_2 from by repeat (first | (with_reducible first | exact HI0.out | apply IsS78.alloc | apply IsS78.drewN | apply IsS78.drew | apply IsS78.set_1 | apply IsS78.set_2) | exact HI0.out))) : g ≠ gb282)); have NB282_0 := mk ((by rw [hg]; exact Nat.ne_of_gt (IsS78.lt (show IsS78 w0 _ g s0_0 s0_1 s0_2 from by repeat (first | (with_reducible first | exact HI0.out | apply IsS78.alloc | apply IsS78.drewN | apply IsS78.drew | apply IsS78.set_1 | apply IsS78.set_2) | exact HI0.out))) : gb282 ≠ g)); replace HI0 := mk (IsS78.below (by repeat (first | (with_reducible first | exact HI0.out | apply IsS78.alloc | apply IsS78.drewN | apply IsS78.drew | apply IsS78.set_1 | apply IsS78.set_2) | exact HI0.out)) hb); clear hb hbox hg) | ((with_reducible refine gate_dst (N := 6) rfl ?_); refine Kd.R_lit (Kd.int .i64) _ 3 ?hg (N := 6) ?hd (xs := ([3, 10, 30, 1000] : List Int)) (inner := [.int .i64 3, .int .i64 10, .int .i64 30, .int .i64 1000]) (ok := fun _ => True) (okp := fun _ => True) ?hr ?hp (fun _ hk => hk) trivial (Below.refl _ _) (Nat.le_refl _) (by simp) ?_; (case hd => rfl); (case hg => rfl); (case hr => first | (go_simp; done) | (go_simp; rfl)); (case hp => exact (Reps.one (show Kd.M (Kd.int .i64) _ _ _ 3 [.int .i64 3] from rfl) (Reps.one (show Kd.M (Kd.int .i64) _ _ _ 10 [.int .i64 10] from rfl) (Reps.one (show Kd.M (Kd.int .i64) _ _ _ 30 [.int .i64 30] from rfl) (Reps.one (show Kd.M (Kd.int .i64) _ _ _ 1000 [.int .i64 1000] from rfl) (Reps.none _ _)))))); intro v284 w7 ho8 hb hg_ hnew_; clear hg_ hnew_; (first | rw [← Ny283.out] at ho8 | (simp only [Int.reduceToNat] at ho8; rw [← Ny283.out] at ho8)); have HO285 := mk (Kd.R_lower ho8 (keep_size (w := w) (g := g) (row := none) (by repeat (first | (with_reducible first | exact HK.out | apply KeepBut.set_ | apply keep_drewN | apply keep_drew | apply keep_alloc | refine keep_far ?_ GW282.out _) | exact HK.out)))); replace BK282 := wb BK282 hb; replace HK := mk (KeepBut.trans (by repeat (first | (with_reducible first | exact HK.out | apply KeepBut.set_ | apply keep_drewN | apply keep_drew | apply keep_alloc | refine keep_far ?_ GW282.out _) | exact HK.out)) (KeepBut.of_below hb g none) (.inl rfl)); replace HB := mk (below_step (by repeat (first | (with_reducible first | exact HB.out | apply below_alloc | apply pw_below_drewN | apply below_drew1 | refine below_set ?_ (IsS78.ge HI0.out) | refine below_set ?_ GE282.out) | exact HB.out)) hb); replace HI0 := mk (IsS78.below (by repeat (first | (with_reducible first | exact HI0.out | apply IsS78.alloc | apply IsS78.drewN | apply IsS78.drew | apply IsS78.set_1 | apply IsS78.set_2 | refine IsS78.far ?_ NB0_282.out _) | exact HI0.out)) hb); clear hb ho8; obtain ⟨Ao9, co9, eo9⟩ := Kd.R_slice HO285.out; subst eo9) | ((with_reducible refine gate_callee (f := 49) rfl ?_); refine gl (some 7) rfl Tryz.func49 #[.pointer (some ⟨g, 0, none⟩), .slice Ao9 y283.length co9] ?_; (with_reducible refine (spec_l1PickInt.calls g s0_0 s0_1 s0_2 _ _ y283 t286 t287 t288 w0 _ ?side1 ?side2 ?side3 ?side4 ?side5 A2.out).mono ?_); (case side1 => exact (by repeat (first | (with_reducible first | exact HI0.out | apply IsS78.alloc | apply IsS78.drewN | apply IsS78.drew | apply IsS78.set_1 | apply IsS78.set_2 | refine IsS78.far ?_ NB0_282.out _) | exact HI0.out))); (case side2 => exact (by repeat (first | (with_reducible first | exact HB.out | apply below_alloc | apply pw_below_drewN | apply below_drew1 | refine below_set ?_ (IsS78.ge HI0.out) | refine below_set ?_ GE282.out) | exact HB.out))); (case side3 => exact uc (Kd.R_reads' HO285.out).2.2); (case side4 => exact (Kd.R_reads' HO285.out).2.1); (case side5 => exact far_slice (IsS78.own_ne HI0.out HO285.out (by decide))); rintro e w10 ⟨rfl, hi, hb, hk⟩; refine ⟨_, rfl, ?_⟩; replace BK282 := mk (KeepBut.blk hk (g' := gb282) (o := .cells #[.int .i64 0, .int .i64 0] 32 (0, 0)) (ub BK282.out) NB282_0.out (by simp)); replace HO285 := mk (Kd.R_mono (Kd.R_keep (IsS78.apart (show IsS78 w0 _ g s0_0 s0_1 s0_2 from by repeat (first | (with_reducible first | exact HI0.out | apply IsS78.alloc | apply IsS78.drewN | apply IsS78.drew | apply IsS78.set_1 | apply IsS78.set_2 | refine IsS78.far ?_ NB0_282.out _) | exact HI0.out)) (up HO285.out) (by decide)) hk (fun _ h => h.2)) (fun _ h => h.1)); replace HK := mk (KeepBut.trans (by repeat (first | (with_reducible first | exact HK.out | apply KeepBut.set_ | apply keep_drewN | apply keep_drew | apply keep_alloc | refine keep_far ?_ GW282.out _) | exact HK.out)) hk (.inl rfl)); replace HB := mk hb; replace HI0 := mk hi; (try clear hb); (try clear hb2); (try clear hk); (try clear hi)) | ((with_reducible refine gate_callee (f := 43) rfl ?_); refine gl (some 10) rfl Tryz.func43 #[.pointer (some ⟨g, 0, none⟩), .int .i64 t286] ?_; (with_reducible refine (spec_l1Below.calls g s0_0 t287 t288 t286 t289 t290 t291 w0 _ ?side1 ?side2 A3.out).mono ?_); (case side1 => exact (by repeat (first | (with_reducible first | exact HI0.out | apply IsS78.alloc | apply IsS78.drewN | apply IsS78.drew | apply IsS78.set_1 | apply IsS78.set_2 | refine IsS78.far ?_ NB0_282.out _) | exact HI0.out))); (case side2 => exact (by repeat (first | (with_reducible first | exact HB.out | apply below_alloc | apply pw_below_drewN | apply below_drew1 | refine below_set ?_ (IsS78.ge HI0.out) | refine below_set ?_ GE282.out) | exact HB.out))); rintro e w11 ⟨rfl, hi, hb, hk⟩; refine ⟨_, rfl, ?_⟩; replace BK282 := mk (KeepBut.blk hk (g' := gb282) (o := .cells #[.int .i64 0, .int .i64 0] 32 (0, 0)) (ub BK282.out) NB282_0.out (by simp)); replace HO285 := mk (Kd.R_mono (Kd.R_keep (IsS78.apart (show IsS78 w0 _ g s0_0 t287 t288 from by repeat (first | (with_reducible first | exact HI0.out | apply IsS78.alloc | apply IsS78.drewN | apply IsS78.drew | apply IsS78.set_1 | apply IsS78.set_2 | refine IsS78.far ?_ NB0_282.out _) | exact HI0.out)) (up HO285.out) (by decide)) hk (fun _ h => h.2)) (fun _ h => h.1)); replace HK := mk (KeepBut.trans (by repeat (first | (with_reducible first | exact HK.out | apply KeepBut.set_ | apply keep_drewN | apply keep_drew | apply keep_alloc | refine keep_far ?_ GW282.out _) | exact HK.out)) hk (.inl rfl)); replace HB := mk hb; replace HI0 := mk hi; (try clear hb); (try clear hb2); (try clear hk); (try clear hi)) | ((with_reducible refine gate_callee (f := 43) rfl ?_); refine gl (some 18) rfl Tryz.func43 #[.pointer (some ⟨g, 0, none⟩), .int .i64 t286] ?_; (with_reducible refine (spec_l1Below.calls g s0_0 t290 t291 t286 t292 t293 t294 w0 _ ?side1 ?side2 A4.out).mono ?_); (case side1 => exact (by repeat (first | (with_reducible first | exact HI0.out | apply IsS78.alloc | apply IsS78.drewN | apply IsS78.drew | apply IsS78.set_1 | apply IsS78.set_2 | refine IsS78.far ?_ NB0_282.out _) | exact HI0.out))); (case side2 => exact (by repeat (first | (with_reducible first | exact HB.out | apply below_alloc | apply pw_below_drewN | apply below_drew1 | refine below_set ?_ (IsS78.ge HI0.out) | refine below_set ?_ GE282.out) | exact HB.out))); rintro e w12 ⟨rfl, hi, hb, hk⟩; refine ⟨_, rfl, ?_⟩; replace BK282 := mk (KeepBut.blk hk (g' := gb282) (o := .cells #[.int .i64 0, .int .i64 0] 32 (0, 0)) (ub BK282.out) NB282_0.out (by simp)); replace HO285 := mk (Kd.R_mono (Kd.R_keep (IsS78.apart (show IsS78 w0 _ g s0_0 t290 t291 from by repeat (first | (with_reducible first | exact HI0.out | apply IsS78.alloc | apply IsS78.drewN | apply IsS78.drew | apply IsS78.set_1 | apply IsS78.set_2 | refine IsS78.far ?_ NB0_282.out _) | exact HI0.out)) (up HO285.out) (by decide)) hk (fun _ h => h.2)) (fun _ h => h.1)); replace HK := mk (KeepBut.trans (by repeat (first | (with_reducible first | exact HK.out | apply KeepBut.set_ | apply keep_drewN | apply keep_drew | apply keep_alloc | refine keep_far ?_ GW282.out _) | exact HK.out)) hk (.inl rfl)); replace HB := mk hb; replace HI0 := mk hi; (try clear hb); (try clear hb2); (try clear hk); (try clear hi); have hnb13 := NB282_0.out; have hnc13 := NB0_282.out; obtain ⟨hcz14_0, hcz14_1, hfz14_0, hfz14_1⟩ := bz2 BK282))
  refine bodyPost_ret (results_cell_row rfl _ _ gb282 32 #[.int .i64 (wrap64 (t289 - (wrap64 (Int.tdiv t286 3)))), .int .i64 ji5] (0, 0) _ rfl bq Tryz.underlying32 rfl (by kernel_rfl)) rfl ?_
  exact ⟨by first | rfl | (simp [errW_none, errW_some] <;> rfl) | (simp only [← hji5]; first | rfl | (simp [errW_none, errW_some] <;> rfl)) | (simp [*, errW_none, errW_some] <;> rfl), by repeat (first | (with_reducible first | exact HI0.out | apply IsS78.alloc | apply IsS78.drewN | apply IsS78.drew | apply IsS78.set_1 | apply IsS78.set_2 | refine IsS78.far ?_ NB0_282.out _) | exact HI0.out), by repeat (first | (with_reducible first | exact HB.out | apply below_alloc | apply pw_below_drewN | apply below_drew1 | refine below_set ?_ (IsS78.ge HI0.out) | refine below_set ?_ GE282.out) | exact HB.out), by repeat (first | (with_reducible first | exact HK.out | apply KeepBut.set_ | apply keep_drewN | apply keep_drew | apply keep_alloc | refine keep_far ?_ GW282.out _) | exact HK.out)⟩

end Go.Proofs.YtfjanffppobheaaGreatDoor.PFnTexts
