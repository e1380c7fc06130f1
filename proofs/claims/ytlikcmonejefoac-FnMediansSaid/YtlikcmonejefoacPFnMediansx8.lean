-- printed by a program of this session, a turned copy of the print of the kit
import Derived.Test.YtlikcmonejefoacSq
import Derived.Test.YtlikcmonejefoacPFnMediansx0
import Derived.Test.YtlikcmonejefoacPFnMediansx2
import Derived.Test.YtlikcmonejefoacPFnMediansx3
import Derived.Test.YtlikcmonejefoacPFnMediansx6
namespace Go.Proofs.Ytlikcmonejefoac.PFnMedians
open Go.RowKit Go.Proofs.YtlikcmonejefoacW.PrintWords Go.Proofs.YtlikcmonejefoacW.PrintLast Go.Proofs.YtlikcmonejefoacW.PrintMore Go.Proofs.Ytlikcmonejefoac.Sq
attribute [local go_sem] max2_int min2_int max_two min_two max_three min_three max_four min_four Giv.cell_twice   -- for this text's walks alone
set_option linter.unusedVariables false
set_option linter.unusedSimpArgs false

/-! ### spec_ApplySwaps: function 96 -/
mutual
def spec_ApplySwaps.l0 : Nat → List (S134) → Int → List Int → List Int → List (S90) → List Int → List Int → List (S90) → Option (List Int × List Int × (List (S90)) × Bool)
 | 0, _, _, _, _, _, _, _, _ => none
 | k + 1, x1, x7, x244000, x244001, x244002, x255000, x255001, x255002 => if x7 < (x1.length : Int) then (if 0 ≤ x7 then ((spec_l1In.f ((rd_T134 x1 x7).f0) 0 (wrap64 ((x255000.length : Int) - 1))).bind fun t257 => (if t257 = true then ((spec_l1In.f ((rd_T134 x1 x7).f1) 0 (wrap64 ((x255000.length : Int) - 1))).bind fun t258 => (spec_ApplySwaps.j1 k x1 x7 ((rd_T134 x1 x7).f0) ((rd_T134 x1 x7).f1) (!t258) x244000 x244001 x244002 x255000 x255001 x255002)) else (spec_ApplySwaps.j1 k x1 x7 ((rd_T134 x1 x7).f0) ((rd_T134 x1 x7).f1) true x244000 x244001 x244002 x255000 x255001 x255002))) else (none)) else (some (x255000, x255001, x255002, true))
def spec_ApplySwaps.j1 : Nat → List (S134) → Int → Int → Int → Bool → List Int → List Int → List (S90) → List Int → List Int → List (S90) → Option (List Int × List Int × (List (S90)) × Bool)
 | 0, _, _, _, _, _, _, _, _, _, _, _ => none
 | k + 1, x1, x7, x8, x9, x51, x244000, x244001, x244002, x255000, x255001, x255002 => if x51 = true then ((spec_l4Copy.f x244000 x244001 x244002).bind fun bt259 => (some (bt259.1, bt259.2.1, bt259.2.2, false))) else ((spec_l5Swap.f x255000 x8 x9).bind fun t268 => ((spec_l5Swap.f x255001 x8 x9).bind fun t269 => (spec_ApplySwaps.l0 k x1 (wrap64 (x7 + 1)) x244000 x244001 x244002 t268 t269 x255002)))
end
def spec_ApplySwaps.f (k : Nat) (l0_0 : List Int) (l0_1 : List Int) (l0_2 : List (S90)) (l1 : List (S134)) : Option (List Int × List Int × (List (S90)) × Bool) := (spec_l4Copy.f l0_0 l0_1 l0_2).bind fun bt245 => (if (bt245.2.1.length : Int) = (bt245.1.length : Int) then (spec_ApplySwaps.l0 k l1 0 l0_0 l0_1 l0_2 bt245.1 bt245.2.1 bt245.2.2) else (some (bt245.1, bt245.2.1, bt245.2.2, false)))
theorem spec_ApplySwaps.mono_l : ∀ k, (∀ y0 y1 y2 y3 y4 y5 y6 y7, LeO (spec_ApplySwaps.l0 k y0 y1 y2 y3 y4 y5 y6 y7) (spec_ApplySwaps.l0 (k + 1) y0 y1 y2 y3 y4 y5 y6 y7)) ∧ (∀ y0 y1 y2 y3 y4 y5 y6 y7 y8 y9 y10, LeO (spec_ApplySwaps.j1 k y0 y1 y2 y3 y4 y5 y6 y7 y8 y9 y10) (spec_ApplySwaps.j1 (k + 1) y0 y1 y2 y3 y4 y5 y6 y7 y8 y9 y10))
 | 0 => ⟨fun _ _ _ _ _ _ _ _ r h => by simp [spec_ApplySwaps.l0] at h, fun _ _ _ _ _ _ _ _ _ _ _ r h => by simp [spec_ApplySwaps.j1] at h⟩
 | k + 1 => by
  obtain ⟨ih0, ih1⟩ := spec_ApplySwaps.mono_l k
  refine ⟨?_, ?_⟩
  ·intro y0 y1 y2 y3 y4 y5 y6 y7
   unfold spec_ApplySwaps.l0
   exact mo
  ·intro y0 y1 y2 y3 y4 y5 y6 y7 y8 y9 y10
   unfold spec_ApplySwaps.j1
   exact mo
theorem spec_ApplySwaps.mono : ∀ a0 a1 a2 a3 k, LeO (spec_ApplySwaps.f k a0 a1 a2 a3) (spec_ApplySwaps.f (k + 1) a0 a1 a2 a3) := by
 intro a0 a1 a2 a3 k
 obtain ⟨ih0, ih1⟩ := spec_ApplySwaps.mono_l k
 unfold spec_ApplySwaps.f
 exact mo
instance spec_ApplySwaps.mi (a0 a1 a2 a3 k) : LeC (spec_ApplySwaps.f k a0 a1 a2 a3) (spec_ApplySwaps.f (k + 1) a0 a1 a2 a3) := ⟨spec_ApplySwaps.mono a0 a1 a2 a3 k⟩
set_option maxHeartbeats 8000000 in
set_option maxRecDepth 100000 in
theorem spec_ApplySwaps.calls (k : Nat) (A0_0 : Option Addr) (c0_0 : Nat) (l0_0 : List Int) (A0_1 : Option Addr) (c0_1 : Nat) (l0_1 : List Int) (A0_2 : Option Addr) (c0_2 : Nat) (l0_2 : List (S90)) (A1 : Option Addr) (c1 : Nat) (l1 : List (S134)) (r1 : List Int) (r2 : List Int) (r3 : List (S90)) (r4 : Bool) (w : World) (hr0_0 : Kd.C (Kd.int .i64) w A0_0 l0_0.length l0_0) (hc0_0 : l0_0.length ≤ c0_0) (hr0_1 : Kd.C (Kd.int .i64) w A0_1 l0_1.length l0_1) (hc0_1 : l0_1.length ≤ c0_1) (hr0_2 : Kd.C k90 w A0_2 l0_2.length l0_2) (hc0_2 : l0_2.length ≤ c0_2) (hr1 : Kd.C k134 w A1 l1.length l1) (hc1 : l1.length ≤ c1) (h : spec_ApplySwaps.f k l0_0 l0_1 l0_2 l1 = some (r1, r2, r3, r4)) :
  Calls Try.prog 96 #[.agg #[.slice A0_0 l0_0.length c0_0, .slice A0_1 l0_1.length c0_1, .slice A0_2 l0_2.length c0_2], .slice A1 l1.length c1] w fun e w' => ∃ v0_ v1_ v2_ : Value, e = .returned (.tuple #[.agg #[v0_, v1_, v2_], .bool r4]) ∧ Kd.R (Kd.int .i64) 3 w' w.heap.size (fun k_ => some k_ ≠ (v1_ : Value).ownBlock) v0_ r1 ∧ Kd.R (Kd.int .i64) 3 w' w.heap.size (fun k_ => some k_ ≠ (v0_ : Value).ownBlock) v1_ r2 ∧ Kd.R k90 90 w' w.heap.size (fun _ => True) v2_ r3 ∧ Below w.heap.size w w' := by
 have hu45 := Try.underlying45
 have HR0_0 := Aside0.mk hr0_0
 have HC0_0 := Aside0.mk hc0_0
 clear hr0_0 hc0_0
 have HR0_1 := Aside0.mk hr0_1
 have HC0_1 := Aside0.mk hc0_1
 clear hr0_1 hc0_1
 have HR0_2 := Aside0.mk hr0_2
 have HC0_2 := Aside0.mk hc0_2
 clear hr0_2 hc0_2
 have HR1 := Aside0.mk hr1
 have HC1 := Aside0.mk hc1
 clear hr1 hc1
 have HB := Aside0.mk (Below.refl w.heap.size w)
 have H : ((spec_l4Copy.f l0_0 l0_1 l0_2).bind fun bt245 => (if (bt245.2.1.length : Int) = (bt245.1.length : Int) then (spec_ApplySwaps.l0 k l1 0 l0_0 l0_1 l0_2 bt245.1 bt245.2.1 bt245.2.2) else (some (bt245.1, bt245.2.1, bt245.2.2, false)))) = some (r1, r2, r3, r4) := h
 clear h
 revert H; refine bo ?_; rintro ⟨t245, t248, t251⟩ A3 H
 dsimp only at H
 by_cases c4 : (t248.length : Int) = (t245.length : Int)
 ·rw [if_pos c4] at H
  have c4b0 : ((t248.length : Int) == (t245.length : Int)) = true := beq_iff_eq.mpr c4
  have c4b1 : ((t248.length : Int) != (t245.length : Int)) = false := bne_eq_false_iff_eq.mpr c4
  have c4b2 : (t248.length == t245.length) = true := by first | simpa using c4 | (simp at c4 ⊢; omega)
  clear c4
  have H' := Aside0.mk H
  clear H
  go_enter Try.func96, Try.ntmps96
  go_wp2_with (first | ((with_reducible refine gate_dst (N := 2) rfl ?_); (try (refine gate_guard (by rfl) ?_; dsimp only)); refine bx 2 #[.slice A0_0 l0_0.length c0_0, .slice A0_1 l0_1.length c0_1, .slice A0_2 l0_2.length c0_2] 45 ?_; intro gb243 hg w5 hbox hb; have BK243 := mk hbox; have GW243 := wg hg; have GE243 := wg hg; replace HB := wh hb; clear hb hbox hg) | ((with_reducible refine gate_dst (N := 4) rfl ?_); (try (refine gate_guard (by rfl) ?_; dsimp only)); refine bx 4 #[.slice none 0 0, .slice none 0 0, .slice none 0 0] 45 ?_; intro gb244 hg w6 hbox hb; have BK244 := mk hbox; have GW244 := wg hg; have GE244 := wg hg; replace HB := wh hb; have NB243_244 := nl BK243 hg; have NB244_243 := nr BK243 hg; replace BK243 := wb BK243 hb; clear hb hbox hg; have hnb7 := NB243_244.out; have hnc7 := NB244_243.out; obtain ⟨hcz8_0, hcz8_1, hcz8_2, hfz8_0, hfz8_1, hfz8_2⟩ := bz3 BK243) | ((with_reducible refine gate_callee (f := 92) rfl ?_); refine gl (some 11) rfl Try.func92 #[.agg #[.slice A0_0 l0_0.length c0_0, .slice A0_1 l0_1.length c0_1, .slice A0_2 l0_2.length c0_2]] ?_; (with_reducible refine (spec_l4Copy.calls _ _ l0_0 _ _ l0_1 _ _ l0_2 t245 t248 t251 _ ?side1 ?side2 ?side3 ?side4 ?side5 ?side6 A3.out).mono ?_); (case side1 => exact uc (Kd.C_below HR0_0.out HB.out)); (case side2 => exact HC0_0.out); (case side3 => exact uc (Kd.C_below HR0_1.out HB.out)); (case side4 => exact HC0_1.out); (case side5 => exact uc (Kd.C_below HR0_2.out HB.out)); (case side6 => exact HC0_2.out); rintro e w9 ⟨v246, v249, v252, rfl, ho0, ho1, ho2, hb⟩; refine ⟨_, rfl, ?_⟩; have HO247 := mk (Kd.R_lower ho0 (below_size bl)); have HO250 := mk (Kd.R_lower ho1 (below_size bl)); have HO253 := mk (Kd.R_lower ho2 (below_size bl)); replace BK243 := wb BK243 hb; replace BK244 := wb BK244 hb; replace HB := wh hb; (try clear hb); (try clear hb2); (try clear hk); (try clear hi); (try clear ho0); (try clear ho1); (try clear ho2)) | ((with_reducible refine gate_dst (N := 6) rfl ?_); (try (refine gate_guard (by rfl) ?_; dsimp only)); refine bx 6 #[.slice none 0 0, .slice none 0 0, .slice none 0 0] 45 ?_; intro gb254 hg w10 hbox hb; replace HO247 := mk (Kd.R_below (up HO247.out) hb); replace HO250 := mk (Kd.R_below (up HO250.out) hb); replace HO253 := mk (Kd.R_below (up HO253.out) hb); have BK254 := mk hbox; have GW254 := wg hg; have GE254 := wg hg; replace HB := wh hb; have NB243_254 := nl BK243 hg; have NB254_243 := nr BK243 hg; replace BK243 := wb BK243 hb; have NB244_254 := nl BK244 hg; have NB254_244 := nr BK244 hg; replace BK244 := wb BK244 hb; clear hb hbox hg; obtain ⟨Ao11, co11, eo11⟩ := Kd.R_slice HO247.out; subst eo11; have hnb12 := NB254_243.out; have hnc12 := NB243_254.out; have hnb13 := NB254_244.out; have hnc13 := NB244_254.out; obtain ⟨hcz14_0, hcz14_1, hcz14_2, hfz14_0, hfz14_1, hfz14_2⟩ := bz3 BK254; obtain ⟨Ao15, co15, eo15⟩ := Kd.R_slice HO250.out; subst eo15; obtain ⟨Ao16, co16, eo16⟩ := Kd.R_slice HO253.out; subst eo16))
  go_loopg [7] k (fun kq v7 w' => ∃ (x7_1 : Int) (x255000_1 : List Int) (x255001_1 : List Int) (u255000 : Value) (u255001 : Value), v7 = .int .i64 x7_1 ∧ Aside0 (spec_ApplySwaps.l0 kq l1 x7_1 l0_0 l0_1 l0_2 x255000_1 x255001_1 t251 = some (r1, r2, r3, r4)) ∧ Aside0 (kq ≤ k) ∧ Aside0 (Kd.R (Kd.int .i64) 3 w' w.heap.size (fun k_ => some k_ ≠ (u255001 : Value).ownBlock) u255000 x255000_1) ∧ Aside0 (Kd.R (Kd.int .i64) 3 w' w.heap.size (fun k_ => some k_ ≠ (u255000 : Value).ownBlock) u255001 x255001_1) ∧ Aside0 (Kd.R k90 90 w' w.heap.size (fun _ => True) (.slice Ao16 t251.length co16) t251) ∧ Aside0 (w'.heap[gb243]? = some (.cells #[(.slice A0_0 l0_0.length c0_0), (.slice A0_1 l0_1.length c0_1), (.slice A0_2 l0_2.length c0_2)] 45 (0, 0))) ∧ Aside0 (w'.heap[gb244]? = some (.cells #[(.slice none 0 0), (.slice none 0 0), (.slice none 0 0)] 45 (0, 0))) ∧ Aside0 (w'.heap[gb254]? = some (.cells #[u255000, u255001, (.slice Ao16 t251.length co16)] 45 (0, 0))) ∧ Aside0 (Below w.heap.size w w'))
  case atStart => exact ⟨(0), (t245), (t248), (.slice Ao11 t245.length co11), (.slice Ao15 t248.length co15), (by first | rfl | (simp; done) | (simp [*]; done)), H', ⟨Nat.le_refl _⟩, ⟨(by exact rm (rs1 HO247 BK254))⟩, ⟨(by exact rm (rs1 HO250 BK254))⟩, ⟨(by exact rm (rs1 HO253 BK254))⟩, ⟨bq⟩, ⟨bq⟩, ⟨bq⟩, ⟨bl⟩⟩
  case round =>
   clear H'
   try clear c1
   try clear p2
   try clear c4
   try clear c4b0
   try clear c4b1
   try clear c4b2
   try clear c7
   try clear c9
   try clear c12
   try clear c13
   try clear hcz14_0
   try clear hcz14_1
   try clear hcz14_2
   try clear hcz8_0
   try clear hcz8_1
   try clear hcz8_2
   try clear hfz14_0
   try clear hfz14_1
   try clear hfz14_2
   try clear hfz8_0
   try clear hfz8_1
   try clear hfz8_2
   obtain ⟨x7_1, x255000_1, x255001_1, u255000, u255001, rfl, HA, HK1, HO_255000, HO_255001, HO_255002, BK243, BK244, BK254, HB⟩ := hrel
   cases gk with
   | zero => exact absurd HA.out (by simp [spec_ApplySwaps.l0])
   | succ k1 =>
    have H := HA.out
    clear HA
    simp only [spec_ApplySwaps.l0] at H
    by_cases c17 : x7_1 < (l1.length : Int)
    ·rw [if_pos c17] at H
     have c17b0 : decide (x7_1 < (l1.length : Int)) = true := decide_eq_true c17
     clear c17
     by_cases c18 : 0 ≤ x7_1
     ·rw [if_pos c18] at H
      have c18b0 : decide (0 ≤ x7_1) = true := decide_eq_true c18
      clear c18
      have HC19 := Aside0.mk H
      clear H
      have p255 : 0 ≤ (x7_1 : Int) := of_decide_eq_true (by first | (with_reducible assumption) | assumption)
      have q255 : x7_1 < (l1.length : Int) := of_decide_eq_true (by first | (with_reducible assumption) | assumption)
      obtain ⟨ad255, e255, hx255_0, hx255_1⟩ := at_T134 HR1.out x7_1 p255 q255
      cases e255
      replace hx255_0 := (HB.out.cell (World.block_lt_of_cell? w _ hx255_0)).trans hx255_0
      replace hx255_1 := (HB.out.cell (World.block_lt_of_cell? w _ hx255_1)).trans hx255_1
      replace p255 := eq_true p255
      replace q255 := eq_true q255
      have p256 : 0 ≤ (x7_1 : Int) := of_decide_eq_true (by first | (with_reducible assumption) | assumption)
      have q256 : x7_1 < (l1.length : Int) := of_decide_eq_true (by first | (with_reducible assumption) | assumption)
      obtain ⟨ad256, e256, hx256_0, hx256_1⟩ := at_T134 HR1.out x7_1 p256 q256
      obtain rfl : ad255 = ad256 := (by injection e256)
      replace hx256_0 := (HB.out.cell (World.block_lt_of_cell? w _ hx256_0)).trans hx256_0
      replace hx256_1 := (HB.out.cell (World.block_lt_of_cell? w _ hx256_1)).trans hx256_1
      replace p256 := eq_true p256
      replace q256 := eq_true q256
      go_upto_region 9 with (fail)
      go_cut [51] (fun v51 wc => ∃ (kq : Nat) (x51_18 : Bool), v51 = .bool x51_18 ∧ Aside0 (spec_ApplySwaps.j1 kq l1 x7_1 ((rd_T134 l1 x7_1).f0) ((rd_T134 l1 x7_1).f1) x51_18 l0_0 l0_1 l0_2 x255000_1 x255001_1 t251 = some (r1, r2, r3, r4)) ∧ Aside0 (kq ≤ k1) ∧ Aside0 (Kd.R (Kd.int .i64) 3 wc w.heap.size (fun k_ => some k_ ≠ (u255001 : Value).ownBlock) u255000 x255000_1) ∧ Aside0 (Kd.R (Kd.int .i64) 3 wc w.heap.size (fun k_ => some k_ ≠ (u255000 : Value).ownBlock) u255001 x255001_1) ∧ Aside0 (Kd.R k90 90 wc w.heap.size (fun _ => True) (.slice Ao16 t251.length co16) t251) ∧ Aside0 (wc.heap[gb243]? = some (.cells #[(.slice A0_0 l0_0.length c0_0), (.slice A0_1 l0_1.length c0_1), (.slice A0_2 l0_2.length c0_2)] 45 (0, 0))) ∧ Aside0 (wc.heap[gb244]? = some (.cells #[(.slice none 0 0), (.slice none 0 0), (.slice none 0 0)] 45 (0, 0))) ∧ Aside0 (wc.heap[gb254]? = some (.cells #[u255000, u255001, (.slice Ao16 t251.length co16)] 45 (0, 0))) ∧ Aside0 (Below w.heap.size w wc))
      case first =>
       have H := HC19.out
       clear HC19
       revert H; refine bo ?_; rintro t257 A20 H
       by_cases c21 : t257 = true
       ·subst c21
        rw [if_pos rfl] at H
        revert H; refine bo ?_; rintro t258 A22 H
        have H' := Aside0.mk H
        clear H
        have hnb23 := NB254_243.out
        have hnc23 := NB243_254.out
        have hnb24 := NB254_244.out
        have hnc24 := NB244_254.out
        obtain ⟨hcz25_0, hcz25_1, hcz25_2, hfz25_0, hfz25_1, hfz25_2⟩ := bz3 BK254
        obtain ⟨Ao26, co26, eo26⟩ := Kd.R_slice HO_255000.out
        subst eo26
        go_wp2_with (first | ((with_reducible refine gate_callee (f := 53) rfl ?_); refine gl (some 41) rfl Try.func53 #[.int .i64 ((rd_T134 l1 x7_1).f0), .int .i64 0, .int .i64 (wrap64 ((x255000_1.length : Int) - 1))] ?_; (with_reducible refine (spec_l1In.calls ((rd_T134 l1 x7_1).f0) 0 (wrap64 ((x255000_1.length : Int) - 1)) true _ A20.out).mono ?_); rintro e w' ⟨rfl, ⟨nd, rfl⟩⟩; refine ⟨_, rfl, ?_⟩) | (go_at_call 53; (with_reducible refine (spec_l1In.calls ((rd_T134 l1 x7_1).f1) 0 (wrap64 ((x255000_1.length : Int) - 1)) t258 _ A22.out).mono ?_); rintro e w' ⟨rfl, ⟨nd, rfl⟩⟩))
        go_meet
        case rel => exact ⟨_, (!t258), (by first | rfl | (simp; done) | (simp [*]; done)), H', ⟨by have := HK1.out; first | omega | exact Nat.le_refl _⟩, ⟨up HO_255000.out⟩, ⟨up HO_255001.out⟩, ⟨up HO_255002.out⟩, ⟨ub BK243.out⟩, ⟨ub BK244.out⟩, ⟨ub BK254.out⟩, ⟨bl⟩⟩
       ·replace c21 := Bool.eq_false_iff.mpr c21
        subst c21
        rw [if_neg nf] at H
        have H' := Aside0.mk H
        clear H
        have hnb27 := NB254_243.out
        have hnc27 := NB243_254.out
        have hnb28 := NB254_244.out
        have hnc28 := NB244_254.out
        obtain ⟨hcz29_0, hcz29_1, hcz29_2, hfz29_0, hfz29_1, hfz29_2⟩ := bz3 BK254
        obtain ⟨Ao30, co30, eo30⟩ := Kd.R_slice HO_255000.out
        subst eo30
        go_wp2_with (first | ((with_reducible refine gate_callee (f := 53) rfl ?_); refine gl (some 41) rfl Try.func53 #[.int .i64 ((rd_T134 l1 x7_1).f0), .int .i64 0, .int .i64 (wrap64 ((x255000_1.length : Int) - 1))] ?_; (with_reducible refine (spec_l1In.calls ((rd_T134 l1 x7_1).f0) 0 (wrap64 ((x255000_1.length : Int) - 1)) false _ A20.out).mono ?_); rintro e w' ⟨rfl, ⟨nd, rfl⟩⟩; refine ⟨_, rfl, ?_⟩))
        go_meet
        case rel => exact ⟨_, (true), (by first | rfl | (simp; done) | (simp [*]; done)), H', ⟨by have := HK1.out; first | omega | exact Nat.le_refl _⟩, ⟨up HO_255000.out⟩, ⟨up HO_255001.out⟩, ⟨up HO_255002.out⟩, ⟨ub BK243.out⟩, ⟨ub BK244.out⟩, ⟨ub BK254.out⟩, ⟨bl⟩⟩
      case rest =>
       clear HC19
       try clear c1
       try clear c2
       try clear p2
       try clear q2
       try clear hx2
       try clear c4
       try clear c4b0
       try clear c4b1
       try clear c4b2
       try clear c5
       try clear p6
       try clear c7
       try clear c9
       try clear c12
       try clear c13
       try clear c17
       try clear c17b0
       try clear c18
       try clear c18b0
       try clear c21
       try clear c23
       try clear c24
       try clear p25
       try clear q25
       try clear hx25
       try clear c27
       try clear c28
       try clear hcz14_0
       try clear hcz14_1
       try clear hcz14_2
       try clear hcz25_0
       try clear hcz25_1
       try clear hcz25_2
       try clear hcz29_0
       try clear hcz29_1
       try clear hcz29_2
       try clear hcz8_0
       try clear hcz8_1
       try clear hcz8_2
       try clear hfz14_0
       try clear hfz14_1
       try clear hfz14_2
       try clear hfz25_0
       try clear hfz25_1
       try clear hfz25_2
       try clear hfz29_0
       try clear hfz29_1
       try clear hfz29_2
       try clear hfz8_0
       try clear hfz8_1
       try clear hfz8_2
       try clear hx255_0
       try clear hx255_1
       try clear hx256_0
       try clear hx256_1
       try clear p2
       try clear p255
       try clear p256
       try clear q255
       try clear q256
       obtain ⟨kq, x51_18, rfl, HA, HJ18, HO_255000, HO_255001, HO_255002, BK243, BK244, BK254, HB⟩ := hcut
       cases kq with
       | zero => exact absurd HA.out (by simp [spec_ApplySwaps.j1])
       | succ kj18 =>
        have H := HA.out
        clear HA
        simp only [spec_ApplySwaps.j1] at H
        by_cases c31 : x51_18 = true
        ·subst c31
         rw [if_pos rfl] at H
         revert H; refine bo ?_; rintro ⟨t259, t262, t265⟩ A32 H
         dsimp only at H
         simp only [Option.some.injEq, Prod.mk.injEq] at H
         obtain ⟨rfl, rfl, rfl, rfl⟩ := H
         have hnb33 := NB243_244.out
         have hnc33 := NB244_243.out
         have hnb34 := NB243_254.out
         have hnc34 := NB254_243.out
         obtain ⟨hcz35_0, hcz35_1, hcz35_2, hfz35_0, hfz35_1, hfz35_2⟩ := bz3 BK243
         go_wp2_with (first | ((with_reducible refine gate_callee (f := 92) rfl ?_); refine gl (some 53) rfl Try.func92 #[.agg #[.slice A0_0 l0_0.length c0_0, .slice A0_1 l0_1.length c0_1, .slice A0_2 l0_2.length c0_2]] ?_; (with_reducible refine (spec_l4Copy.calls _ _ l0_0 _ _ l0_1 _ _ l0_2 t259 t262 t265 _ ?side1 ?side2 ?side3 ?side4 ?side5 ?side6 A32.out).mono ?_); (case side1 => exact uc (Kd.C_below HR0_0.out HB.out)); (case side2 => exact HC0_0.out); (case side3 => exact uc (Kd.C_below HR0_1.out HB.out)); (case side4 => exact HC0_1.out); (case side5 => exact uc (Kd.C_below HR0_2.out HB.out)); (case side6 => exact HC0_2.out); rintro e w36 ⟨v260, v263, v266, rfl, ho0, ho1, ho2, hb⟩; refine ⟨_, rfl, ?_⟩; have HO261 := mk (Kd.R_lower (Kd.R_new' (Kd.R_new' ho0 (Kd.R_lt (up HO_255000.out))) (Kd.R_lt (up HO_255001.out))) (below_size bl)); have HO264 := mk (Kd.R_lower (Kd.R_new' (Kd.R_new' ho1 (Kd.R_lt (up HO_255000.out))) (Kd.R_lt (up HO_255001.out))) (below_size bl)); replace HO_255000 := mk (Kd.R_mono (Kd.R_told (Kd.R_told (Kd.R_old (up HO_255000.out) hb) (Kd.R_base ho0)) (Kd.R_base ho1)) (fun _ h_ => h_.1)); replace HO_255001 := mk (Kd.R_mono (Kd.R_told (Kd.R_told (Kd.R_old (up HO_255001.out) hb) (Kd.R_base ho0)) (Kd.R_base ho1)) (fun _ h_ => h_.1)); have HO267 := mk (Kd.R_lower (Kd.R_new' ho2 (Kd.R_lt (up HO_255002.out))) (below_size bl)); replace HO_255002 := mk (Kd.R_elder' (up HO_255002.out) (Kd.R_base ho2) hb); replace BK243 := wb BK243 hb; replace BK244 := wb BK244 hb; replace BK254 := wb BK254 hb; replace HB := wh hb; (try clear hb); (try clear hb2); (try clear hk); (try clear hi); (try clear ho0); (try clear ho1); (try clear ho2); obtain ⟨Ao37, co37, eo37⟩ := Kd.R_slice HO261.out; subst eo37; have hnb38 := NB244_254.out; have hnc38 := NB254_244.out; obtain ⟨hcz39_0, hcz39_1, hcz39_2, hfz39_0, hfz39_1, hfz39_2⟩ := bz3 BK244; obtain ⟨Ao40, co40, eo40⟩ := Kd.R_slice HO264.out; subst eo40; obtain ⟨Ao41, co41, eo41⟩ := Kd.R_slice HO267.out; subst eo41))
         refine bodyPost_ret (results_ct rfl _ _ gb244 45 #[.slice Ao37 t259.length co37, .slice Ao40 t262.length co40, .slice Ao41 t265.length co41] (0, 0) _ rfl bq Try.underlying45 rfl (by kernel_rfl)) rfl ?_
         exact ⟨_, _, _, by first | rfl | (simp [errW_none, errW_some] <;> rfl) | (simp [*, errW_none, errW_some] <;> rfl), (by exact rm (rs1 HO261 BK244)), (by exact rm (rs1 HO264 BK244)), (by exact rm (rs1 HO267 BK244)), bl⟩
        ·replace c31 := Bool.eq_false_iff.mpr c31
         subst c31
         rw [if_neg nf] at H
         revert H; refine bo ?_; rintro t268 A42 H
         revert H; refine bo ?_; rintro t269 A43 H
         have H' := Aside0.mk H
         clear H
         have hnb44 := NB254_243.out
         have hnc44 := NB243_254.out
         have hnb45 := NB254_244.out
         have hnc45 := NB244_254.out
         obtain ⟨hcz46_0, hcz46_1, hcz46_2, hfz46_0, hfz46_1, hfz46_2⟩ := bz3 BK254
         obtain ⟨Ao47, co47, eo47⟩ := Kd.R_slice HO_255000.out
         subst eo47
         go_wp2_with (first | ((with_reducible refine gate_callee (f := 51) rfl ?_); refine gl (some 58) rfl Try.func51 #[.slice Ao47 x255000_1.length co47, .int .i64 ((rd_T134 l1 x7_1).f0), .int .i64 ((rd_T134 l1 x7_1).f1)] ?_; (with_reducible refine (spec_l5Swap.calls (fun k_ => some k_ = (.slice Ao47 x255000_1.length co47 : Value).ownBlock) (.slice Ao47 x255000_1.length co47) x255000_1 ((rd_T134 l1 x7_1).f0) ((rd_T134 l1 x7_1).f1) t268 w _ ?side1 ?side2 A42.out).mono ?_); (case side1 => repeat (first | (with_reducible first | exact HB.out | apply below_alloc | apply pw_below_drewN | apply below_drew1 | refine below_set ?_ GE243.out | refine below_set ?_ GE244.out | refine below_set ?_ GE254.out) | exact HB.out)); (case side2 => exact Kd.R_tight rfl HO_255000.out); rintro e w48 ⟨rfl, hy0, hb, hkp⟩; refine ⟨_, rfl, ?_⟩; replace HO_255001 := mk (Kd.R_mono (ok' := fun k_ => some k_ ≠ (.slice Ao47 x255000_1.length co47 : Value).ownBlock) (Kd.R_keptB (HO_255001.out) hkp (fun k_ hk_ hs_ => (hk_) hs_)) (fun k_ hk_ => hk_.1)); replace HO_255002 := mk (Kd.R_mono (ok' := fun k_ => True) (Kd.R_keptB ((Kd.R_apart' HO_255002.out (Kd.R_typed HO_255000.out) (by decide))) hkp (fun k_ hk_ hs_ => (hk_.2) hs_)) (fun k_ hk_ => trivial)); replace BK243 := mk (blk_kept (ub BK243.out) hkp (fun hs_ => (fun e_ => (Kd.R_ne HO_255000.out BK243.out (by decide)) e_) hs_)); replace BK244 := mk (blk_kept (ub BK244.out) hkp (fun hs_ => (fun e_ => (Kd.R_ne HO_255000.out BK244.out (by decide)) e_) hs_)); replace BK254 := mk (blk_kept (ub BK254.out) hkp (fun hs_ => (fun e_ => (Kd.R_ne HO_255000.out BK254.out (by decide)) e_) hs_)); replace HO_255000 := mk (Kd.R_reok rfl hy0 (fun k_ e_ => HO_255000.out.1 k_ e_)); replace HB := mk hb; (try clear hb); (try clear hkp); (try clear hy0); obtain ⟨hcz49_0, hcz49_1, hcz49_2, hfz49_0, hfz49_1, hfz49_2⟩ := bz3 BK254; obtain ⟨Ao50, co50, eo50⟩ := Kd.R_slice HO_255001.out; subst eo50) | ((with_reducible refine gate_callee (f := 51) rfl ?_); refine gl (some 63) rfl Try.func51 #[.slice Ao50 x255001_1.length co50, .int .i64 ((rd_T134 l1 x7_1).f0), .int .i64 ((rd_T134 l1 x7_1).f1)] ?_; (with_reducible refine (spec_l5Swap.calls (fun k_ => some k_ = (.slice Ao50 x255001_1.length co50 : Value).ownBlock) (.slice Ao50 x255001_1.length co50) x255001_1 ((rd_T134 l1 x7_1).f0) ((rd_T134 l1 x7_1).f1) t269 w _ ?side1 ?side2 A43.out).mono ?_); (case side1 => repeat (first | (with_reducible first | exact HB.out | apply below_alloc | apply pw_below_drewN | apply below_drew1 | refine below_set ?_ GE243.out | refine below_set ?_ GE244.out | refine below_set ?_ GE254.out) | exact HB.out)); (case side2 => exact Kd.R_tight rfl HO_255001.out); rintro e w51 ⟨rfl, hy0, hb, hkp⟩; refine ⟨_, rfl, ?_⟩; replace HO_255000 := mk (Kd.R_mono (ok' := fun k_ => some k_ ≠ (.slice Ao50 x255001_1.length co50 : Value).ownBlock) (Kd.R_keptB (HO_255000.out) hkp (fun k_ hk_ hs_ => (hk_) hs_)) (fun k_ hk_ => hk_.1)); replace HO_255002 := mk (Kd.R_mono (ok' := fun k_ => True) (Kd.R_keptB ((Kd.R_apart' HO_255002.out (Kd.R_typed HO_255001.out) (by decide))) hkp (fun k_ hk_ hs_ => (hk_.2) hs_)) (fun k_ hk_ => trivial)); replace BK243 := mk (blk_kept (ub BK243.out) hkp (fun hs_ => (fun e_ => (Kd.R_ne HO_255001.out BK243.out (by decide)) e_) hs_)); replace BK244 := mk (blk_kept (ub BK244.out) hkp (fun hs_ => (fun e_ => (Kd.R_ne HO_255001.out BK244.out (by decide)) e_) hs_)); replace BK254 := mk (blk_kept (ub BK254.out) hkp (fun hs_ => (fun e_ => (Kd.R_ne HO_255001.out BK254.out (by decide)) e_) hs_)); replace HO_255001 := mk (Kd.R_reok rfl hy0 (fun k_ e_ => HO_255001.out.1 k_ e_)); replace HB := mk hb; (try clear hb); (try clear hkp); (try clear hy0)))
         go_roundg kj18
         case measure => have := HK1.out; have := HJ18.out; omega
         case rel => exact ⟨(wrap64 (x7_1 + 1)), (t268), (t269), (.slice Ao47 x255000_1.length co47), (.slice Ao50 x255001_1.length co50), (by first | rfl | (simp; done) | (simp [*]; done)), H', ⟨by have := HK1.out; have := HJ18.out; omega⟩, ⟨up HO_255000.out⟩, ⟨up HO_255001.out⟩, ⟨up HO_255002.out⟩, ⟨ub BK243.out⟩, ⟨ub BK244.out⟩, ⟨ub BK254.out⟩, ⟨bl⟩⟩
     ·rw [if_neg c18] at H
      exact absurd H (by simp)
    ·rw [if_neg c17] at H
     have c17b0 : decide (x7_1 < (l1.length : Int)) = false := decide_eq_false c17
     clear c17
     simp only [Option.some.injEq, Prod.mk.injEq] at H
     obtain ⟨rfl, rfl, rfl, rfl⟩ := H
     have hnb52 := NB254_243.out
     have hnc52 := NB243_254.out
     have hnb53 := NB254_244.out
     have hnc53 := NB244_254.out
     obtain ⟨hcz54_0, hcz54_1, hcz54_2, hfz54_0, hfz54_1, hfz54_2⟩ := bz3 BK254
     obtain ⟨Ao55, co55, eo55⟩ := Kd.R_slice HO_255000.out
     subst eo55
     have hnb56 := NB244_243.out
     have hnc56 := NB243_244.out
     obtain ⟨hcz57_0, hcz57_1, hcz57_2, hfz57_0, hfz57_1, hfz57_2⟩ := bz3 BK244
     obtain ⟨Ao58, co58, eo58⟩ := Kd.R_slice HO_255001.out
     subst eo58
     go_wp2
     refine bodyPost_ret (results_ct rfl _ _ gb244 45 #[.slice Ao55 x255000_1.length co55, .slice Ao58 x255001_1.length co58, .slice Ao16 t251.length co16] (0, 0) _ rfl bq Try.underlying45 rfl (by kernel_rfl)) rfl ?_
     exact ⟨_, _, _, by first | rfl | (simp [errW_none, errW_some] <;> rfl) | (simp [*, errW_none, errW_some] <;> rfl), (by exact rm (rs1 HO_255000 BK244)), (by exact rm (rs1 HO_255001 BK244)), (by exact rm (rs1 HO_255002 BK244)), bl⟩
 ·rw [if_neg c4] at H
  have c4b0 : ((t248.length : Int) == (t245.length : Int)) = false := beq_eq_false_iff_ne.mpr c4
  have c4b1 : ((t248.length : Int) != (t245.length : Int)) = true := bne_iff_ne.mpr c4
  have c4b2 : (t248.length == t245.length) = false := by first | simpa using c4 | (simp at c4 ⊢; omega)
  simp only [Option.some.injEq, Prod.mk.injEq] at H
  obtain ⟨rfl, rfl, rfl, rfl⟩ := H
  go_enter Try.func96, Try.ntmps96
  go_wp2_with (first | ((with_reducible refine gate_dst (N := 2) rfl ?_); (try (refine gate_guard (by rfl) ?_; dsimp only)); refine bx 2 #[.slice A0_0 l0_0.length c0_0, .slice A0_1 l0_1.length c0_1, .slice A0_2 l0_2.length c0_2] 45 ?_; intro gb243 hg w59 hbox hb; have BK243 := mk hbox; have GW243 := wg hg; have GE243 := wg hg; replace HB := wh hb; clear hb hbox hg) | ((with_reducible refine gate_dst (N := 4) rfl ?_); (try (refine gate_guard (by rfl) ?_; dsimp only)); refine bx 4 #[.slice none 0 0, .slice none 0 0, .slice none 0 0] 45 ?_; intro gb244 hg w60 hbox hb; have BK244 := mk hbox; have GW244 := wg hg; have GE244 := wg hg; replace HB := wh hb; have NB243_244 := nl BK243 hg; have NB244_243 := nr BK243 hg; replace BK243 := wb BK243 hb; clear hb hbox hg; have hnb61 := NB243_244.out; have hnc61 := NB244_243.out; obtain ⟨hcz62_0, hcz62_1, hcz62_2, hfz62_0, hfz62_1, hfz62_2⟩ := bz3 BK243) | ((with_reducible refine gate_callee (f := 92) rfl ?_); refine gl (some 11) rfl Try.func92 #[.agg #[.slice A0_0 l0_0.length c0_0, .slice A0_1 l0_1.length c0_1, .slice A0_2 l0_2.length c0_2]] ?_; (with_reducible refine (spec_l4Copy.calls _ _ l0_0 _ _ l0_1 _ _ l0_2 t245 t248 t251 _ ?side1 ?side2 ?side3 ?side4 ?side5 ?side6 A3.out).mono ?_); (case side1 => exact uc (Kd.C_below HR0_0.out HB.out)); (case side2 => exact HC0_0.out); (case side3 => exact uc (Kd.C_below HR0_1.out HB.out)); (case side4 => exact HC0_1.out); (case side5 => exact uc (Kd.C_below HR0_2.out HB.out)); (case side6 => exact HC0_2.out); rintro e w63 ⟨v246, v249, v252, rfl, ho0, ho1, ho2, hb⟩; refine ⟨_, rfl, ?_⟩; have HO247 := mk (Kd.R_lower ho0 (below_size bl)); have HO250 := mk (Kd.R_lower ho1 (below_size bl)); have HO253 := mk (Kd.R_lower ho2 (below_size bl)); replace BK243 := wb BK243 hb; replace BK244 := wb BK244 hb; replace HB := wh hb; (try clear hb); (try clear hb2); (try clear hk); (try clear hi); (try clear ho0); (try clear ho1); (try clear ho2)) | ((with_reducible refine gate_dst (N := 6) rfl ?_); (try (refine gate_guard (by rfl) ?_; dsimp only)); refine bx 6 #[.slice none 0 0, .slice none 0 0, .slice none 0 0] 45 ?_; intro gb254 hg w64 hbox hb; replace HO247 := mk (Kd.R_below (up HO247.out) hb); replace HO250 := mk (Kd.R_below (up HO250.out) hb); replace HO253 := mk (Kd.R_below (up HO253.out) hb); have BK254 := mk hbox; have GW254 := wg hg; have GE254 := wg hg; replace HB := wh hb; have NB243_254 := nl BK243 hg; have NB254_243 := nr BK243 hg; replace BK243 := wb BK243 hb; have NB244_254 := nl BK244 hg; have NB254_244 := nr BK244 hg; replace BK244 := wb BK244 hb; clear hb hbox hg; obtain ⟨Ao65, co65, eo65⟩ := Kd.R_slice HO247.out; subst eo65; have hnb66 := NB254_243.out; have hnc66 := NB243_254.out; have hnb67 := NB254_244.out; have hnc67 := NB244_254.out; obtain ⟨hcz68_0, hcz68_1, hcz68_2, hfz68_0, hfz68_1, hfz68_2⟩ := bz3 BK254; obtain ⟨Ao69, co69, eo69⟩ := Kd.R_slice HO250.out; subst eo69; obtain ⟨Ao70, co70, eo70⟩ := Kd.R_slice HO253.out; subst eo70; obtain ⟨hcz71_0, hcz71_1, hcz71_2, hfz71_0, hfz71_1, hfz71_2⟩ := bz3 BK244))
  refine bodyPost_ret (results_ct rfl _ _ gb244 45 #[.slice Ao65 t245.length co65, .slice Ao69 t248.length co69, .slice Ao70 t251.length co70] (0, 0) _ rfl bq Try.underlying45 rfl (by kernel_rfl)) rfl ?_
  exact ⟨_, _, _, by first | rfl | (simp [errW_none, errW_some] <;> rfl) | (simp [*, errW_none, errW_some] <;> rfl), (by exact rm (rs2 HO247 BK254 BK244)), (by exact rm (rs2 HO250 BK254 BK244)), (by exact rm (rs2 HO253 BK254 BK244)), bl⟩

end Go.Proofs.Ytlikcmonejefoac.PFnMedians
