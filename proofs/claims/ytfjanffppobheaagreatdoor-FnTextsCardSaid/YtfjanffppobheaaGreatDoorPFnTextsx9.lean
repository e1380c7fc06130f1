-- printed by a program of this session, a turned copy of the print of the kit
import Derived.Test.YtfjanffppobheaaGreatDoorSq
import Derived.Test.YtfjanffppobheaaGreatDoorPFnTextsx0
import Derived.Test.YtfjanffppobheaaGreatDoorPFnTextsx8
namespace Go.Proofs.YtfjanffppobheaaGreatDoor.PFnTexts
open Go.RowKit Go.Proofs.YtfjanffppobheaaGreatDoorW.PrintWords Go.Proofs.YtfjanffppobheaaGreatDoorW.PrintLast Go.Proofs.YtfjanffppobheaaGreatDoorW.PrintMore Go.Proofs.YtfjanffppobheaaGreatDoor.Sq
attribute [local go_sem] max2_int min2_int max_two min_two max_three min_three max_four min_four Giv.cell_twice   -- for this text's walks alone
set_option linter.unusedVariables false
set_option linter.unusedSimpArgs false

/-! ### spec_IsTable: function 12 -/
mutual
def spec_IsTable.l0 : Nat → Int → List (S58) → Option (Bool)
 | 0, _, _ => none
 | k + 1, x3, x344000 => if x3 < (x344000.length : Int) then (if 0 ≤ x3 then ((spec_IsName.f k ((rd_T58 x344000 x3).f0)).bind fun t347 => (if t347 = true then ((spec_AreValues.f k ((rd_T58 x344000 x3).f1)).bind fun t348 => (if t348 = true then (if 0 < (x344000.length : Int) then (spec_IsTable.j1 k x3 ((((rd_T58 x344000 x3).f1).length : Int) != (((rd_T58 x344000 0).f1).length : Int)) x344000 ((rd_T58 x344000 x3).f0) ((rd_T58 x344000 x3).f1)) else (none)) else (spec_IsTable.j1 k x3 true x344000 ((rd_T58 x344000 x3).f0) ((rd_T58 x344000 x3).f1)))) else (spec_IsTable.j1 k x3 true x344000 ((rd_T58 x344000 x3).f0) ((rd_T58 x344000 x3).f1)))) else (none)) else (some true)
def spec_IsTable.j1 : Nat → Int → Bool → List (S58) → ByteArray → List Int → Option (Bool)
 | 0, _, _, _, _, _ => none
 | k + 1, x3, x44, x344000, x347000, x347001 => if x44 = true then (some false) else (spec_IsTable.l1 k x3 0 x344000 x347000 x347001)
def spec_IsTable.l1 : Nat → Int → Int → List (S58) → ByteArray → List Int → Option (Bool)
 | 0, _, _, _, _, _ => none
 | k + 1, x3, x5, x344000, x347000, x347001 => if x5 < x3 then (if 0 ≤ x5 then (if x5 < (x344000.length : Int) then (if ((rd_T58 x344000 x5).f0).toList = x347000.toList then (some false) else (spec_IsTable.l1 k x3 (wrap64 (x5 + 1)) x344000 x347000 x347001)) else (none)) else (none)) else (spec_IsTable.l0 k (wrap64 (x3 + 1)) x344000)
end
def spec_IsTable.f (k : Nat) (l0_0 : List (S58)) : Option (Bool) := (spec_l1In.f (l0_0.length : Int) 1 4).bind fun t344 => (if t344 = true then (spec_IsTable.l0 k 0 l0_0) else (some false))
theorem spec_IsTable.mono_l : ∀ k, (∀ y0 y1, LeO (spec_IsTable.l0 k y0 y1) (spec_IsTable.l0 (k + 1) y0 y1)) ∧ (∀ y0 y1 y2 y3 y4, LeO (spec_IsTable.j1 k y0 y1 y2 y3 y4) (spec_IsTable.j1 (k + 1) y0 y1 y2 y3 y4)) ∧ (∀ y0 y1 y2 y3 y4, LeO (spec_IsTable.l1 k y0 y1 y2 y3 y4) (spec_IsTable.l1 (k + 1) y0 y1 y2 y3 y4))
 | 0 => ⟨fun _ _ r h => by simp [spec_IsTable.l0] at h, fun _ _ _ _ _ r h => by simp [spec_IsTable.j1] at h, fun _ _ _ _ _ r h => by simp [spec_IsTable.l1] at h⟩
 | k + 1 => by
  obtain ⟨ih0, ih1, ih2⟩ := spec_IsTable.mono_l k
  refine ⟨?_, ?_, ?_⟩
  ·intro y0 y1
   unfold spec_IsTable.l0
   exact mo
  ·intro y0 y1 y2 y3 y4
   unfold spec_IsTable.j1
   exact mo
  ·intro y0 y1 y2 y3 y4
   unfold spec_IsTable.l1
   exact mo
theorem spec_IsTable.mono : ∀ a0 k, LeO (spec_IsTable.f k a0) (spec_IsTable.f (k + 1) a0) := by
 intro a0 k
 obtain ⟨ih0, ih1, ih2⟩ := spec_IsTable.mono_l k
 unfold spec_IsTable.f
 exact mo
instance spec_IsTable.mi (a0 k) : LeC (spec_IsTable.f k a0) (spec_IsTable.f (k + 1) a0) := ⟨spec_IsTable.mono a0 k⟩
set_option maxHeartbeats 8000000 in
set_option maxRecDepth 100000 in
theorem spec_IsTable.calls (k : Nat) (A0_0 : Option Addr) (c0_0 : Nat) (l0_0 : List (S58)) (r : Bool) (w : World) (hr0_0 : Kd.C k58 w A0_0 l0_0.length l0_0) (hc0_0 : l0_0.length ≤ c0_0) (h : spec_IsTable.f k l0_0 = some r) :
  Calls Tryz.prog 12 #[.agg #[.slice A0_0 l0_0.length c0_0]] w fun e w' => e = .returned (.bool r) ∧ Below w.heap.size w w' := by
 have hu26 := Tryz.underlying26
 have hu58 := Tryz.underlying58
 have HR0_0 := Aside0.mk hr0_0
 have HC0_0 := Aside0.mk hc0_0
 clear hr0_0 hc0_0
 have HB := Aside0.mk (Below.refl w.heap.size w)
 have H : ((spec_l1In.f (l0_0.length : Int) 1 4).bind fun t344 => (if t344 = true then (spec_IsTable.l0 k 0 l0_0) else (some false))) = some r := h
 clear h
 revert H; refine bo ?_; rintro t344 A2 H
 by_cases c3 : t344 = true
 ·subst c3
  rw [if_pos rfl] at H
  have H' := Aside0.mk H
  clear H
  go_enter Tryz.func12, Tryz.ntmps12
  iterate 3 ((try go_quiet (first | ((with_reducible refine gate_dst (N := 1) rfl ?_); (try (refine gate_guard (by rfl) ?_; dsimp only)); refine bx 1 #[.slice A0_0 l0_0.length c0_0] 26 ?_; intro gb343 hg w4 hbox hb; have BK343 := mk hbox; have GW343 := wg hg; have GE343 := wg hg; replace HB := wh hb; clear hb hbox hg; obtain ⟨hcz5_0, hfz5_0⟩ := bz1 BK343) | (go_at_call 40; (with_reducible refine (spec_l1In.calls (l0_0.length : Int) 1 4 true _ A2.out).mono ?_); rintro e w' ⟨rfl, ⟨nd, rfl⟩⟩; (try first | exact ⟨rfl, _, World.drewN_drewN _ _ _⟩ | exact ⟨rfl, _, Eq.trans (World.drewN_drewN _ _ _) (congrArg (World.drewN _) (Nat.add_assoc _ _ _))⟩)))); (try go_wp2_with (first | ((with_reducible refine gate_dst (N := 1) rfl ?_); (try (refine gate_guard (by rfl) ?_; dsimp only)); refine bx 1 #[.slice A0_0 l0_0.length c0_0] 26 ?_; intro gb343 hg w4 hbox hb; have BK343 := mk hbox; have GW343 := wg hg; have GE343 := wg hg; replace HB := wh hb; clear hb hbox hg; obtain ⟨hcz5_0, hfz5_0⟩ := bz1 BK343) | (go_at_call 40; (with_reducible refine (spec_l1In.calls (l0_0.length : Int) 1 4 true _ A2.out).mono ?_); rintro e w' ⟨rfl, ⟨nd, rfl⟩⟩; (try first | exact ⟨rfl, _, World.drewN_drewN _ _ _⟩ | exact ⟨rfl, _, Eq.trans (World.drewN_drewN _ _ _) (congrArg (World.drewN _) (Nat.add_assoc _ _ _))⟩)))))
  go_loopg [3] k (fun kq v3 w' => ∃ (x3_1 : Int), v3 = .int .i64 x3_1 ∧ Aside0 (spec_IsTable.l0 kq x3_1 l0_0 = some r) ∧ Aside0 (kq ≤ k) ∧ Aside0 (w'.heap[gb343]? = some (.cells #[(.slice A0_0 l0_0.length c0_0)] 26 (0, 0))) ∧ Aside0 (Below w.heap.size w w'))
  case atStart => exact ⟨(0), (by first | rfl | (simp; done) | (simp [*]; done)), H', ⟨Nat.le_refl _⟩, ⟨ub BK343.out⟩, ⟨bl⟩⟩
  case round =>
   clear H'
   try clear c1
   try clear p2
   try clear c3
   try clear hcz5_0
   try clear hfz5_0
   obtain ⟨x3_1, rfl, HA, HK1, BK343, HB⟩ := hrel
   cases gk with
   | zero => exact absurd HA.out (by simp [spec_IsTable.l0])
   | succ k1 =>
    have H := HA.out
    clear HA
    simp only [spec_IsTable.l0] at H
    by_cases c6 : x3_1 < (l0_0.length : Int)
    ·rw [if_pos c6] at H
     have c6b0 : decide (x3_1 < (l0_0.length : Int)) = true := decide_eq_true c6
     clear c6
     by_cases c7 : 0 ≤ x3_1
     ·rw [if_pos c7] at H
      have c7b0 : decide (0 ≤ x3_1) = true := decide_eq_true c7
      clear c7
      have HC8 := Aside0.mk H
      clear H
      obtain ⟨hcz9_0, hfz9_0⟩ := bz1 BK343
      have p345 : 0 ≤ (x3_1 : Int) := dt
      have q345 : x3_1 < (l0_0.length : Int) := dt
      obtain ⟨ad345, A345_1, c345_1, e345, hx345_0, hx345_1, hl345_1, hi345_1⟩ := at_T58 HR0_0.out x3_1 p345 q345
      cases e345
      replace hx345_0 := (HB.out.cell (World.block_lt_of_cell? w _ hx345_0)).trans hx345_0
      replace hx345_1 := (HB.out.cell (World.block_lt_of_cell? w _ hx345_1)).trans hx345_1
      have HR345_1 := Aside0.mk hi345_1
      have HC345_1 := Aside0.mk hl345_1
      clear hi345_1 hl345_1
      replace p345 := eq_true p345
      replace q345 := eq_true q345
      iterate 3 ((try go_quiet (fail)); (try go_upto_region 7 with (first | ((with_reducible refine gate_dst (N := 4) rfl ?_); (try (refine gate_guard (by rfl) ?_; dsimp only)); refine bx 4 #[.string (⟨#[]⟩ : ByteArray), .slice none 0 0] 58 ?_; intro gb346 hg w10 hbox hb; have BK346 := mk hbox; have GW346 := wg hg; have GE346 := wg hg; replace HB := wh hb; have NB343_346 := nl BK343 hg; have NB346_343 := nr BK343 hg; replace BK343 := wb BK343 hb; clear hb hbox hg; have hnb11 := NB346_343.out; have hnc11 := NB343_346.out; obtain ⟨hcz12_0, hcz12_1, hfz12_0, hfz12_1⟩ := bz2 BK346))))
      (try simp only [Act.put, List.setIfInBounds_toArray, List.set_cons_zero, List.set_cons_succ])
      go_cut [44] (fun v44 wc => ∃ (kq : Nat) (x44_7 : Bool), v44 = .bool x44_7 ∧ Aside0 (spec_IsTable.j1 kq x3_1 x44_7 l0_0 ((rd_T58 l0_0 x3_1).f0) ((rd_T58 l0_0 x3_1).f1) = some r) ∧ Aside0 (kq ≤ k1) ∧ Aside0 (wc.heap[gb343]? = some (.cells #[(.slice (some ad345) l0_0.length c0_0)] 26 (0, 0))) ∧ Aside0 (wc.heap[gb346]? = some (.cells #[.string ((rd_T58 l0_0 x3_1).f0), (.slice A345_1 ((rd_T58 l0_0 x3_1).f1).length c345_1)] 58 (0, 0))) ∧ Aside0 (Below w.heap.size w wc))
      case first =>
       have H := HC8.out
       clear HC8
       revert H; refine bo ?_; rintro t347 A13 H
       by_cases c14 : t347 = true
       ·subst c14
        rw [if_pos rfl] at H
        revert H; refine bo ?_; rintro t348 A15 H
        by_cases c16 : t348 = true
        ·subst c16
         rw [if_pos rfl] at H
         by_cases c17 : 0 < (l0_0.length : Int)
         ·rw [if_pos c17] at H
          have c17b0 : decide (0 < (l0_0.length : Int)) = true := decide_eq_true c17
          have c17b1 : decide (0 < l0_0.length) = true := decide_eq_true (by omega)
          clear c17
          (first | rw [c17b0] | (simp only [i64_w, i32_w]; rw [c17b0]) | skip)
          have H' := Aside0.mk H
          clear H
          have hnb18 := NB346_343.out
          have hnc18 := NB343_346.out
          obtain ⟨hcz19_0, hcz19_1, hfz19_0, hfz19_1⟩ := bz2 BK346
          iterate 3 ((try go_quiet (first | (go_at_call 41; (with_reducible refine (spec_IsName.calls k1 ((rd_T58 l0_0 x3_1).f0) true _ A13.out).mono ?_); rintro e w' ⟨rfl, ⟨nd, rfl⟩⟩; (try first | exact ⟨rfl, _, World.drewN_drewN _ _ _⟩ | exact ⟨rfl, _, Eq.trans (World.drewN_drewN _ _ _) (congrArg (World.drewN _) (Nat.add_assoc _ _ _))⟩)) | (go_at_call 42; (with_reducible refine (spec_AreValues.calls k1 _ _ ((rd_T58 l0_0 x3_1).f1) true _ ?side1 ?side2 A15.out).mono ?_); (case side1 => exact Kd.C_below HR345_1.out bl); (case side2 => exact HC345_1.out); rintro e w' ⟨rfl, ⟨nd, rfl⟩⟩; (try first | exact ⟨rfl, _, World.drewN_drewN _ _ _⟩ | exact ⟨rfl, _, Eq.trans (World.drewN_drewN _ _ _) (congrArg (World.drewN _) (Nat.add_assoc _ _ _))⟩); obtain ⟨hcz20_0, hfz20_0⟩ := bz1 BK343; have p349 : 0 ≤ (0 : Int) := (by omega); have q349 : 0 < (l0_0.length : Int) := dt; obtain ⟨ad349, A349_1, c349_1, e349, hx349_0, hx349_1, hl349_1, hi349_1⟩ := at_T58 HR0_0.out 0 p349 q349; obtain rfl : ad345 = ad349 := (by injection e349); have qi349 : (0 < l0_0.length) = True := eq_true (by omega); (try rw [show ((0 : Int)).toNat = 0 from rfl] at hx349_0); (try rw [show 0 * 2 = 0 from rfl] at hx349_0); (try rw [Addr.add_zero'] at hx349_0); (try rw [show ((0 : Int)).toNat = 0 from rfl] at hx349_1); (try rw [show 0 * 2 = 0 from rfl] at hx349_1); (try rw [Addr.add_zero'] at hx349_1); have hn349_0 : ad345.block ≠ gb346 := Nat.ne_of_lt (Nat.lt_of_lt_of_le (by have := World.block_lt_of_cell? _ _ hx349_0; first | rwa [add_block] at this | exact this) GW346.out); have hn349_1 : ad345.block ≠ gb346 := Nat.ne_of_lt (Nat.lt_of_lt_of_le (by have := World.block_lt_of_cell? _ _ hx349_0; first | rwa [add_block] at this | exact this) GW346.out); replace hx349_0 := (HB.out.cell (World.block_lt_of_cell? w _ hx349_0)).trans hx349_0; replace hx349_1 := (HB.out.cell (World.block_lt_of_cell? w _ hx349_1)).trans hx349_1; have HR349_1 := Aside0.mk hi349_1; have HC349_1 := Aside0.mk hl349_1; clear hi349_1 hl349_1; replace hx349_0 := (cell_far (p := ⟨gb346, 0, none⟩) (by first | (rw [add_block]; exact hn349_0) | (show (Addr.add _ _).block ≠ _; rw [add_block]; exact hn349_0) | exact hn349_0) (.string ((rd_T58 l0_0 x3_1).f0))).trans hx349_0; replace hx349_1 := (cell_far (p := ⟨gb346, 0, none⟩) (by first | (rw [add_block]; exact hn349_0) | (show (Addr.add _ _).block ≠ _; rw [add_block]; exact hn349_0) | exact hn349_0) (.string ((rd_T58 l0_0 x3_1).f0))).trans hx349_1; replace hx349_0 := (cell_far (p := ⟨gb346, 1, none⟩) (by first | (rw [add_block]; exact hn349_1) | (show (Addr.add _ _).block ≠ _; rw [add_block]; exact hn349_1) | exact hn349_1) (.slice A345_1 ((rd_T58 l0_0 x3_1).f1).length c345_1)).trans hx349_0; replace hx349_1 := (cell_far (p := ⟨gb346, 1, none⟩) (by first | (rw [add_block]; exact hn349_1) | (show (Addr.add _ _).block ≠ _; rw [add_block]; exact hn349_1) | exact hn349_1) (.slice A345_1 ((rd_T58 l0_0 x3_1).f1).length c345_1)).trans hx349_1; (try have hy349_0 := fun (n_ : Nat) => (show ((((w10.drewN n_).setCell ⟨gb346, 0, none⟩ (.string ((rd_T58 l0_0 x3_1).f0))).setCell ⟨gb346, 1, none⟩ (.slice A345_1 ((rd_T58 l0_0 x3_1).f1).length c345_1))).cell? _ = some _ from hx349_0)); (try have hy349_1 := fun (n_ : Nat) => (show ((((w10.drewN n_).setCell ⟨gb346, 0, none⟩ (.string ((rd_T58 l0_0 x3_1).f0))).setCell ⟨gb346, 1, none⟩ (.slice A345_1 ((rd_T58 l0_0 x3_1).f1).length c345_1))).cell? _ = some _ from hx349_1)); clear hn349_0; clear hn349_1; replace p349 := eq_true p349; replace q349 := eq_true q349))); (try go_wp2_with (first | (go_at_call 41; (with_reducible refine (spec_IsName.calls k1 ((rd_T58 l0_0 x3_1).f0) true _ A13.out).mono ?_); rintro e w' ⟨rfl, ⟨nd, rfl⟩⟩; (try first | exact ⟨rfl, _, World.drewN_drewN _ _ _⟩ | exact ⟨rfl, _, Eq.trans (World.drewN_drewN _ _ _) (congrArg (World.drewN _) (Nat.add_assoc _ _ _))⟩)) | (go_at_call 42; (with_reducible refine (spec_AreValues.calls k1 _ _ ((rd_T58 l0_0 x3_1).f1) true _ ?side1 ?side2 A15.out).mono ?_); (case side1 => exact Kd.C_below HR345_1.out bl); (case side2 => exact HC345_1.out); rintro e w' ⟨rfl, ⟨nd, rfl⟩⟩; (try first | exact ⟨rfl, _, World.drewN_drewN _ _ _⟩ | exact ⟨rfl, _, Eq.trans (World.drewN_drewN _ _ _) (congrArg (World.drewN _) (Nat.add_assoc _ _ _))⟩); obtain ⟨hcz20_0, hfz20_0⟩ := bz1 BK343; have p349 : 0 ≤ (0 : Int) := (by omega); have q349 : 0 < (l0_0.length : Int) := dt; obtain ⟨ad349, A349_1, c349_1, e349, hx349_0, hx349_1, hl349_1, hi349_1⟩ := at_T58 HR0_0.out 0 p349 q349; obtain rfl : ad345 = ad349 := (by injection e349); have qi349 : (0 < l0_0.length) = True := eq_true (by omega); (try rw [show ((0 : Int)).toNat = 0 from rfl] at hx349_0); (try rw [show 0 * 2 = 0 from rfl] at hx349_0); (try rw [Addr.add_zero'] at hx349_0); (try rw [show ((0 : Int)).toNat = 0 from rfl] at hx349_1); (try rw [show 0 * 2 = 0 from rfl] at hx349_1); (try rw [Addr.add_zero'] at hx349_1); have hn349_0 : ad345.block ≠ gb346 := Nat.ne_of_lt (Nat.lt_of_lt_of_le (by have := World.block_lt_of_cell? _ _ hx349_0; first | rwa [add_block] at this | exact this) GW346.out); have hn349_1 : ad345.block ≠ gb346 := Nat.ne_of_lt (Nat.lt_of_lt_of_le (by have := World.block_lt_of_cell? _ _ hx349_0; first | rwa [add_block] at this | exact this) GW346.out); replace hx349_0 := (HB.out.cell (World.block_lt_of_cell? w _ hx349_0)).trans hx349_0; replace hx349_1 := (HB.out.cell (World.block_lt_of_cell? w _ hx349_1)).trans hx349_1; have HR349_1 := Aside0.mk hi349_1; have HC349_1 := Aside0.mk hl349_1; clear hi349_1 hl349_1; replace hx349_0 := (cell_far (p := ⟨gb346, 0, none⟩) (by first | (rw [add_block]; exact hn349_0) | (show (Addr.add _ _).block ≠ _; rw [add_block]; exact hn349_0) | exact hn349_0) (.string ((rd_T58 l0_0 x3_1).f0))).trans hx349_0; replace hx349_1 := (cell_far (p := ⟨gb346, 0, none⟩) (by first | (rw [add_block]; exact hn349_0) | (show (Addr.add _ _).block ≠ _; rw [add_block]; exact hn349_0) | exact hn349_0) (.string ((rd_T58 l0_0 x3_1).f0))).trans hx349_1; replace hx349_0 := (cell_far (p := ⟨gb346, 1, none⟩) (by first | (rw [add_block]; exact hn349_1) | (show (Addr.add _ _).block ≠ _; rw [add_block]; exact hn349_1) | exact hn349_1) (.slice A345_1 ((rd_T58 l0_0 x3_1).f1).length c345_1)).trans hx349_0; replace hx349_1 := (cell_far (p := ⟨gb346, 1, none⟩) (by first | (rw [add_block]; exact hn349_1) | (show (Addr.add _ _).block ≠ _; rw [add_block]; exact hn349_1) | exact hn349_1) (.slice A345_1 ((rd_T58 l0_0 x3_1).f1).length c345_1)).trans hx349_1; (try have hy349_0 := fun (n_ : Nat) => (show ((((w10.drewN n_).setCell ⟨gb346, 0, none⟩ (.string ((rd_T58 l0_0 x3_1).f0))).setCell ⟨gb346, 1, none⟩ (.slice A345_1 ((rd_T58 l0_0 x3_1).f1).length c345_1))).cell? _ = some _ from hx349_0)); (try have hy349_1 := fun (n_ : Nat) => (show ((((w10.drewN n_).setCell ⟨gb346, 0, none⟩ (.string ((rd_T58 l0_0 x3_1).f0))).setCell ⟨gb346, 1, none⟩ (.slice A345_1 ((rd_T58 l0_0 x3_1).f1).length c345_1))).cell? _ = some _ from hx349_1)); clear hn349_0; clear hn349_1; replace p349 := eq_true p349; replace q349 := eq_true q349))))
          go_meet
          case rel => exact ⟨_, (((((rd_T58 l0_0 x3_1).f1).length : Int) != (((rd_T58 l0_0 0).f1).length : Int))), (by first | rfl | (simp; done) | (simp [*]; done)), H', ⟨by have := HK1.out; first | omega | exact Nat.le_refl _⟩, ⟨bq⟩, ⟨bq⟩, ⟨bl⟩⟩
         ·rw [if_neg c17] at H
          exact absurd H (by simp)
        ·replace c16 := Bool.eq_false_iff.mpr c16
         subst c16
         rw [if_neg nf] at H
         have H' := Aside0.mk H
         clear H
         have hnb21 := NB346_343.out
         have hnc21 := NB343_346.out
         obtain ⟨hcz22_0, hcz22_1, hfz22_0, hfz22_1⟩ := bz2 BK346
         iterate 3 ((try go_quiet (first | (go_at_call 41; (with_reducible refine (spec_IsName.calls k1 ((rd_T58 l0_0 x3_1).f0) true _ A13.out).mono ?_); rintro e w' ⟨rfl, ⟨nd, rfl⟩⟩; (try first | exact ⟨rfl, _, World.drewN_drewN _ _ _⟩ | exact ⟨rfl, _, Eq.trans (World.drewN_drewN _ _ _) (congrArg (World.drewN _) (Nat.add_assoc _ _ _))⟩)) | (go_at_call 42; (with_reducible refine (spec_AreValues.calls k1 _ _ ((rd_T58 l0_0 x3_1).f1) false _ ?side1 ?side2 A15.out).mono ?_); (case side1 => exact Kd.C_below HR345_1.out bl); (case side2 => exact HC345_1.out); rintro e w' ⟨rfl, ⟨nd, rfl⟩⟩; (try first | exact ⟨rfl, _, World.drewN_drewN _ _ _⟩ | exact ⟨rfl, _, Eq.trans (World.drewN_drewN _ _ _) (congrArg (World.drewN _) (Nat.add_assoc _ _ _))⟩)))); (try go_wp2_with (first | (go_at_call 41; (with_reducible refine (spec_IsName.calls k1 ((rd_T58 l0_0 x3_1).f0) true _ A13.out).mono ?_); rintro e w' ⟨rfl, ⟨nd, rfl⟩⟩; (try first | exact ⟨rfl, _, World.drewN_drewN _ _ _⟩ | exact ⟨rfl, _, Eq.trans (World.drewN_drewN _ _ _) (congrArg (World.drewN _) (Nat.add_assoc _ _ _))⟩)) | (go_at_call 42; (with_reducible refine (spec_AreValues.calls k1 _ _ ((rd_T58 l0_0 x3_1).f1) false _ ?side1 ?side2 A15.out).mono ?_); (case side1 => exact Kd.C_below HR345_1.out bl); (case side2 => exact HC345_1.out); rintro e w' ⟨rfl, ⟨nd, rfl⟩⟩; (try first | exact ⟨rfl, _, World.drewN_drewN _ _ _⟩ | exact ⟨rfl, _, Eq.trans (World.drewN_drewN _ _ _) (congrArg (World.drewN _) (Nat.add_assoc _ _ _))⟩)))))
         go_meet
         case rel => exact ⟨_, (true), (by first | rfl | (simp; done) | (simp [*]; done)), H', ⟨by have := HK1.out; first | omega | exact Nat.le_refl _⟩, ⟨bq⟩, ⟨bq⟩, ⟨bl⟩⟩
       ·replace c14 := Bool.eq_false_iff.mpr c14
        subst c14
        rw [if_neg nf] at H
        have H' := Aside0.mk H
        clear H
        have hnb23 := NB346_343.out
        have hnc23 := NB343_346.out
        obtain ⟨hcz24_0, hcz24_1, hfz24_0, hfz24_1⟩ := bz2 BK346
        iterate 3 ((try go_quiet (first | (go_at_call 41; (with_reducible refine (spec_IsName.calls k1 ((rd_T58 l0_0 x3_1).f0) false _ A13.out).mono ?_); rintro e w' ⟨rfl, ⟨nd, rfl⟩⟩; (try first | exact ⟨rfl, _, World.drewN_drewN _ _ _⟩ | exact ⟨rfl, _, Eq.trans (World.drewN_drewN _ _ _) (congrArg (World.drewN _) (Nat.add_assoc _ _ _))⟩)))); (try go_wp2_with (first | (go_at_call 41; (with_reducible refine (spec_IsName.calls k1 ((rd_T58 l0_0 x3_1).f0) false _ A13.out).mono ?_); rintro e w' ⟨rfl, ⟨nd, rfl⟩⟩; (try first | exact ⟨rfl, _, World.drewN_drewN _ _ _⟩ | exact ⟨rfl, _, Eq.trans (World.drewN_drewN _ _ _) (congrArg (World.drewN _) (Nat.add_assoc _ _ _))⟩)))))
        go_meet
        case rel => exact ⟨_, (true), (by first | rfl | (simp; done) | (simp [*]; done)), H', ⟨by have := HK1.out; first | omega | exact Nat.le_refl _⟩, ⟨bq⟩, ⟨bq⟩, ⟨bl⟩⟩
      case rest =>
       clear HC8
       try clear c1
       try clear c2
       try clear p2
       try clear c3
       try clear p3
       try clear q3
       try clear hx3
       try clear qi3
       try clear c6
       try clear c6b0
       try clear c7
       try clear c7b0
       try clear c11
       try clear c12
       try clear c14
       try clear c16
       try clear c17
       try clear c17b0
       try clear c17b1
       try clear c18
       try clear c21
       try clear c23
       try clear hcz12_0
       try clear hcz12_1
       try clear hcz19_0
       try clear hcz19_1
       try clear hcz20_0
       try clear hcz22_0
       try clear hcz22_1
       try clear hcz24_0
       try clear hcz24_1
       try clear hcz5_0
       try clear hcz9_0
       try clear hfz12_0
       try clear hfz12_1
       try clear hfz19_0
       try clear hfz19_1
       try clear hfz20_0
       try clear hfz22_0
       try clear hfz22_1
       try clear hfz24_0
       try clear hfz24_1
       try clear hfz5_0
       try clear hfz9_0
       try clear hx345_0
       try clear hx345_1
       try clear hx349_0
       try clear hx349_1
       try clear p2
       try clear p345
       try clear p349
       try clear q345
       try clear q349
       obtain ⟨kq, x44_7, rfl, HA, HJ7, BK343, BK346, HB⟩ := hcut
       cases kq with
       | zero => exact absurd HA.out (by simp [spec_IsTable.j1])
       | succ kj7 =>
        have H := HA.out
        clear HA
        simp only [spec_IsTable.j1] at H
        by_cases c25 : x44_7 = true
        ·subst c25
         rw [if_pos rfl] at H
         obtain rfl := Option.some.inj H
         go_wp2
         repeat (go_quiet (fail); try go_wp2)
         go_ret
         exact ⟨by first | rfl | (simp [errW_none, errW_some] <;> rfl) | (simp [*, errW_none, errW_some] <;> rfl), bl⟩
        ·replace c25 := Bool.eq_false_iff.mpr c25
         subst c25
         rw [if_neg nf] at H
         have H' := Aside0.mk H
         clear H
         go_wp2
         repeat (go_quiet (fail); try go_wp2)
         go_loopg [5] kj7 (fun kq v5 w' => ∃ (x5_3 : Int), v5 = .int .i64 x5_3 ∧ Aside0 (spec_IsTable.l1 kq x3_1 x5_3 l0_0 ((rd_T58 l0_0 x3_1).f0) ((rd_T58 l0_0 x3_1).f1) = some r) ∧ Aside0 (kq ≤ kj7) ∧ Aside0 (w'.heap[gb343]? = some (.cells #[(.slice (some ad345) l0_0.length c0_0)] 26 (0, 0))) ∧ Aside0 (w'.heap[gb346]? = some (.cells #[.string ((rd_T58 l0_0 x3_1).f0), (.slice A345_1 ((rd_T58 l0_0 x3_1).f1).length c345_1)] 58 (0, 0))) ∧ Aside0 (Below w.heap.size w w'))
         case atStart => exact ⟨(0), (by first | rfl | (simp; done) | (simp [*]; done)), H', ⟨Nat.le_refl _⟩, ⟨ub BK343.out⟩, ⟨ub BK346.out⟩, ⟨bl⟩⟩
         case round =>
          clear H'
          try clear c1
          try clear c2
          try clear p2
          try clear c3
          try clear p3
          try clear q3
          try clear hx3
          try clear qi3
          try clear c6
          try clear c6b0
          try clear c7
          try clear c7b0
          try clear c11
          try clear c12
          try clear c14
          try clear c16
          try clear c17
          try clear c17b0
          try clear c17b1
          try clear c18
          try clear c21
          try clear c23
          try clear c25
          try clear hcz12_0
          try clear hcz12_1
          try clear hcz19_0
          try clear hcz19_1
          try clear hcz20_0
          try clear hcz22_0
          try clear hcz22_1
          try clear hcz24_0
          try clear hcz24_1
          try clear hcz5_0
          try clear hcz9_0
          try clear hfz12_0
          try clear hfz12_1
          try clear hfz19_0
          try clear hfz19_1
          try clear hfz20_0
          try clear hfz22_0
          try clear hfz22_1
          try clear hfz24_0
          try clear hfz24_1
          try clear hfz5_0
          try clear hfz9_0
          try clear hx345_0
          try clear hx345_1
          try clear hx349_0
          try clear hx349_1
          try clear p2
          try clear p3
          try clear p345
          try clear p349
          try clear q3
          try clear q345
          try clear q349
          obtain ⟨x5_3, rfl, HA, HK3, BK343, BK346, HB⟩ := hrel
          cases gk with
          | zero => exact absurd HA.out (by simp [spec_IsTable.l1])
          | succ k3 =>
           have H := HA.out
           clear HA
           simp only [spec_IsTable.l1] at H
           by_cases c26 : x5_3 < x3_1
           ·rw [if_pos c26] at H
            have c26b0 : decide (x5_3 < x3_1) = true := decide_eq_true c26
            clear c26
            by_cases c27 : 0 ≤ x5_3
            ·rw [if_pos c27] at H
             have c27b0 : decide (0 ≤ x5_3) = true := decide_eq_true c27
             clear c27
             by_cases c28 : x5_3 < (l0_0.length : Int)
             ·rw [if_pos c28] at H
              have c28b0 : decide (x5_3 < (l0_0.length : Int)) = true := decide_eq_true c28
              clear c28
              by_cases c29 : ((rd_T58 l0_0 x5_3).f0).toList = ((rd_T58 l0_0 x3_1).f0).toList
              ·rw [if_pos c29] at H
               have c29b0 : (((rd_T58 l0_0 x5_3).f0).toList == ((rd_T58 l0_0 x3_1).f0).toList) = true := beq_iff_eq.mpr c29
               have c29b1 : (((rd_T58 l0_0 x5_3).f0).toList != ((rd_T58 l0_0 x3_1).f0).toList) = false := bne_eq_false_iff_eq.mpr c29
               clear c29
               obtain rfl := Option.some.inj H
               have hnb30 := NB343_346.out
               have hnc30 := NB346_343.out
               obtain ⟨hcz31_0, hfz31_0⟩ := bz1 BK343
               have p350 : 0 ≤ (x5_3 : Int) := dt
               have q350 : x5_3 < (l0_0.length : Int) := dt
               obtain ⟨ad350, A350_1, c350_1, e350, hx350_0, hx350_1, hl350_1, hi350_1⟩ := at_T58 HR0_0.out x5_3 p350 q350
               obtain rfl : ad345 = ad350 := (by injection e350)
               replace hx350_0 := (HB.out.cell (World.block_lt_of_cell? w _ hx350_0)).trans hx350_0
               replace hx350_1 := (HB.out.cell (World.block_lt_of_cell? w _ hx350_1)).trans hx350_1
               have HR350_1 := Aside0.mk hi350_1
               have HC350_1 := Aside0.mk hl350_1
               clear hi350_1 hl350_1
               replace p350 := eq_true p350
               replace q350 := eq_true q350
               obtain ⟨hcz32_0, hcz32_1, hfz32_0, hfz32_1⟩ := bz2 BK346
               go_wp2
               repeat (go_quiet (fail); try go_wp2)
               go_ret
               exact ⟨by first | rfl | (simp [errW_none, errW_some] <;> rfl) | (simp [*, errW_none, errW_some] <;> rfl), bl⟩
              ·rw [if_neg c29] at H
               have c29b0 : (((rd_T58 l0_0 x5_3).f0).toList == ((rd_T58 l0_0 x3_1).f0).toList) = false := beq_eq_false_iff_ne.mpr c29
               have c29b1 : (((rd_T58 l0_0 x5_3).f0).toList != ((rd_T58 l0_0 x3_1).f0).toList) = true := bne_iff_ne.mpr c29
               have H' := Aside0.mk H
               clear H
               have hnb33 := NB343_346.out
               have hnc33 := NB346_343.out
               obtain ⟨hcz34_0, hfz34_0⟩ := bz1 BK343
               have p350 : 0 ≤ (x5_3 : Int) := dt
               have q350 : x5_3 < (l0_0.length : Int) := dt
               obtain ⟨ad350, A350_1, c350_1, e350, hx350_0, hx350_1, hl350_1, hi350_1⟩ := at_T58 HR0_0.out x5_3 p350 q350
               obtain rfl : ad345 = ad350 := (by injection e350)
               replace hx350_0 := (HB.out.cell (World.block_lt_of_cell? w _ hx350_0)).trans hx350_0
               replace hx350_1 := (HB.out.cell (World.block_lt_of_cell? w _ hx350_1)).trans hx350_1
               have HR350_1 := Aside0.mk hi350_1
               have HC350_1 := Aside0.mk hl350_1
               clear hi350_1 hl350_1
               replace p350 := eq_true p350
               replace q350 := eq_true q350
               obtain ⟨hcz35_0, hcz35_1, hfz35_0, hfz35_1⟩ := bz2 BK346
               go_wp2
               repeat (go_quiet (fail); try go_wp2)
               go_roundg k3
               case measure => have := HK1.out; have := HJ7.out; have := HK3.out; omega
               case rel => exact ⟨(wrap64 (x5_3 + 1)), (by first | rfl | (simp; done) | (simp [*]; done)), H', ⟨by have := HK1.out; have := HJ7.out; have := HK3.out; omega⟩, ⟨ub BK343.out⟩, ⟨ub BK346.out⟩, ⟨bl⟩⟩
             ·rw [if_neg c28] at H
              exact absurd H (by simp)
            ·rw [if_neg c27] at H
             exact absurd H (by simp)
           ·rw [if_neg c26] at H
            have c26b0 : decide (x5_3 < x3_1) = false := decide_eq_false c26
            clear c26
            have H' := Aside0.mk H
            clear H
            go_wp2
            repeat (go_quiet (fail); try go_wp2)
            go_roundg k3
            case measure => have := HK1.out; have := HJ7.out; have := HK3.out; omega
            case rel => exact ⟨(wrap64 (x3_1 + 1)), (by first | rfl | (simp; done) | (simp [*]; done)), H', ⟨by have := HK1.out; have := HJ7.out; have := HK3.out; omega⟩, ⟨ub BK343.out⟩, ⟨bl⟩⟩
     ·rw [if_neg c7] at H
      exact absurd H (by simp)
    ·rw [if_neg c6] at H
     have c6b0 : decide (x3_1 < (l0_0.length : Int)) = false := decide_eq_false c6
     clear c6
     obtain rfl := Option.some.inj H
     obtain ⟨hcz36_0, hfz36_0⟩ := bz1 BK343
     go_wp2
     repeat (go_quiet (fail); try go_wp2)
     go_ret
     exact ⟨by first | rfl | (simp [errW_none, errW_some] <;> rfl) | (simp [*, errW_none, errW_some] <;> rfl), bl⟩
 ·replace c3 := Bool.eq_false_iff.mpr c3
  subst c3
  rw [if_neg nf] at H
  obtain rfl := Option.some.inj H
  go_enter Tryz.func12, Tryz.ntmps12
  iterate 3 ((try go_quiet (first | ((with_reducible refine gate_dst (N := 1) rfl ?_); (try (refine gate_guard (by rfl) ?_; dsimp only)); refine bx 1 #[.slice A0_0 l0_0.length c0_0] 26 ?_; intro gb343 hg w37 hbox hb; have BK343 := mk hbox; have GW343 := wg hg; have GE343 := wg hg; replace HB := wh hb; clear hb hbox hg; obtain ⟨hcz38_0, hfz38_0⟩ := bz1 BK343) | (go_at_call 40; (with_reducible refine (spec_l1In.calls (l0_0.length : Int) 1 4 false _ A2.out).mono ?_); rintro e w' ⟨rfl, ⟨nd, rfl⟩⟩; (try first | exact ⟨rfl, _, World.drewN_drewN _ _ _⟩ | exact ⟨rfl, _, Eq.trans (World.drewN_drewN _ _ _) (congrArg (World.drewN _) (Nat.add_assoc _ _ _))⟩)))); (try go_wp2_with (first | ((with_reducible refine gate_dst (N := 1) rfl ?_); (try (refine gate_guard (by rfl) ?_; dsimp only)); refine bx 1 #[.slice A0_0 l0_0.length c0_0] 26 ?_; intro gb343 hg w37 hbox hb; have BK343 := mk hbox; have GW343 := wg hg; have GE343 := wg hg; replace HB := wh hb; clear hb hbox hg; obtain ⟨hcz38_0, hfz38_0⟩ := bz1 BK343) | (go_at_call 40; (with_reducible refine (spec_l1In.calls (l0_0.length : Int) 1 4 false _ A2.out).mono ?_); rintro e w' ⟨rfl, ⟨nd, rfl⟩⟩; (try first | exact ⟨rfl, _, World.drewN_drewN _ _ _⟩ | exact ⟨rfl, _, Eq.trans (World.drewN_drewN _ _ _) (congrArg (World.drewN _) (Nat.add_assoc _ _ _))⟩)))))
  go_ret
  exact ⟨by first | rfl | (simp [errW_none, errW_some] <;> rfl) | (simp [*, errW_none, errW_some] <;> rfl), bl⟩

/-! ### spec_RowCount: function 25 -/
def spec_RowCount.f (k : Nat) (l0_0 : List (S58)) : Option (Int) := (spec_IsTable.f k l0_0).bind fun t352 => (if t352 = true then (if 0 < (l0_0.length : Int) then (some (((rd_T58 l0_0 0).f1).length : Int)) else (none)) else (some 0))
theorem spec_RowCount.mono : ∀ a0 k, LeO (spec_RowCount.f k a0) (spec_RowCount.f (k + 1) a0) := by
  intro a0 k
  unfold spec_RowCount.f
  exact mo
instance spec_RowCount.mi (a0 k) : LeC (spec_RowCount.f k a0) (spec_RowCount.f (k + 1) a0) := ⟨spec_RowCount.mono a0 k⟩
set_option maxHeartbeats 8000000 in
set_option maxRecDepth 100000 in
theorem spec_RowCount.calls (k : Nat) (A0_0 : Option Addr) (c0_0 : Nat) (l0_0 : List (S58)) (r : Int) (w : World) (hr0_0 : Kd.C k58 w A0_0 l0_0.length l0_0) (hc0_0 : l0_0.length ≤ c0_0) (h : spec_RowCount.f k l0_0 = some r) :
    Calls Tryz.prog 25 #[.agg #[.slice A0_0 l0_0.length c0_0]] w fun e w' => e = .returned (.int .i64 r) ∧ Below w.heap.size w w' := by
  have hu26 := Tryz.underlying26
  have HR0_0 := Aside0.mk hr0_0
  have HC0_0 := Aside0.mk hc0_0
  clear hr0_0 hc0_0
  have HB := Aside0.mk (Below.refl w.heap.size w)
  have H : ((spec_IsTable.f k l0_0).bind fun t352 => (if t352 = true then (if 0 < (l0_0.length : Int) then (some (((rd_T58 l0_0 0).f1).length : Int)) else (none)) else (some 0))) = some r := h
  clear h
  revert H; refine bo ?_; rintro t352 A2 H
  by_cases c3 : t352 = true
  · subst c3
    rw [if_pos rfl] at H
    by_cases c4 : 0 < (l0_0.length : Int)
    · rw [if_pos c4] at H
      have c4b0 : decide (0 < (l0_0.length : Int)) = true := decide_eq_true c4
      have c4b1 : decide (0 < l0_0.length) = true := decide_eq_true (by omega)
      clear c4
      obtain rfl := Option.some.inj H
      go_enter Tryz.func25, Tryz.ntmps25
      go_wp2_with (first | ((with_reducible refine gate_dst (N := 1) rfl ?_); refine bx 1 #[.slice A0_0 l0_0.length c0_0] 26 ?_; intro gb351 hg w5 hbox hb; have BK351 := mk hbox; have GW351 := wg hg; have GE351 := wg hg; replace HB := wh hb; clear hb hbox hg; obtain ⟨hcz6_0, hfz6_0⟩ := bz1 BK351) | ((with_reducible refine gate_callee (f := 12) rfl ?_); refine gl (some 4) rfl Tryz.func12 #[.agg #[.slice A0_0 l0_0.length c0_0]] ?_; (with_reducible refine (spec_IsTable.calls k _ _ l0_0 true _ ?side1 ?side2 A2.out).mono ?_); (case side1 => exact uc (Kd.C_below HR0_0.out HB.out)); (case side2 => exact HC0_0.out); rintro e w7 ⟨rfl, hb⟩; refine ⟨_, rfl, ?_⟩; replace BK351 := wb BK351 hb; replace HB := wh hb; (try clear hb); (try clear hb2); (try clear hk); (try clear hi); obtain ⟨hcz8_0, hfz8_0⟩ := bz1 BK351; have p353 : 0 ≤ (0 : Int) := (by omega); have q353 : 0 < (l0_0.length : Int) := dt; obtain ⟨ad353, A353_1, c353_1, e353, hx353_0, hx353_1, hl353_1, hi353_1⟩ := at_T58 HR0_0.out 0 p353 q353; cases e353; have qi353 : (0 < l0_0.length) = True := eq_true (by omega); (try rw [show ((0 : Int)).toNat = 0 from rfl] at hx353_0); (try rw [show 0 * 2 = 0 from rfl] at hx353_0); (try rw [Addr.add_zero'] at hx353_0); (try rw [show ((0 : Int)).toNat = 0 from rfl] at hx353_1); (try rw [show 0 * 2 = 0 from rfl] at hx353_1); (try rw [Addr.add_zero'] at hx353_1); replace hx353_0 := (HB.out.cell (World.block_lt_of_cell? w _ hx353_0)).trans hx353_0; replace hx353_1 := (HB.out.cell (World.block_lt_of_cell? w _ hx353_1)).trans hx353_1; have HR353_1 := Aside0.mk hi353_1; have HC353_1 := Aside0.mk hl353_1; clear hi353_1 hl353_1; replace p353 := eq_true p353; replace q353 := eq_true q353))
      go_ret
      exact ⟨by first | rfl | (simp [errW_none, errW_some] <;> rfl) | (simp [*, errW_none, errW_some] <;> rfl), bl⟩
    · rw [if_neg c4] at H
      exact absurd H (by simp)
  · replace c3 := Bool.eq_false_iff.mpr c3
    subst c3
    rw [if_neg nf] at H
    obtain rfl := Option.some.inj H
    go_enter Tryz.func25, Tryz.ntmps25
    go_wp2_with (first | ((with_reducible refine gate_dst (N := 1) rfl ?_); refine bx 1 #[.slice A0_0 l0_0.length c0_0] 26 ?_; intro gb351 hg w9 hbox hb; have BK351 := mk hbox; have GW351 := wg hg; have GE351 := wg hg; replace HB := wh hb; clear hb hbox hg; obtain ⟨hcz10_0, hfz10_0⟩ := bz1 BK351) | ((with_reducible refine gate_callee (f := 12) rfl ?_); refine gl (some 4) rfl Tryz.func12 #[.agg #[.slice A0_0 l0_0.length c0_0]] ?_; (with_reducible refine (spec_IsTable.calls k _ _ l0_0 false _ ?side1 ?side2 A2.out).mono ?_); (case side1 => exact uc (Kd.C_below HR0_0.out HB.out)); (case side2 => exact HC0_0.out); rintro e w11 ⟨rfl, hb⟩; refine ⟨_, rfl, ?_⟩; replace BK351 := wb BK351 hb; replace HB := wh hb; (try clear hb); (try clear hb2); (try clear hk); (try clear hi)))
    go_ret
    exact ⟨by first | rfl | (simp [errW_none, errW_some] <;> rfl) | (simp [*, errW_none, errW_some] <;> rfl), bl⟩

/-! ### spec_FormatInt: function 39 -/
def spec_FormatInt.l0 : Nat → Int → ByteArray → Bool → Option (ByteArray)
  | 0, _, _, _ => none
  | k + 1, x0, x3, x4 => if x0 = 0 then (if x4 = true then (if 1 + x3.size ≤ 9223372036854775807 then (some ((⟨#[45]⟩ : ByteArray) ++ x3)) else (none)) else (some x3)) else (if (Int.tmod x0 10) < 0 then ((some (([(wrap64 (48 + (wrap64 (-(Int.tmod x0 10))))) % 256] : List Int) : List Int)).bind fun y354 => (if (strOfNums y354).size + x3.size ≤ 9223372036854775807 then (spec_FormatInt.l0 k (wrap64 (Int.tdiv x0 10)) ((strOfNums y354) ++ x3) x4) else (none))) else ((some (([(wrap64 (48 + (Int.tmod x0 10))) % 256] : List Int) : List Int)).bind fun y357 => (if (strOfNums y357).size + x3.size ≤ 9223372036854775807 then (spec_FormatInt.l0 k (wrap64 (Int.tdiv x0 10)) ((strOfNums y357) ++ x3) x4) else (none))))
def spec_FormatInt.f (k : Nat) (a0 : Int) : Option (ByteArray) := if a0 = 0 then (some (⟨#[48]⟩ : ByteArray)) else (spec_FormatInt.l0 k a0 (⟨#[]⟩ : ByteArray) (decide (a0 < 0)))
theorem spec_FormatInt.mono_l : ∀ k, (∀ y0 y1 y2, LeO (spec_FormatInt.l0 k y0 y1 y2) (spec_FormatInt.l0 (k + 1) y0 y1 y2))
  | 0 => fun _ _ _ r h => by simp [spec_FormatInt.l0] at h
  | k + 1 => by
    have ih0 := spec_FormatInt.mono_l k
    · intro y0 y1 y2
      unfold spec_FormatInt.l0
      exact mo
theorem spec_FormatInt.mono : ∀ a0 k, LeO (spec_FormatInt.f k a0) (spec_FormatInt.f (k + 1) a0) := by
  intro a0 k
  have ih0 := spec_FormatInt.mono_l k
  unfold spec_FormatInt.f
  exact mo
instance spec_FormatInt.mi (a0 k) : LeC (spec_FormatInt.f k a0) (spec_FormatInt.f (k + 1) a0) := ⟨spec_FormatInt.mono a0 k⟩
set_option maxHeartbeats 8000000 in
set_option maxRecDepth 100000 in
theorem spec_FormatInt.calls (k : Nat) (a0 : Int) (r : ByteArray) (w : World) (h : spec_FormatInt.f k a0 = some r) :
    Calls Tryz.prog 39 #[.int .i64 a0] w fun e w' => e = .returned (.string r) ∧ Below w.heap.size w w' := by
  have HB := Aside0.mk (Below.refl w.heap.size w)
  have H : (if a0 = 0 then (some (⟨#[48]⟩ : ByteArray)) else (spec_FormatInt.l0 k a0 (⟨#[]⟩ : ByteArray) (decide (a0 < 0)))) = some r := h
  clear h
  by_cases c2 : a0 = 0
  · rw [if_pos c2] at H
    have c2b0 : (a0 == 0) = true := beq_iff_eq.mpr c2
    have c2b1 : (a0 != 0) = false := bne_eq_false_iff_eq.mpr c2
    clear c2
    obtain rfl := Option.some.inj H
    go_enter Tryz.func39, Tryz.ntmps39
    go_wp2
    all_goals (try (exfalso; omega))
    go_ret
    exact ⟨by first | rfl | (simp [errW_none, errW_some] <;> rfl) | (simp [*, errW_none, errW_some] <;> rfl), bl⟩
  · rw [if_neg c2] at H
    have c2b0 : (a0 == 0) = false := beq_eq_false_iff_ne.mpr c2
    have c2b1 : (a0 != 0) = true := bne_iff_ne.mpr c2
    have H' := Aside0.mk H
    clear H
    go_enter Tryz.func39, Tryz.ntmps39
    go_wp2
    all_goals (try (exfalso; omega))
    go_loopg [0, 3] k (fun kq v0 v3 w' => ∃ (x0_1 : Int) (x3_1 : ByteArray), v0 = .int .i64 x0_1 ∧ v3 = .string x3_1 ∧ Aside0 (spec_FormatInt.l0 kq x0_1 x3_1 (decide (a0 < 0)) = some r) ∧ Aside0 (kq ≤ k) ∧ Aside0 (Below w.heap.size w w'))
    case atStart => exact ⟨(a0), ((⟨#[]⟩ : ByteArray)), (by first | rfl | (simp; done) | (simp [*]; done)), (by first | rfl | (simp; done) | (simp [*]; done)), H', ⟨Nat.le_refl _⟩, ⟨bl⟩⟩
    case round =>
      clear H'
      try clear c2
      try clear c2b0
      try clear c2b1
      try clear p2
      obtain ⟨x0_1, x3_1, rfl, rfl, HA, HK1, HB⟩ := hrel
      cases gk with
      | zero => exact absurd HA.out (by simp [spec_FormatInt.l0])
      | succ k1 =>
        have H := HA.out
        clear HA
        simp only [spec_FormatInt.l0] at H
        by_cases c3 : x0_1 = 0
        · rw [if_pos c3] at H
          have c3b0 : (x0_1 == 0) = true := beq_iff_eq.mpr c3
          have c3b1 : (x0_1 != 0) = false := bne_eq_false_iff_eq.mpr c3
          clear c3
          by_cases c4 : (decide (a0 < 0)) = true
          · rw [if_pos c4] at H
            have c4b0 : (decide (a0 < 0)) = true := c4
            have c4b3 : a0 < 0 := of_decide_eq_true c4
            clear c4
            by_cases c5 : 1 + x3_1.size ≤ 9223372036854775807
            · rw [if_pos c5] at H
              have c5b0 := eq_true c5
              have c5b1 : decide (1 + x3_1.size ≤ 9223372036854775807) = true := decide_eq_true c5
              try have c5b2 : (9223372036854775807 < 1 + x3_1.size) = False := eq_false (Nat.not_lt.2 c5)
              obtain rfl := Option.some.inj H
              go_wp2
              all_goals (try (exfalso; omega))
              go_ret
              exact ⟨by first | rfl | (simp [errW_none, errW_some] <;> rfl) | (simp [*, errW_none, errW_some] <;> rfl), bl⟩
            · rw [if_neg c5] at H
              exact absurd H (by simp)
          · rw [if_neg c4] at H
            have c4b0 : (decide (a0 < 0)) = false := by simpa using c4
            have c4b3 : 0 ≤ a0 := Int.not_lt.1 (of_decide_eq_false c4b0)
            clear c4
            obtain rfl := Option.some.inj H
            go_wp2
            all_goals (try (exfalso; omega))
            go_ret
            exact ⟨by first | rfl | (simp [errW_none, errW_some] <;> rfl) | (simp [*, errW_none, errW_some] <;> rfl), bl⟩
        · rw [if_neg c3] at H
          have c3b0 : (x0_1 == 0) = false := beq_eq_false_iff_ne.mpr c3
          have c3b1 : (x0_1 != 0) = true := bne_iff_ne.mpr c3
          by_cases c6 : (Int.tmod x0_1 10) < 0
          · rw [if_pos c6] at H
            have c6b0 : decide ((Int.tmod x0_1 10) < 0) = true := decide_eq_true c6
            clear c6
            obtain ⟨y354, hy354⟩ : ∃ y_ : List Int, y_ = (([(wrap64 (48 + (wrap64 (-(Int.tmod x0_1 10))))) % 256] : List Int)) := ⟨_, rfl⟩
            replace H : (if (strOfNums y354).size + x3_1.size ≤ 9223372036854775807 then (spec_FormatInt.l0 k1 (wrap64 (Int.tdiv x0_1 10)) ((strOfNums y354) ++ x3_1) (decide (a0 < 0))) else (none)) = some r := by first | (rw [hy354]; with_reducible exact H) | (have H2_ := (Option.bind_some _ _).symm.trans H; rw [hy354]; with_reducible exact H2_) | (have H2_ := (Option.bind_some _ _).symm.trans H; with_reducible exact H2_) | with_reducible exact H | (rw [hy354]; exact H) | exact H
            have Ny354 := Aside0.mk hy354
            clear hy354
            by_cases c7 : (strOfNums y354).size + x3_1.size ≤ 9223372036854775807
            · rw [if_pos c7] at H
              have c7b0 := eq_true c7
              have c7b1 : decide ((strOfNums y354).size + x3_1.size ≤ 9223372036854775807) = true := decide_eq_true c7
              try have c7b2 : (9223372036854775807 < (strOfNums y354).size + x3_1.size) = False := eq_false (Nat.not_lt.2 c7)
              have H' := Aside0.mk H
              clear H
              go_wp2_with (first | ((with_reducible refine gate_dst (N := 21) rfl ?_); refine Kd.R_lit (Kd.int .u8) _ 5 ?hg (N := 21) ?hd (xs := ([(wrap64 (48 + (wrap64 (-(Int.tmod x0_1 10))))) % 256] : List Int)) (inner := [.int .u8 ((wrap64 (48 + (wrap64 (-(Int.tmod x0_1 10))))) % 256)]) (ok := fun _ => True) (okp := fun _ => True) ?hr ?hp (fun _ hk => hk) trivial (Below.refl _ _) (Nat.le_refl _) (by simp) ?_; (case hd => rfl); (case hg => rfl); (case hr => first | (go_simp; done) | (go_simp; rfl)); (case hp => exact (Reps.one (show Kd.M (Kd.int .u8) _ _ _ ((wrap64 (48 + (wrap64 (-(Int.tmod x0_1 10))))) % 256) [.int .u8 ((wrap64 (48 + (wrap64 (-(Int.tmod x0_1 10))))) % 256)] from rfl) (Reps.none _ _))); intro v355 w8 ho9 hb hg_ hnew_; clear hg_ hnew_; (first | rw [← Ny354.out] at ho9 | (simp only [Int.reduceToNat] at ho9; rw [← Ny354.out] at ho9)); have HO356 := mk (Kd.R_lower ho9 (below_size bl)); replace HB := wh hb; clear hb ho9; have hcv10 := own_string (P := Tryz.prog) Tryz.underlying22 Tryz.underlying5 Tryz.underlying9 (Kd.own_of_R HO356.out)))
              go_roundg k1
              case measure => have := HK1.out; omega
              case rel => exact ⟨(wrap64 (Int.tdiv x0_1 10)), ((strOfNums y354) ++ x3_1), (by first | rfl | (simp; done) | (simp [*]; done)), (by first | rfl | (simp; done) | (simp [*]; done)), H', ⟨by have := HK1.out; omega⟩, ⟨bl⟩⟩
            · rw [if_neg c7] at H
              exact absurd H (by simp)
          · rw [if_neg c6] at H
            have c6b0 : decide ((Int.tmod x0_1 10) < 0) = false := decide_eq_false c6
            clear c6
            obtain ⟨y357, hy357⟩ : ∃ y_ : List Int, y_ = (([(wrap64 (48 + (Int.tmod x0_1 10))) % 256] : List Int)) := ⟨_, rfl⟩
            replace H : (if (strOfNums y357).size + x3_1.size ≤ 9223372036854775807 then (spec_FormatInt.l0 k1 (wrap64 (Int.tdiv x0_1 10)) ((strOfNums y357) ++ x3_1) (decide (a0 < 0))) else (none)) = some r := by first | (rw [hy357]; with_reducible exact H) | (have H2_ := (Option.bind_some _ _).symm.trans H; rw [hy357]; with_reducible exact H2_) | (have H2_ := (Option.bind_some _ _).symm.trans H; with_reducible exact H2_) | with_reducible exact H | (rw [hy357]; exact H) | exact H
            have Ny357 := Aside0.mk hy357
            clear hy357
            by_cases c11 : (strOfNums y357).size + x3_1.size ≤ 9223372036854775807
            · rw [if_pos c11] at H
              have c11b0 := eq_true c11
              have c11b1 : decide ((strOfNums y357).size + x3_1.size ≤ 9223372036854775807) = true := decide_eq_true c11
              try have c11b2 : (9223372036854775807 < (strOfNums y357).size + x3_1.size) = False := eq_false (Nat.not_lt.2 c11)
              have H' := Aside0.mk H
              clear H
              go_wp2_with (first | ((with_reducible refine gate_dst (N := 21) rfl ?_); refine Kd.R_lit (Kd.int .u8) _ 5 ?hg (N := 21) ?hd (xs := ([(wrap64 (48 + (Int.tmod x0_1 10))) % 256] : List Int)) (inner := [.int .u8 ((wrap64 (48 + (Int.tmod x0_1 10))) % 256)]) (ok := fun _ => True) (okp := fun _ => True) ?hr ?hp (fun _ hk => hk) trivial (Below.refl _ _) (Nat.le_refl _) (by simp) ?_; (case hd => rfl); (case hg => rfl); (case hr => first | (go_simp; done) | (go_simp; rfl)); (case hp => exact (Reps.one (show Kd.M (Kd.int .u8) _ _ _ ((wrap64 (48 + (Int.tmod x0_1 10))) % 256) [.int .u8 ((wrap64 (48 + (Int.tmod x0_1 10))) % 256)] from rfl) (Reps.none _ _))); intro v358 w12 ho13 hb hg_ hnew_; clear hg_ hnew_; (first | rw [← Ny357.out] at ho13 | (simp only [Int.reduceToNat] at ho13; rw [← Ny357.out] at ho13)); have HO359 := mk (Kd.R_lower ho13 (below_size bl)); replace HB := wh hb; clear hb ho13; have hcv14 := own_string (P := Tryz.prog) Tryz.underlying22 Tryz.underlying5 Tryz.underlying9 (Kd.own_of_R HO359.out)))
              go_roundg k1
              case measure => have := HK1.out; omega
              case rel => exact ⟨(wrap64 (Int.tdiv x0_1 10)), ((strOfNums y357) ++ x3_1), (by first | rfl | (simp; done) | (simp [*]; done)), (by first | rfl | (simp; done) | (simp [*]; done)), H', ⟨by have := HK1.out; omega⟩, ⟨bl⟩⟩
            · rw [if_neg c11] at H
              exact absurd H (by simp)

end Go.Proofs.YtfjanffppobheaaGreatDoor.PFnTexts
