-- printed by a program of this session, a turned copy of the print of the kit
import Derived.Test.YtmekpkajpjnkgaaPFnExactIsTablex0
import Derived.Test.YtmekpkajpjnkgaaPFnExactIsTablex2
namespace Go.Proofs.Ytmekpkajpjnkgaa.PFnExactIsTable
open Go.RowKit Go.Proofs.YtmekpkajpjnkgaaW.PrintWords Go.Proofs.YtmekpkajpjnkgaaW.PrintLast Go.Proofs.YtmekpkajpjnkgaaW.PrintMore
attribute [local go_sem] max2_int min2_int max_two min_two max_three min_three max_four min_four Giv.cell_twice   -- for this text's walks alone
set_option linter.unusedVariables false
set_option linter.unusedSimpArgs false

/-! ### spec_IsTable: function 80 -/
mutual
def spec_IsTable.l0 : Nat → Int → List (S124) → Option (Bool)
 | 0, _, _ => none
 | k + 1, x3, x148000 => if x3 < (x148000.length : Int) then (if 0 ≤ x3 then ((spec_IsName.f k ((rd_T124 x148000 x3).f0)).bind fun t151 => (if t151 = true then ((spec_AreValues.f k ((rd_T124 x148000 x3).f1)).bind fun t152 => (if t152 = true then (if 0 < (x148000.length : Int) then (spec_IsTable.j1 k x3 ((((rd_T124 x148000 x3).f1).length : Int) != (((rd_T124 x148000 0).f1).length : Int)) x148000 ((rd_T124 x148000 x3).f0) ((rd_T124 x148000 x3).f1)) else (none)) else (spec_IsTable.j1 k x3 true x148000 ((rd_T124 x148000 x3).f0) ((rd_T124 x148000 x3).f1)))) else (spec_IsTable.j1 k x3 true x148000 ((rd_T124 x148000 x3).f0) ((rd_T124 x148000 x3).f1)))) else (none)) else (some true)
def spec_IsTable.j1 : Nat → Int → Bool → List (S124) → ByteArray → List Int → Option (Bool)
 | 0, _, _, _, _, _ => none
 | k + 1, x3, x44, x148000, x151000, x151001 => if x44 = true then (some false) else (spec_IsTable.l1 k x3 0 x148000 x151000 x151001)
def spec_IsTable.l1 : Nat → Int → Int → List (S124) → ByteArray → List Int → Option (Bool)
 | 0, _, _, _, _, _ => none
 | k + 1, x3, x5, x148000, x151000, x151001 => if x5 < x3 then (if 0 ≤ x5 then (if x5 < (x148000.length : Int) then (if ((rd_T124 x148000 x5).f0).toList = x151000.toList then (some false) else (spec_IsTable.l1 k x3 (wrap64 (x5 + 1)) x148000 x151000 x151001)) else (none)) else (none)) else (spec_IsTable.l0 k (wrap64 (x3 + 1)) x148000)
end
def spec_IsTable.f (k : Nat) (l0_0 : List (S124)) : Option (Bool) := (spec_l1In.f (l0_0.length : Int) 1 4).bind fun t148 => (if t148 = true then (spec_IsTable.l0 k 0 l0_0) else (some false))
theorem spec_IsTable.mono_l : ∀ k, (∀ y0 y1, LeO (spec_IsTable.l0 k y0 y1) (spec_IsTable.l0 (k + 1) y0 y1)) ∧ (∀ y0 y1 y2 y3 y4, LeO (spec_IsTable.j1 k y0 y1 y2 y3 y4) (spec_IsTable.j1 (k + 1) y0 y1 y2 y3 y4)) ∧ (∀ y0 y1 y2 y3 y4, LeO (spec_IsTable.l1 k y0 y1 y2 y3 y4) (spec_IsTable.l1 (k + 1) y0 y1 y2 y3 y4))
 | 0 => ⟨fun _ _ r h => by simp [spec_IsTable.l0] at h, fun _ _ _ _ _ r h => by simp [spec_IsTable.j1] at h, fun _ _ _ _ _ r h => by simp [spec_IsTable.l1] at h⟩
 | k + 1 => by
  obtain ⟨ih0, ih1, ih2⟩ := spec_IsTable.mono_l k
  refine ⟨?_, ?_, ?_⟩
  ·intro y0 y1
   unfold spec_IsTable.l0
   repeat' first
   | (with_reducible exact ih0 _ _)
   | (with_reducible exact ih1 _ _ _ _ _)
   | (with_reducible exact ih2 _ _ _ _ _)
   | (with_reducible exact spec_AreValues.mono _ _)
   | (with_reducible exact spec_IsName.mono _ _)
   | (with_reducible exact LeO.refl _)
   | (with_reducible exact LeO.none _)
   | (with_reducible refine LeO.ite ?_ ?_)
   | (with_reducible refine LeO.bind ?_ (fun _ => ?_))
   | exact ih0 _ _
   | exact ih1 _ _ _ _ _
   | exact ih2 _ _ _ _ _
   | exact spec_AreValues.mono _ _
   | exact spec_IsName.mono _ _
   | exact LeO.none _
   | refine LeO.ite ?_ ?_
   | refine LeO.bind ?_ (fun _ => ?_)
  ·intro y0 y1 y2 y3 y4
   unfold spec_IsTable.j1
   repeat' first
   | (with_reducible exact ih0 _ _)
   | (with_reducible exact ih1 _ _ _ _ _)
   | (with_reducible exact ih2 _ _ _ _ _)
   | (with_reducible exact spec_AreValues.mono _ _)
   | (with_reducible exact spec_IsName.mono _ _)
   | (with_reducible exact LeO.refl _)
   | (with_reducible exact LeO.none _)
   | (with_reducible refine LeO.ite ?_ ?_)
   | (with_reducible refine LeO.bind ?_ (fun _ => ?_))
   | exact ih0 _ _
   | exact ih1 _ _ _ _ _
   | exact ih2 _ _ _ _ _
   | exact spec_AreValues.mono _ _
   | exact spec_IsName.mono _ _
   | exact LeO.none _
   | refine LeO.ite ?_ ?_
   | refine LeO.bind ?_ (fun _ => ?_)
  ·intro y0 y1 y2 y3 y4
   unfold spec_IsTable.l1
   repeat' first
   | (with_reducible exact ih0 _ _)
   | (with_reducible exact ih1 _ _ _ _ _)
   | (with_reducible exact ih2 _ _ _ _ _)
   | (with_reducible exact spec_AreValues.mono _ _)
   | (with_reducible exact spec_IsName.mono _ _)
   | (with_reducible exact LeO.refl _)
   | (with_reducible exact LeO.none _)
   | (with_reducible refine LeO.ite ?_ ?_)
   | (with_reducible refine LeO.bind ?_ (fun _ => ?_))
   | exact ih0 _ _
   | exact ih1 _ _ _ _ _
   | exact ih2 _ _ _ _ _
   | exact spec_AreValues.mono _ _
   | exact spec_IsName.mono _ _
   | exact LeO.none _
   | refine LeO.ite ?_ ?_
   | refine LeO.bind ?_ (fun _ => ?_)
theorem spec_IsTable.mono : ∀ a0 k, LeO (spec_IsTable.f k a0) (spec_IsTable.f (k + 1) a0) := by
 intro a0 k
 obtain ⟨ih0, ih1, ih2⟩ := spec_IsTable.mono_l k
 unfold spec_IsTable.f
 repeat' first
   | (with_reducible exact ih0 _ _)
   | (with_reducible exact ih1 _ _ _ _ _)
   | (with_reducible exact ih2 _ _ _ _ _)
   | (with_reducible exact spec_AreValues.mono _ _)
   | (with_reducible exact spec_IsName.mono _ _)
   | (with_reducible exact LeO.refl _)
   | (with_reducible exact LeO.none _)
   | (with_reducible refine LeO.ite ?_ ?_)
   | (with_reducible refine LeO.bind ?_ (fun _ => ?_))
   | exact ih0 _ _
   | exact ih1 _ _ _ _ _
   | exact ih2 _ _ _ _ _
   | exact spec_AreValues.mono _ _
   | exact spec_IsName.mono _ _
   | exact LeO.none _
   | refine LeO.ite ?_ ?_
   | refine LeO.bind ?_ (fun _ => ?_)
set_option maxHeartbeats 8000000 in
set_option maxRecDepth 100000 in
theorem spec_IsTable.calls (k : Nat) (A0_0 : Option Addr) (c0_0 : Nat) (l0_0 : List (S124)) (r : Bool) (w : World) (hr0_0 : Kd.C k124 w A0_0 l0_0.length l0_0) (hc0_0 : l0_0.length ≤ c0_0) (h : spec_IsTable.f k l0_0 = some r) :
  Calls Try.prog 80 #[.agg #[.slice A0_0 l0_0.length c0_0]] w fun e w' => e = .returned (.bool r) ∧ Below w.heap.size w w' := by
 have hu81 := Try.underlying81
 have hu124 := Try.underlying124
 have HR0_0 := Aside0.mk hr0_0
 have HC0_0 := Aside0.mk hc0_0
 clear hr0_0 hc0_0
 have HB := Aside0.mk (Below.refl w.heap.size w)
 have H : ((spec_l1In.f (l0_0.length : Int) 1 4).bind fun t148 => (if t148 = true then (spec_IsTable.l0 k 0 l0_0) else (some false))) = some r := h
 clear h
 replace H := Option.bind_eq_some_iff.mp H
 obtain ⟨t148, A20, H⟩ := H
 replace H : (if t148 = true then (spec_IsTable.l0 k 0 l0_0) else (some false)) = some r := H
 have A2 := Aside0.mk A20
 clear A20
 by_cases c3 : t148 = true
 ·subst c3
  have H1 : (spec_IsTable.l0 k 0 l0_0) = some r := by rw [if_pos rfl] at H; exact H
  clear H
  have H := H1
  clear H1
  have H' := Aside0.mk H
  clear H
  go_enter Try.func80, Try.ntmps80
  go_wp2_with (first | ((with_reducible refine gate_dst (N := 1) rfl ?_); (try (refine gate_guard (by rfl) ?_; dsimp only)); refine box_event ?hg (N := 1) ?hd (cs := #[.slice A0_0 l0_0.length c0_0]) (t := 81) ?hr ?_; (case hd => rfl); (case hg => rfl); (case hr => first | (go_simp; done) | (go_simp; rfl)); intro gb147 hg w4 hbox hb; have n0_ := Aside0.mk (below_step (by repeat (first | (with_reducible first | exact HB.out | apply below_alloc | apply pw_below_drewN | apply below_drew1) | exact HB.out)) hb); have n1_ := Aside0.mk (hbox); have n2_ := Aside0.mk ((by rw [hg]; exact (below_size (by repeat (first | (with_reducible first | exact HB.out | apply below_alloc | apply pw_below_drewN | apply below_drew1) | exact HB.out))) : w.heap.size ≤ gb147)); have n3_ := Aside0.mk ((by rw [hg]; exact (below_size (by repeat (first | (with_reducible first | exact HB.out | apply below_alloc | apply pw_below_drewN | apply below_drew1) | exact HB.out))) : w.heap.size ≤ gb147)); clear HB; have HB := n0_; have BK147 := n1_; have GW147 := n2_; have GE147 := n3_; clear n0_ n1_ n2_ n3_; clear hb hbox hg; have hcz5_0 : w4.cell? ⟨gb147, 0, none⟩ = some (.slice A0_0 l0_0.length c0_0) := (blk_cell BK147.out 0).trans rfl; have hfz5_0 := blk_frozen BK147.out 0) | (go_at_call 86; (with_reducible refine (spec_l1In.calls (l0_0.length : Int) 1 4 true _ A2.out).mono ?_); rintro e w' ⟨rfl, ⟨nd, rfl⟩⟩; (try first | exact ⟨rfl, _, World.drewN_drewN _ _ _⟩ | exact ⟨rfl, _, Eq.trans (World.drewN_drewN _ _ _) (congrArg (World.drewN _) (Nat.add_assoc _ _ _))⟩)))
  repeat (go_quiet (first | ((with_reducible refine gate_dst (N := 1) rfl ?_); (try (refine gate_guard (by rfl) ?_; dsimp only)); refine box_event ?hg (N := 1) ?hd (cs := #[.slice A0_0 l0_0.length c0_0]) (t := 81) ?hr ?_; (case hd => rfl); (case hg => rfl); (case hr => first | (go_simp; done) | (go_simp; rfl)); intro gb147 hg w4 hbox hb; have n0_ := Aside0.mk (below_step (by repeat (first | (with_reducible first | exact HB.out | apply below_alloc | apply pw_below_drewN | apply below_drew1) | exact HB.out)) hb); have n1_ := Aside0.mk (hbox); have n2_ := Aside0.mk ((by rw [hg]; exact (below_size (by repeat (first | (with_reducible first | exact HB.out | apply below_alloc | apply pw_below_drewN | apply below_drew1) | exact HB.out))) : w.heap.size ≤ gb147)); have n3_ := Aside0.mk ((by rw [hg]; exact (below_size (by repeat (first | (with_reducible first | exact HB.out | apply below_alloc | apply pw_below_drewN | apply below_drew1) | exact HB.out))) : w.heap.size ≤ gb147)); clear HB; have HB := n0_; have BK147 := n1_; have GW147 := n2_; have GE147 := n3_; clear n0_ n1_ n2_ n3_; clear hb hbox hg; have hcz5_0 : w4.cell? ⟨gb147, 0, none⟩ = some (.slice A0_0 l0_0.length c0_0) := (blk_cell BK147.out 0).trans rfl; have hfz5_0 := blk_frozen BK147.out 0) | (go_at_call 86; (with_reducible refine (spec_l1In.calls (l0_0.length : Int) 1 4 true _ A2.out).mono ?_); rintro e w' ⟨rfl, ⟨nd, rfl⟩⟩; (try first | exact ⟨rfl, _, World.drewN_drewN _ _ _⟩ | exact ⟨rfl, _, Eq.trans (World.drewN_drewN _ _ _) (congrArg (World.drewN _) (Nat.add_assoc _ _ _))⟩))); try go_wp2_with (first | ((with_reducible refine gate_dst (N := 1) rfl ?_); (try (refine gate_guard (by rfl) ?_; dsimp only)); refine box_event ?hg (N := 1) ?hd (cs := #[.slice A0_0 l0_0.length c0_0]) (t := 81) ?hr ?_; (case hd => rfl); (case hg => rfl); (case hr => first | (go_simp; done) | (go_simp; rfl)); intro gb147 hg w4 hbox hb; have n0_ := Aside0.mk (below_step (by repeat (first | (with_reducible first | exact HB.out | apply below_alloc | apply pw_below_drewN | apply below_drew1) | exact HB.out)) hb); have n1_ := Aside0.mk (hbox); have n2_ := Aside0.mk ((by rw [hg]; exact (below_size (by repeat (first | (with_reducible first | exact HB.out | apply below_alloc | apply pw_below_drewN | apply below_drew1) | exact HB.out))) : w.heap.size ≤ gb147)); have n3_ := Aside0.mk ((by rw [hg]; exact (below_size (by repeat (first | (with_reducible first | exact HB.out | apply below_alloc | apply pw_below_drewN | apply below_drew1) | exact HB.out))) : w.heap.size ≤ gb147)); clear HB; have HB := n0_; have BK147 := n1_; have GW147 := n2_; have GE147 := n3_; clear n0_ n1_ n2_ n3_; clear hb hbox hg; have hcz5_0 : w4.cell? ⟨gb147, 0, none⟩ = some (.slice A0_0 l0_0.length c0_0) := (blk_cell BK147.out 0).trans rfl; have hfz5_0 := blk_frozen BK147.out 0) | (go_at_call 86; (with_reducible refine (spec_l1In.calls (l0_0.length : Int) 1 4 true _ A2.out).mono ?_); rintro e w' ⟨rfl, ⟨nd, rfl⟩⟩; (try first | exact ⟨rfl, _, World.drewN_drewN _ _ _⟩ | exact ⟨rfl, _, Eq.trans (World.drewN_drewN _ _ _) (congrArg (World.drewN _) (Nat.add_assoc _ _ _))⟩))))
  go_loopg [3] k (fun kq v3 w' => ∃ (x3_1 : Int), v3 = .int .i64 x3_1 ∧ Aside0 (spec_IsTable.l0 kq x3_1 l0_0 = some r) ∧ Aside0 (kq ≤ k) ∧ Aside0 (w'.heap[gb147]? = some (.cells #[(.slice A0_0 l0_0.length c0_0)] 81 (0, 0))) ∧ Aside0 (Below w.heap.size w w'))
  case atStart => exact ⟨(0), (by first | rfl | (simp; done) | (simp [*]; done)), H', ⟨Nat.le_refl _⟩, ⟨by (with_reducible repeat (first | refine blk_drewN ?_ _ | refine blk_drew ?_ | refine blk_alloc ?_ _)); exact BK147.out⟩, ⟨by repeat (first | (with_reducible first | exact HB.out | apply below_alloc | apply pw_below_drewN | apply below_drew1 | refine below_set ?_ GE147.out) | exact HB.out)⟩⟩
  case round =>
   clear H'
   try clear p2
   try clear c3
   try clear hcz5_0
   try clear hfz5_0
   obtain ⟨x3_1, rfl, HA, HK1, BK147, HB⟩ := hrel
   cases gk with
   | zero => exact absurd HA.out (by simp [spec_IsTable.l0])
   | succ k1 =>
    have H := HA.out
    clear HA
    simp only [spec_IsTable.l0] at H
    by_cases c6 : x3_1 < (l0_0.length : Int)
    ·rw [if_pos c6] at H
     have c6b0 : decide (x3_1 < (l0_0.length : Int)) = true := decide_eq_true c6
     clear c6
     by_cases c7 : 0 ≤ x3_1
     ·rw [if_pos c7] at H
      have c7b0 : decide (0 ≤ x3_1) = true := decide_eq_true c7
      clear c7
      have HC8 := Aside0.mk H
      clear H
      have hcz9_0 : wr.cell? ⟨gb147, 0, none⟩ = some (.slice A0_0 l0_0.length c0_0) := (blk_cell BK147.out 0).trans rfl
      have hfz9_0 := blk_frozen BK147.out 0
      have p149 : 0 ≤ (x3_1 : Int) := of_decide_eq_true (by first | (with_reducible assumption) | assumption)
      have q149 : x3_1 < (l0_0.length : Int) := of_decide_eq_true (by first | (with_reducible assumption) | assumption)
      obtain ⟨ad149, A149_1, c149_1, e149, hx149_0, hx149_1, hl149_1, hi149_1⟩ := at_T124 HR0_0.out x3_1 p149 q149
      cases e149
      replace hx149_0 := (HB.out.cell (World.block_lt_of_cell? w _ hx149_0)).trans hx149_0
      replace hx149_1 := (HB.out.cell (World.block_lt_of_cell? w _ hx149_1)).trans hx149_1
      have HR149_1 := Aside0.mk hi149_1
      have HC149_1 := Aside0.mk hl149_1
      clear hi149_1 hl149_1
      replace p149 := eq_true p149
      replace q149 := eq_true q149
      go_upto_region 7 with (first | ((with_reducible refine gate_dst (N := 4) rfl ?_); (try (refine gate_guard (by rfl) ?_; dsimp only)); refine box_event ?hg (N := 4) ?hd (cs := #[.string (⟨#[]⟩ : ByteArray), .slice none 0 0]) (t := 124) ?hr ?_; (case hd => rfl); (case hg => rfl); (case hr => first | (go_simp; done) | (go_simp; rfl)); intro gb150 hg w10 hbox hb; have n0_ := Aside0.mk (blk_below (g := gb147) (o := .cells #[.slice (some ad149) l0_0.length c0_0] 81 (0, 0)) (by (with_reducible repeat (first | refine blk_drewN ?_ _ | refine blk_drew ?_ | refine blk_alloc ?_ _)); exact BK147.out) hb); have n1_ := Aside0.mk (below_step (by repeat (first | (with_reducible first | exact HB.out | apply below_alloc | apply pw_below_drewN | apply below_drew1 | refine below_set ?_ GE147.out) | exact HB.out)) hb); have n2_ := Aside0.mk (hbox); have n3_ := Aside0.mk ((by rw [hg]; exact (below_size (by repeat (first | (with_reducible first | exact HB.out | apply below_alloc | apply pw_below_drewN | apply below_drew1 | refine below_set ?_ GE147.out) | exact HB.out))) : w.heap.size ≤ gb150)); have n4_ := Aside0.mk ((by rw [hg]; exact (below_size (by repeat (first | (with_reducible first | exact HB.out | apply below_alloc | apply pw_below_drewN | apply below_drew1 | refine below_set ?_ GE147.out) | exact HB.out))) : w.heap.size ≤ gb150)); have n5_ := Aside0.mk ((by rw [hg]; exact Nat.ne_of_lt (blk_lt (g := gb147) (o := .cells #[.slice (some ad149) l0_0.length c0_0] 81 (0, 0)) (by (with_reducible repeat (first | refine blk_drewN ?_ _ | refine blk_drew ?_ | refine blk_alloc ?_ _)); exact BK147.out)) : gb147 ≠ gb150)); have n6_ := Aside0.mk ((by rw [hg]; exact Nat.ne_of_gt (blk_lt (g := gb147) (o := .cells #[.slice (some ad149) l0_0.length c0_0] 81 (0, 0)) (by (with_reducible repeat (first | refine blk_drewN ?_ _ | refine blk_drew ?_ | refine blk_alloc ?_ _)); exact BK147.out)) : gb150 ≠ gb147)); clear BK147; clear HB; have BK147 := n0_; have HB := n1_; have BK150 := n2_; have GW150 := n3_; have GE150 := n4_; have NB147_150 := n5_; have NB150_147 := n6_; clear n0_ n1_ n2_ n3_ n4_ n5_ n6_; clear hb hbox hg; have hnb11 := NB150_147.out; have hnc11 := NB147_150.out; have hcz12_0 : w10.cell? ⟨gb150, 0, none⟩ = some (.string (⟨#[]⟩ : ByteArray)) := (blk_cell BK150.out 0).trans rfl; have hcz12_1 : w10.cell? ⟨gb150, 1, none⟩ = some (.slice none 0 0) := (blk_cell BK150.out 1).trans rfl; have hfz12_0 := blk_frozen BK150.out 0; have hfz12_1 := blk_frozen BK150.out 1))
      repeat (go_quiet (first | ((with_reducible refine gate_dst (N := 4) rfl ?_); (try (refine gate_guard (by rfl) ?_; dsimp only)); refine box_event ?hg (N := 4) ?hd (cs := #[.string (⟨#[]⟩ : ByteArray), .slice none 0 0]) (t := 124) ?hr ?_; (case hd => rfl); (case hg => rfl); (case hr => first | (go_simp; done) | (go_simp; rfl)); intro gb150 hg w10 hbox hb; have n0_ := Aside0.mk (blk_below (g := gb147) (o := .cells #[.slice (some ad149) l0_0.length c0_0] 81 (0, 0)) (by (with_reducible repeat (first | refine blk_drewN ?_ _ | refine blk_drew ?_ | refine blk_alloc ?_ _)); exact BK147.out) hb); have n1_ := Aside0.mk (below_step (by repeat (first | (with_reducible first | exact HB.out | apply below_alloc | apply pw_below_drewN | apply below_drew1 | refine below_set ?_ GE147.out) | exact HB.out)) hb); have n2_ := Aside0.mk (hbox); have n3_ := Aside0.mk ((by rw [hg]; exact (below_size (by repeat (first | (with_reducible first | exact HB.out | apply below_alloc | apply pw_below_drewN | apply below_drew1 | refine below_set ?_ GE147.out) | exact HB.out))) : w.heap.size ≤ gb150)); have n4_ := Aside0.mk ((by rw [hg]; exact (below_size (by repeat (first | (with_reducible first | exact HB.out | apply below_alloc | apply pw_below_drewN | apply below_drew1 | refine below_set ?_ GE147.out) | exact HB.out))) : w.heap.size ≤ gb150)); have n5_ := Aside0.mk ((by rw [hg]; exact Nat.ne_of_lt (blk_lt (g := gb147) (o := .cells #[.slice (some ad149) l0_0.length c0_0] 81 (0, 0)) (by (with_reducible repeat (first | refine blk_drewN ?_ _ | refine blk_drew ?_ | refine blk_alloc ?_ _)); exact BK147.out)) : gb147 ≠ gb150)); have n6_ := Aside0.mk ((by rw [hg]; exact Nat.ne_of_gt (blk_lt (g := gb147) (o := .cells #[.slice (some ad149) l0_0.length c0_0] 81 (0, 0)) (by (with_reducible repeat (first | refine blk_drewN ?_ _ | refine blk_drew ?_ | refine blk_alloc ?_ _)); exact BK147.out)) : gb150 ≠ gb147)); clear BK147; clear HB; have BK147 := n0_; have HB := n1_; have BK150 := n2_; have GW150 := n3_; have GE150 := n4_; have NB147_150 := n5_; have NB150_147 := n6_; clear n0_ n1_ n2_ n3_ n4_ n5_ n6_; clear hb hbox hg; have hnb11 := NB150_147.out; have hnc11 := NB147_150.out; have hcz12_0 : w10.cell? ⟨gb150, 0, none⟩ = some (.string (⟨#[]⟩ : ByteArray)) := (blk_cell BK150.out 0).trans rfl; have hcz12_1 : w10.cell? ⟨gb150, 1, none⟩ = some (.slice none 0 0) := (blk_cell BK150.out 1).trans rfl; have hfz12_0 := blk_frozen BK150.out 0; have hfz12_1 := blk_frozen BK150.out 1)); go_upto_region 7 with (first | ((with_reducible refine gate_dst (N := 4) rfl ?_); (try (refine gate_guard (by rfl) ?_; dsimp only)); refine box_event ?hg (N := 4) ?hd (cs := #[.string (⟨#[]⟩ : ByteArray), .slice none 0 0]) (t := 124) ?hr ?_; (case hd => rfl); (case hg => rfl); (case hr => first | (go_simp; done) | (go_simp; rfl)); intro gb150 hg w10 hbox hb; have n0_ := Aside0.mk (blk_below (g := gb147) (o := .cells #[.slice (some ad149) l0_0.length c0_0] 81 (0, 0)) (by (with_reducible repeat (first | refine blk_drewN ?_ _ | refine blk_drew ?_ | refine blk_alloc ?_ _)); exact BK147.out) hb); have n1_ := Aside0.mk (below_step (by repeat (first | (with_reducible first | exact HB.out | apply below_alloc | apply pw_below_drewN | apply below_drew1 | refine below_set ?_ GE147.out) | exact HB.out)) hb); have n2_ := Aside0.mk (hbox); have n3_ := Aside0.mk ((by rw [hg]; exact (below_size (by repeat (first | (with_reducible first | exact HB.out | apply below_alloc | apply pw_below_drewN | apply below_drew1 | refine below_set ?_ GE147.out) | exact HB.out))) : w.heap.size ≤ gb150)); have n4_ := Aside0.mk ((by rw [hg]; exact (below_size (by repeat (first | (with_reducible first | exact HB.out | apply below_alloc | apply pw_below_drewN | apply below_drew1 | refine below_set ?_ GE147.out) | exact HB.out))) : w.heap.size ≤ gb150)); have n5_ := Aside0.mk ((by rw [hg]; exact Nat.ne_of_lt (blk_lt (g := gb147) (o := .cells #[.slice (some ad149) l0_0.length c0_0] 81 (0, 0)) (by (with_reducible repeat (first | refine blk_drewN ?_ _ | refine blk_drew ?_ | refine blk_alloc ?_ _)); exact BK147.out)) : gb147 ≠ gb150)); have n6_ := Aside0.mk ((by rw [hg]; exact Nat.ne_of_gt (blk_lt (g := gb147) (o := .cells #[.slice (some ad149) l0_0.length c0_0] 81 (0, 0)) (by (with_reducible repeat (first | refine blk_drewN ?_ _ | refine blk_drew ?_ | refine blk_alloc ?_ _)); exact BK147.out)) : gb150 ≠ gb147)); clear BK147; clear HB; have BK147 := n0_; have HB := n1_; have BK150 := n2_; have GW150 := n3_; have GE150 := n4_; have NB147_150 := n5_; have NB150_147 := n6_; clear n0_ n1_ n2_ n3_ n4_ n5_ n6_; clear hb hbox hg; have hnb11 := NB150_147.out; have hnc11 := NB147_150.out; have hcz12_0 : w10.cell? ⟨gb150, 0, none⟩ = some (.string (⟨#[]⟩ : ByteArray)) := (blk_cell BK150.out 0).trans rfl; have hcz12_1 : w10.cell? ⟨gb150, 1, none⟩ = some (.slice none 0 0) := (blk_cell BK150.out 1).trans rfl; have hfz12_0 := blk_frozen BK150.out 0; have hfz12_1 := blk_frozen BK150.out 1)))
      (try simp only [Act.put, List.setIfInBounds_toArray, List.set_cons_zero, List.set_cons_succ])
      go_cut [44] (fun v44 wc => ∃ (kq : Nat) (x44_7 : Bool), v44 = .bool x44_7 ∧ Aside0 (spec_IsTable.j1 kq x3_1 x44_7 l0_0 ((rd_T124 l0_0 x3_1).f0) ((rd_T124 l0_0 x3_1).f1) = some r) ∧ Aside0 (kq ≤ k1) ∧ Aside0 (wc.heap[gb147]? = some (.cells #[(.slice (some ad149) l0_0.length c0_0)] 81 (0, 0))) ∧ Aside0 (wc.heap[gb150]? = some (.cells #[.string ((rd_T124 l0_0 x3_1).f0), (.slice A149_1 ((rd_T124 l0_0 x3_1).f1).length c149_1)] 124 (0, 0))) ∧ Aside0 (Below w.heap.size w wc))
      case first =>
       have H := HC8.out
       clear HC8
       replace H := Option.bind_eq_some_iff.mp H
       obtain ⟨t151, A130, H⟩ := H
       replace H : (if t151 = true then ((spec_AreValues.f k1 ((rd_T124 l0_0 x3_1).f1)).bind fun t152 => (if t152 = true then (if 0 < (l0_0.length : Int) then (spec_IsTable.j1 k1 x3_1 ((((rd_T124 l0_0 x3_1).f1).length : Int) != (((rd_T124 l0_0 0).f1).length : Int)) l0_0 ((rd_T124 l0_0 x3_1).f0) ((rd_T124 l0_0 x3_1).f1)) else (none)) else (spec_IsTable.j1 k1 x3_1 true l0_0 ((rd_T124 l0_0 x3_1).f0) ((rd_T124 l0_0 x3_1).f1)))) else (spec_IsTable.j1 k1 x3_1 true l0_0 ((rd_T124 l0_0 x3_1).f0) ((rd_T124 l0_0 x3_1).f1))) = some r := H
       have A13 := Aside0.mk A130
       clear A130
       by_cases c14 : t151 = true
       ·subst c14
        have H1 : ((spec_AreValues.f k1 ((rd_T124 l0_0 x3_1).f1)).bind fun t152 => (if t152 = true then (if 0 < (l0_0.length : Int) then (spec_IsTable.j1 k1 x3_1 ((((rd_T124 l0_0 x3_1).f1).length : Int) != (((rd_T124 l0_0 0).f1).length : Int)) l0_0 ((rd_T124 l0_0 x3_1).f0) ((rd_T124 l0_0 x3_1).f1)) else (none)) else (spec_IsTable.j1 k1 x3_1 true l0_0 ((rd_T124 l0_0 x3_1).f0) ((rd_T124 l0_0 x3_1).f1)))) = some r := by rw [if_pos rfl] at H; exact H
        clear H
        have H := H1
        clear H1
        replace H := Option.bind_eq_some_iff.mp H
        obtain ⟨t152, A150, H⟩ := H
        replace H : (if t152 = true then (if 0 < (l0_0.length : Int) then (spec_IsTable.j1 k1 x3_1 ((((rd_T124 l0_0 x3_1).f1).length : Int) != (((rd_T124 l0_0 0).f1).length : Int)) l0_0 ((rd_T124 l0_0 x3_1).f0) ((rd_T124 l0_0 x3_1).f1)) else (none)) else (spec_IsTable.j1 k1 x3_1 true l0_0 ((rd_T124 l0_0 x3_1).f0) ((rd_T124 l0_0 x3_1).f1))) = some r := H
        have A15 := Aside0.mk A150
        clear A150
        by_cases c16 : t152 = true
        ·subst c16
         have H1 : (if 0 < (l0_0.length : Int) then (spec_IsTable.j1 k1 x3_1 ((((rd_T124 l0_0 x3_1).f1).length : Int) != (((rd_T124 l0_0 0).f1).length : Int)) l0_0 ((rd_T124 l0_0 x3_1).f0) ((rd_T124 l0_0 x3_1).f1)) else (none)) = some r := by rw [if_pos rfl] at H; exact H
         clear H
         have H := H1
         clear H1
         by_cases c17 : 0 < (l0_0.length : Int)
         ·rw [if_pos c17] at H
          have c17b0 : decide (0 < (l0_0.length : Int)) = true := decide_eq_true c17
          have c17b1 : decide (0 < l0_0.length) = true := decide_eq_true (by omega)
          clear c17
          (first | rw [c17b0] | (simp only [i64_w, i32_w]; rw [c17b0]) | skip)
          have H' := Aside0.mk H
          clear H
          have hnb18 := NB150_147.out
          have hnc18 := NB147_150.out
          have hcz19_0 : w10.cell? ⟨gb150, 0, none⟩ = some (.string (⟨#[]⟩ : ByteArray)) := (blk_cell BK150.out 0).trans rfl
          have hcz19_1 : w10.cell? ⟨gb150, 1, none⟩ = some (.slice none 0 0) := (blk_cell BK150.out 1).trans rfl
          have hfz19_0 := blk_frozen BK150.out 0
          have hfz19_1 := blk_frozen BK150.out 1
          go_wp2_with (first | (go_at_call 120; (with_reducible refine (spec_IsName.calls k1 ((rd_T124 l0_0 x3_1).f0) true _ A13.out).mono ?_); rintro e w' ⟨rfl, ⟨nd, rfl⟩⟩; (try first | exact ⟨rfl, _, World.drewN_drewN _ _ _⟩ | exact ⟨rfl, _, Eq.trans (World.drewN_drewN _ _ _) (congrArg (World.drewN _) (Nat.add_assoc _ _ _))⟩)) | (go_at_call 37; (with_reducible refine (spec_AreValues.calls k1 _ _ ((rd_T124 l0_0 x3_1).f1) true _ ?side1 ?side2 A15.out).mono ?_); (case side1 => exact Kd.C_below HR149_1.out (by repeat (first | (with_reducible first | exact HB.out | apply below_alloc | apply pw_below_drewN | apply below_drew1 | refine below_set ?_ GE147.out | refine below_set ?_ GE150.out) | exact HB.out))); (case side2 => exact HC149_1.out); rintro e w' ⟨rfl, ⟨nd, rfl⟩⟩; (try first | exact ⟨rfl, _, World.drewN_drewN _ _ _⟩ | exact ⟨rfl, _, Eq.trans (World.drewN_drewN _ _ _) (congrArg (World.drewN _) (Nat.add_assoc _ _ _))⟩); have hcz20_0 : w10.cell? ⟨gb147, 0, none⟩ = some (.slice (some ad149) l0_0.length c0_0) := (blk_cell BK147.out 0).trans rfl; have hfz20_0 := blk_frozen BK147.out 0; have p153 : 0 ≤ (0 : Int) := (by omega); have q153 : 0 < (l0_0.length : Int) := of_decide_eq_true (by first | (with_reducible assumption) | assumption); obtain ⟨ad153, A153_1, c153_1, e153, hx153_0, hx153_1, hl153_1, hi153_1⟩ := at_T124 HR0_0.out 0 p153 q153; obtain rfl : ad149 = ad153 := (by injection e153); have qi153 : (0 < l0_0.length) = True := eq_true (by omega); (try rw [show ((0 : Int)).toNat = 0 from rfl] at hx153_0); (try rw [show 0 * 2 = 0 from rfl] at hx153_0); (try rw [Addr.add_zero'] at hx153_0); (try rw [show ((0 : Int)).toNat = 0 from rfl] at hx153_1); (try rw [show 0 * 2 = 0 from rfl] at hx153_1); (try rw [Addr.add_zero'] at hx153_1); have hn153_0 : ad149.block ≠ gb150 := Nat.ne_of_lt (Nat.lt_of_lt_of_le (by have := World.block_lt_of_cell? _ _ hx153_0; first | rwa [add_block] at this | exact this) GW150.out); have hn153_1 : ad149.block ≠ gb150 := Nat.ne_of_lt (Nat.lt_of_lt_of_le (by have := World.block_lt_of_cell? _ _ hx153_0; first | rwa [add_block] at this | exact this) GW150.out); replace hx153_0 := (HB.out.cell (World.block_lt_of_cell? w _ hx153_0)).trans hx153_0; replace hx153_1 := (HB.out.cell (World.block_lt_of_cell? w _ hx153_1)).trans hx153_1; have HR153_1 := Aside0.mk hi153_1; have HC153_1 := Aside0.mk hl153_1; clear hi153_1 hl153_1; replace hx153_0 := (cell_far (p := ⟨gb150, 0, none⟩) (by first | (rw [add_block]; exact hn153_0) | (show (Addr.add _ _).block ≠ _; rw [add_block]; exact hn153_0) | exact hn153_0) (.string ((rd_T124 l0_0 x3_1).f0))).trans hx153_0; replace hx153_1 := (cell_far (p := ⟨gb150, 0, none⟩) (by first | (rw [add_block]; exact hn153_0) | (show (Addr.add _ _).block ≠ _; rw [add_block]; exact hn153_0) | exact hn153_0) (.string ((rd_T124 l0_0 x3_1).f0))).trans hx153_1; replace hx153_0 := (cell_far (p := ⟨gb150, 1, none⟩) (by first | (rw [add_block]; exact hn153_1) | (show (Addr.add _ _).block ≠ _; rw [add_block]; exact hn153_1) | exact hn153_1) (.slice A149_1 ((rd_T124 l0_0 x3_1).f1).length c149_1)).trans hx153_0; replace hx153_1 := (cell_far (p := ⟨gb150, 1, none⟩) (by first | (rw [add_block]; exact hn153_1) | (show (Addr.add _ _).block ≠ _; rw [add_block]; exact hn153_1) | exact hn153_1) (.slice A149_1 ((rd_T124 l0_0 x3_1).f1).length c149_1)).trans hx153_1; (try have hy153_0 := fun (n_ : Nat) => (show ((((w10.drewN n_).setCell ⟨gb150, 0, none⟩ (.string ((rd_T124 l0_0 x3_1).f0))).setCell ⟨gb150, 1, none⟩ (.slice A149_1 ((rd_T124 l0_0 x3_1).f1).length c149_1))).cell? _ = some _ from hx153_0)); (try have hy153_1 := fun (n_ : Nat) => (show ((((w10.drewN n_).setCell ⟨gb150, 0, none⟩ (.string ((rd_T124 l0_0 x3_1).f0))).setCell ⟨gb150, 1, none⟩ (.slice A149_1 ((rd_T124 l0_0 x3_1).f1).length c149_1))).cell? _ = some _ from hx153_1)); clear hn153_0; clear hn153_1; replace p153 := eq_true p153; replace q153 := eq_true q153))
          repeat (go_quiet (first | (go_at_call 120; (with_reducible refine (spec_IsName.calls k1 ((rd_T124 l0_0 x3_1).f0) true _ A13.out).mono ?_); rintro e w' ⟨rfl, ⟨nd, rfl⟩⟩; (try first | exact ⟨rfl, _, World.drewN_drewN _ _ _⟩ | exact ⟨rfl, _, Eq.trans (World.drewN_drewN _ _ _) (congrArg (World.drewN _) (Nat.add_assoc _ _ _))⟩)) | (go_at_call 37; (with_reducible refine (spec_AreValues.calls k1 _ _ ((rd_T124 l0_0 x3_1).f1) true _ ?side1 ?side2 A15.out).mono ?_); (case side1 => exact Kd.C_below HR149_1.out (by repeat (first | (with_reducible first | exact HB.out | apply below_alloc | apply pw_below_drewN | apply below_drew1 | refine below_set ?_ GE147.out | refine below_set ?_ GE150.out) | exact HB.out))); (case side2 => exact HC149_1.out); rintro e w' ⟨rfl, ⟨nd, rfl⟩⟩; (try first | exact ⟨rfl, _, World.drewN_drewN _ _ _⟩ | exact ⟨rfl, _, Eq.trans (World.drewN_drewN _ _ _) (congrArg (World.drewN _) (Nat.add_assoc _ _ _))⟩); have hcz20_0 : w10.cell? ⟨gb147, 0, none⟩ = some (.slice (some ad149) l0_0.length c0_0) := (blk_cell BK147.out 0).trans rfl; have hfz20_0 := blk_frozen BK147.out 0; have p153 : 0 ≤ (0 : Int) := (by omega); have q153 : 0 < (l0_0.length : Int) := of_decide_eq_true (by first | (with_reducible assumption) | assumption); obtain ⟨ad153, A153_1, c153_1, e153, hx153_0, hx153_1, hl153_1, hi153_1⟩ := at_T124 HR0_0.out 0 p153 q153; obtain rfl : ad149 = ad153 := (by injection e153); have qi153 : (0 < l0_0.length) = True := eq_true (by omega); (try rw [show ((0 : Int)).toNat = 0 from rfl] at hx153_0); (try rw [show 0 * 2 = 0 from rfl] at hx153_0); (try rw [Addr.add_zero'] at hx153_0); (try rw [show ((0 : Int)).toNat = 0 from rfl] at hx153_1); (try rw [show 0 * 2 = 0 from rfl] at hx153_1); (try rw [Addr.add_zero'] at hx153_1); have hn153_0 : ad149.block ≠ gb150 := Nat.ne_of_lt (Nat.lt_of_lt_of_le (by have := World.block_lt_of_cell? _ _ hx153_0; first | rwa [add_block] at this | exact this) GW150.out); have hn153_1 : ad149.block ≠ gb150 := Nat.ne_of_lt (Nat.lt_of_lt_of_le (by have := World.block_lt_of_cell? _ _ hx153_0; first | rwa [add_block] at this | exact this) GW150.out); replace hx153_0 := (HB.out.cell (World.block_lt_of_cell? w _ hx153_0)).trans hx153_0; replace hx153_1 := (HB.out.cell (World.block_lt_of_cell? w _ hx153_1)).trans hx153_1; have HR153_1 := Aside0.mk hi153_1; have HC153_1 := Aside0.mk hl153_1; clear hi153_1 hl153_1; replace hx153_0 := (cell_far (p := ⟨gb150, 0, none⟩) (by first | (rw [add_block]; exact hn153_0) | (show (Addr.add _ _).block ≠ _; rw [add_block]; exact hn153_0) | exact hn153_0) (.string ((rd_T124 l0_0 x3_1).f0))).trans hx153_0; replace hx153_1 := (cell_far (p := ⟨gb150, 0, none⟩) (by first | (rw [add_block]; exact hn153_0) | (show (Addr.add _ _).block ≠ _; rw [add_block]; exact hn153_0) | exact hn153_0) (.string ((rd_T124 l0_0 x3_1).f0))).trans hx153_1; replace hx153_0 := (cell_far (p := ⟨gb150, 1, none⟩) (by first | (rw [add_block]; exact hn153_1) | (show (Addr.add _ _).block ≠ _; rw [add_block]; exact hn153_1) | exact hn153_1) (.slice A149_1 ((rd_T124 l0_0 x3_1).f1).length c149_1)).trans hx153_0; replace hx153_1 := (cell_far (p := ⟨gb150, 1, none⟩) (by first | (rw [add_block]; exact hn153_1) | (show (Addr.add _ _).block ≠ _; rw [add_block]; exact hn153_1) | exact hn153_1) (.slice A149_1 ((rd_T124 l0_0 x3_1).f1).length c149_1)).trans hx153_1; (try have hy153_0 := fun (n_ : Nat) => (show ((((w10.drewN n_).setCell ⟨gb150, 0, none⟩ (.string ((rd_T124 l0_0 x3_1).f0))).setCell ⟨gb150, 1, none⟩ (.slice A149_1 ((rd_T124 l0_0 x3_1).f1).length c149_1))).cell? _ = some _ from hx153_0)); (try have hy153_1 := fun (n_ : Nat) => (show ((((w10.drewN n_).setCell ⟨gb150, 0, none⟩ (.string ((rd_T124 l0_0 x3_1).f0))).setCell ⟨gb150, 1, none⟩ (.slice A149_1 ((rd_T124 l0_0 x3_1).f1).length c149_1))).cell? _ = some _ from hx153_1)); clear hn153_0; clear hn153_1; replace p153 := eq_true p153; replace q153 := eq_true q153)); try go_wp2_with (first | (go_at_call 120; (with_reducible refine (spec_IsName.calls k1 ((rd_T124 l0_0 x3_1).f0) true _ A13.out).mono ?_); rintro e w' ⟨rfl, ⟨nd, rfl⟩⟩; (try first | exact ⟨rfl, _, World.drewN_drewN _ _ _⟩ | exact ⟨rfl, _, Eq.trans (World.drewN_drewN _ _ _) (congrArg (World.drewN _) (Nat.add_assoc _ _ _))⟩)) | (go_at_call 37; (with_reducible refine (spec_AreValues.calls k1 _ _ ((rd_T124 l0_0 x3_1).f1) true _ ?side1 ?side2 A15.out).mono ?_); (case side1 => exact Kd.C_below HR149_1.out (by repeat (first | (with_reducible first | exact HB.out | apply below_alloc | apply pw_below_drewN | apply below_drew1 | refine below_set ?_ GE147.out | refine below_set ?_ GE150.out) | exact HB.out))); (case side2 => exact HC149_1.out); rintro e w' ⟨rfl, ⟨nd, rfl⟩⟩; (try first | exact ⟨rfl, _, World.drewN_drewN _ _ _⟩ | exact ⟨rfl, _, Eq.trans (World.drewN_drewN _ _ _) (congrArg (World.drewN _) (Nat.add_assoc _ _ _))⟩); have hcz20_0 : w10.cell? ⟨gb147, 0, none⟩ = some (.slice (some ad149) l0_0.length c0_0) := (blk_cell BK147.out 0).trans rfl; have hfz20_0 := blk_frozen BK147.out 0; have p153 : 0 ≤ (0 : Int) := (by omega); have q153 : 0 < (l0_0.length : Int) := of_decide_eq_true (by first | (with_reducible assumption) | assumption); obtain ⟨ad153, A153_1, c153_1, e153, hx153_0, hx153_1, hl153_1, hi153_1⟩ := at_T124 HR0_0.out 0 p153 q153; obtain rfl : ad149 = ad153 := (by injection e153); have qi153 : (0 < l0_0.length) = True := eq_true (by omega); (try rw [show ((0 : Int)).toNat = 0 from rfl] at hx153_0); (try rw [show 0 * 2 = 0 from rfl] at hx153_0); (try rw [Addr.add_zero'] at hx153_0); (try rw [show ((0 : Int)).toNat = 0 from rfl] at hx153_1); (try rw [show 0 * 2 = 0 from rfl] at hx153_1); (try rw [Addr.add_zero'] at hx153_1); have hn153_0 : ad149.block ≠ gb150 := Nat.ne_of_lt (Nat.lt_of_lt_of_le (by have := World.block_lt_of_cell? _ _ hx153_0; first | rwa [add_block] at this | exact this) GW150.out); have hn153_1 : ad149.block ≠ gb150 := Nat.ne_of_lt (Nat.lt_of_lt_of_le (by have := World.block_lt_of_cell? _ _ hx153_0; first | rwa [add_block] at this | exact this) GW150.out); replace hx153_0 := (HB.out.cell (World.block_lt_of_cell? w _ hx153_0)).trans hx153_0; replace hx153_1 := (HB.out.cell (World.block_lt_of_cell? w _ hx153_1)).trans hx153_1; have HR153_1 := Aside0.mk hi153_1; have HC153_1 := Aside0.mk hl153_1; clear hi153_1 hl153_1; replace hx153_0 := (cell_far (p := ⟨gb150, 0, none⟩) (by first | (rw [add_block]; exact hn153_0) | (show (Addr.add _ _).block ≠ _; rw [add_block]; exact hn153_0) | exact hn153_0) (.string ((rd_T124 l0_0 x3_1).f0))).trans hx153_0; replace hx153_1 := (cell_far (p := ⟨gb150, 0, none⟩) (by first | (rw [add_block]; exact hn153_0) | (show (Addr.add _ _).block ≠ _; rw [add_block]; exact hn153_0) | exact hn153_0) (.string ((rd_T124 l0_0 x3_1).f0))).trans hx153_1; replace hx153_0 := (cell_far (p := ⟨gb150, 1, none⟩) (by first | (rw [add_block]; exact hn153_1) | (show (Addr.add _ _).block ≠ _; rw [add_block]; exact hn153_1) | exact hn153_1) (.slice A149_1 ((rd_T124 l0_0 x3_1).f1).length c149_1)).trans hx153_0; replace hx153_1 := (cell_far (p := ⟨gb150, 1, none⟩) (by first | (rw [add_block]; exact hn153_1) | (show (Addr.add _ _).block ≠ _; rw [add_block]; exact hn153_1) | exact hn153_1) (.slice A149_1 ((rd_T124 l0_0 x3_1).f1).length c149_1)).trans hx153_1; (try have hy153_0 := fun (n_ : Nat) => (show ((((w10.drewN n_).setCell ⟨gb150, 0, none⟩ (.string ((rd_T124 l0_0 x3_1).f0))).setCell ⟨gb150, 1, none⟩ (.slice A149_1 ((rd_T124 l0_0 x3_1).f1).length c149_1))).cell? _ = some _ from hx153_0)); (try have hy153_1 := fun (n_ : Nat) => (show ((((w10.drewN n_).setCell ⟨gb150, 0, none⟩ (.string ((rd_T124 l0_0 x3_1).f0))).setCell ⟨gb150, 1, none⟩ (.slice A149_1 ((rd_T124 l0_0 x3_1).f1).length c149_1))).cell? _ = some _ from hx153_1)); clear hn153_0; clear hn153_1; replace p153 := eq_true p153; replace q153 := eq_true q153)))
          go_meet
          case rel => exact ⟨_, (((((rd_T124 l0_0 x3_1).f1).length : Int) != (((rd_T124 l0_0 0).f1).length : Int))), (by first | rfl | (simp; done) | (simp [*]; done)), H', ⟨by have := HK1.out; first | omega | exact Nat.le_refl _⟩, ⟨by (with_reducible repeat (first | refine blk_drewN ?_ _ | refine blk_drew ?_ | refine blk_alloc ?_ _)); refine blk_far ?_ NB147_150.out _; (with_reducible repeat (first | refine blk_drewN ?_ _ | refine blk_drew ?_ | refine blk_alloc ?_ _)); refine blk_far ?_ NB147_150.out _; (with_reducible repeat (first | refine blk_drewN ?_ _ | refine blk_drew ?_ | refine blk_alloc ?_ _)); exact BK147.out⟩, ⟨by (with_reducible repeat (first | refine blk_drewN ?_ _ | refine blk_drew ?_ | refine blk_alloc ?_ _)); refine blk_put (cs := #[.string ((rd_T124 l0_0 x3_1).f0), .slice none 0 0]) ?_ 1 _ rfl; (with_reducible repeat (first | refine blk_drewN ?_ _ | refine blk_drew ?_ | refine blk_alloc ?_ _)); refine blk_put (cs := #[.string (⟨#[]⟩ : ByteArray), .slice none 0 0]) ?_ 0 _ rfl; (with_reducible repeat (first | refine blk_drewN ?_ _ | refine blk_drew ?_ | refine blk_alloc ?_ _)); exact BK150.out⟩, ⟨by repeat (first | (with_reducible first | exact HB.out | apply below_alloc | apply pw_below_drewN | apply below_drew1 | refine below_set ?_ GE147.out | refine below_set ?_ GE150.out) | exact HB.out)⟩⟩
         ·rw [if_neg c17] at H
          exact absurd H (by simp)
        ·replace c16 := Bool.eq_false_iff.mpr c16
         subst c16
         have H1 : (spec_IsTable.j1 k1 x3_1 true l0_0 ((rd_T124 l0_0 x3_1).f0) ((rd_T124 l0_0 x3_1).f1)) = some r := by rw [if_neg (show ¬ (false = true) by decide)] at H; exact H
         clear H
         have H := H1
         clear H1
         have H' := Aside0.mk H
         clear H
         have hnb21 := NB150_147.out
         have hnc21 := NB147_150.out
         have hcz22_0 : w10.cell? ⟨gb150, 0, none⟩ = some (.string (⟨#[]⟩ : ByteArray)) := (blk_cell BK150.out 0).trans rfl
         have hcz22_1 : w10.cell? ⟨gb150, 1, none⟩ = some (.slice none 0 0) := (blk_cell BK150.out 1).trans rfl
         have hfz22_0 := blk_frozen BK150.out 0
         have hfz22_1 := blk_frozen BK150.out 1
         go_wp2_with (first | (go_at_call 120; (with_reducible refine (spec_IsName.calls k1 ((rd_T124 l0_0 x3_1).f0) true _ A13.out).mono ?_); rintro e w' ⟨rfl, ⟨nd, rfl⟩⟩; (try first | exact ⟨rfl, _, World.drewN_drewN _ _ _⟩ | exact ⟨rfl, _, Eq.trans (World.drewN_drewN _ _ _) (congrArg (World.drewN _) (Nat.add_assoc _ _ _))⟩)) | (go_at_call 37; (with_reducible refine (spec_AreValues.calls k1 _ _ ((rd_T124 l0_0 x3_1).f1) false _ ?side1 ?side2 A15.out).mono ?_); (case side1 => exact Kd.C_below HR149_1.out (by repeat (first | (with_reducible first | exact HB.out | apply below_alloc | apply pw_below_drewN | apply below_drew1 | refine below_set ?_ GE147.out | refine below_set ?_ GE150.out) | exact HB.out))); (case side2 => exact HC149_1.out); rintro e w' ⟨rfl, ⟨nd, rfl⟩⟩; (try first | exact ⟨rfl, _, World.drewN_drewN _ _ _⟩ | exact ⟨rfl, _, Eq.trans (World.drewN_drewN _ _ _) (congrArg (World.drewN _) (Nat.add_assoc _ _ _))⟩)))
         repeat (go_quiet (first | (go_at_call 120; (with_reducible refine (spec_IsName.calls k1 ((rd_T124 l0_0 x3_1).f0) true _ A13.out).mono ?_); rintro e w' ⟨rfl, ⟨nd, rfl⟩⟩; (try first | exact ⟨rfl, _, World.drewN_drewN _ _ _⟩ | exact ⟨rfl, _, Eq.trans (World.drewN_drewN _ _ _) (congrArg (World.drewN _) (Nat.add_assoc _ _ _))⟩)) | (go_at_call 37; (with_reducible refine (spec_AreValues.calls k1 _ _ ((rd_T124 l0_0 x3_1).f1) false _ ?side1 ?side2 A15.out).mono ?_); (case side1 => exact Kd.C_below HR149_1.out (by repeat (first | (with_reducible first | exact HB.out | apply below_alloc | apply pw_below_drewN | apply below_drew1 | refine below_set ?_ GE147.out | refine below_set ?_ GE150.out) | exact HB.out))); (case side2 => exact HC149_1.out); rintro e w' ⟨rfl, ⟨nd, rfl⟩⟩; (try first | exact ⟨rfl, _, World.drewN_drewN _ _ _⟩ | exact ⟨rfl, _, Eq.trans (World.drewN_drewN _ _ _) (congrArg (World.drewN _) (Nat.add_assoc _ _ _))⟩))); try go_wp2_with (first | (go_at_call 120; (with_reducible refine (spec_IsName.calls k1 ((rd_T124 l0_0 x3_1).f0) true _ A13.out).mono ?_); rintro e w' ⟨rfl, ⟨nd, rfl⟩⟩; (try first | exact ⟨rfl, _, World.drewN_drewN _ _ _⟩ | exact ⟨rfl, _, Eq.trans (World.drewN_drewN _ _ _) (congrArg (World.drewN _) (Nat.add_assoc _ _ _))⟩)) | (go_at_call 37; (with_reducible refine (spec_AreValues.calls k1 _ _ ((rd_T124 l0_0 x3_1).f1) false _ ?side1 ?side2 A15.out).mono ?_); (case side1 => exact Kd.C_below HR149_1.out (by repeat (first | (with_reducible first | exact HB.out | apply below_alloc | apply pw_below_drewN | apply below_drew1 | refine below_set ?_ GE147.out | refine below_set ?_ GE150.out) | exact HB.out))); (case side2 => exact HC149_1.out); rintro e w' ⟨rfl, ⟨nd, rfl⟩⟩; (try first | exact ⟨rfl, _, World.drewN_drewN _ _ _⟩ | exact ⟨rfl, _, Eq.trans (World.drewN_drewN _ _ _) (congrArg (World.drewN _) (Nat.add_assoc _ _ _))⟩))))
         go_meet
         case rel => exact ⟨_, (true), (by first | rfl | (simp; done) | (simp [*]; done)), H', ⟨by have := HK1.out; first | omega | exact Nat.le_refl _⟩, ⟨by (with_reducible repeat (first | refine blk_drewN ?_ _ | refine blk_drew ?_ | refine blk_alloc ?_ _)); refine blk_far ?_ NB147_150.out _; (with_reducible repeat (first | refine blk_drewN ?_ _ | refine blk_drew ?_ | refine blk_alloc ?_ _)); refine blk_far ?_ NB147_150.out _; (with_reducible repeat (first | refine blk_drewN ?_ _ | refine blk_drew ?_ | refine blk_alloc ?_ _)); exact BK147.out⟩, ⟨by (with_reducible repeat (first | refine blk_drewN ?_ _ | refine blk_drew ?_ | refine blk_alloc ?_ _)); refine blk_put (cs := #[.string ((rd_T124 l0_0 x3_1).f0), .slice none 0 0]) ?_ 1 _ rfl; (with_reducible repeat (first | refine blk_drewN ?_ _ | refine blk_drew ?_ | refine blk_alloc ?_ _)); refine blk_put (cs := #[.string (⟨#[]⟩ : ByteArray), .slice none 0 0]) ?_ 0 _ rfl; (with_reducible repeat (first | refine blk_drewN ?_ _ | refine blk_drew ?_ | refine blk_alloc ?_ _)); exact BK150.out⟩, ⟨by repeat (first | (with_reducible first | exact HB.out | apply below_alloc | apply pw_below_drewN | apply below_drew1 | refine below_set ?_ GE147.out | refine below_set ?_ GE150.out) | exact HB.out)⟩⟩
       ·replace c14 := Bool.eq_false_iff.mpr c14
        subst c14
        have H1 : (spec_IsTable.j1 k1 x3_1 true l0_0 ((rd_T124 l0_0 x3_1).f0) ((rd_T124 l0_0 x3_1).f1)) = some r := by rw [if_neg (show ¬ (false = true) by decide)] at H; exact H
        clear H
        have H := H1
        clear H1
        have H' := Aside0.mk H
        clear H
        have hnb23 := NB150_147.out
        have hnc23 := NB147_150.out
        have hcz24_0 : w10.cell? ⟨gb150, 0, none⟩ = some (.string (⟨#[]⟩ : ByteArray)) := (blk_cell BK150.out 0).trans rfl
        have hcz24_1 : w10.cell? ⟨gb150, 1, none⟩ = some (.slice none 0 0) := (blk_cell BK150.out 1).trans rfl
        have hfz24_0 := blk_frozen BK150.out 0
        have hfz24_1 := blk_frozen BK150.out 1
        go_wp2_with (first | (go_at_call 120; (with_reducible refine (spec_IsName.calls k1 ((rd_T124 l0_0 x3_1).f0) false _ A13.out).mono ?_); rintro e w' ⟨rfl, ⟨nd, rfl⟩⟩; (try first | exact ⟨rfl, _, World.drewN_drewN _ _ _⟩ | exact ⟨rfl, _, Eq.trans (World.drewN_drewN _ _ _) (congrArg (World.drewN _) (Nat.add_assoc _ _ _))⟩)))
        repeat (go_quiet (first | (go_at_call 120; (with_reducible refine (spec_IsName.calls k1 ((rd_T124 l0_0 x3_1).f0) false _ A13.out).mono ?_); rintro e w' ⟨rfl, ⟨nd, rfl⟩⟩; (try first | exact ⟨rfl, _, World.drewN_drewN _ _ _⟩ | exact ⟨rfl, _, Eq.trans (World.drewN_drewN _ _ _) (congrArg (World.drewN _) (Nat.add_assoc _ _ _))⟩))); try go_wp2_with (first | (go_at_call 120; (with_reducible refine (spec_IsName.calls k1 ((rd_T124 l0_0 x3_1).f0) false _ A13.out).mono ?_); rintro e w' ⟨rfl, ⟨nd, rfl⟩⟩; (try first | exact ⟨rfl, _, World.drewN_drewN _ _ _⟩ | exact ⟨rfl, _, Eq.trans (World.drewN_drewN _ _ _) (congrArg (World.drewN _) (Nat.add_assoc _ _ _))⟩))))
        go_meet
        case rel => exact ⟨_, (true), (by first | rfl | (simp; done) | (simp [*]; done)), H', ⟨by have := HK1.out; first | omega | exact Nat.le_refl _⟩, ⟨by (with_reducible repeat (first | refine blk_drewN ?_ _ | refine blk_drew ?_ | refine blk_alloc ?_ _)); refine blk_far ?_ NB147_150.out _; (with_reducible repeat (first | refine blk_drewN ?_ _ | refine blk_drew ?_ | refine blk_alloc ?_ _)); refine blk_far ?_ NB147_150.out _; (with_reducible repeat (first | refine blk_drewN ?_ _ | refine blk_drew ?_ | refine blk_alloc ?_ _)); exact BK147.out⟩, ⟨by (with_reducible repeat (first | refine blk_drewN ?_ _ | refine blk_drew ?_ | refine blk_alloc ?_ _)); refine blk_put (cs := #[.string ((rd_T124 l0_0 x3_1).f0), .slice none 0 0]) ?_ 1 _ rfl; (with_reducible repeat (first | refine blk_drewN ?_ _ | refine blk_drew ?_ | refine blk_alloc ?_ _)); refine blk_put (cs := #[.string (⟨#[]⟩ : ByteArray), .slice none 0 0]) ?_ 0 _ rfl; (with_reducible repeat (first | refine blk_drewN ?_ _ | refine blk_drew ?_ | refine blk_alloc ?_ _)); exact BK150.out⟩, ⟨by repeat (first | (with_reducible first | exact HB.out | apply below_alloc | apply pw_below_drewN | apply below_drew1 | refine below_set ?_ GE147.out | refine below_set ?_ GE150.out) | exact HB.out)⟩⟩
      case rest =>
       clear HC8
       try clear c1
       try clear p1
       try clear q1
       try clear hx1
       try clear qi1
       try clear c2
       try clear p2
       try clear c3
       try clear c6
       try clear c6b0
       try clear c7
       try clear c7b0
       try clear c8
       try clear c11
       try clear c14
       try clear p14
       try clear q14
       try clear hx14
       try clear c15
       try clear p15
       try clear q15
       try clear hx15
       try clear qi15
       try clear c16
       try clear c17
       try clear c17b0
       try clear c17b1
       try clear c18
       try clear c21
       try clear c23
       try clear hcz12_0
       try clear hcz12_1
       try clear hcz19_0
       try clear hcz19_1
       try clear hcz20_0
       try clear hcz22_0
       try clear hcz22_1
       try clear hcz24_0
       try clear hcz24_1
       try clear hcz5_0
       try clear hcz9_0
       try clear hfz12_0
       try clear hfz12_1
       try clear hfz19_0
       try clear hfz19_1
       try clear hfz20_0
       try clear hfz22_0
       try clear hfz22_1
       try clear hfz24_0
       try clear hfz24_1
       try clear hfz5_0
       try clear hfz9_0
       try clear hx149_0
       try clear hx149_1
       try clear hx153_0
       try clear hx153_1
       try clear p149
       try clear p153
       try clear p2
       try clear q149
       try clear q153
       obtain ⟨kq, x44_7, rfl, HA, HJ7, BK147, BK150, HB⟩ := hcut
       cases kq with
       | zero => exact absurd HA.out (by simp [spec_IsTable.j1])
       | succ kj7 =>
        have H := HA.out
        clear HA
        simp only [spec_IsTable.j1] at H
        by_cases c25 : x44_7 = true
        ·subst c25
         have H1 : (some false) = some r := by rw [if_pos rfl] at H; exact H
         clear H
         have H := H1
         clear H1
         obtain rfl := Option.some.inj H
         go_wp2
         repeat (go_quiet (fail); try go_wp2)
         go_ret
         exact ⟨by first | rfl | (simp [errW_none, errW_some] <;> rfl) | (simp [*, errW_none, errW_some] <;> rfl), by repeat (first | (with_reducible first | exact HB.out | apply below_alloc | apply pw_below_drewN | apply below_drew1 | refine below_set ?_ GE147.out | refine below_set ?_ GE150.out) | exact HB.out)⟩
        ·replace c25 := Bool.eq_false_iff.mpr c25
         subst c25
         have H1 : (spec_IsTable.l1 kj7 x3_1 0 l0_0 ((rd_T124 l0_0 x3_1).f0) ((rd_T124 l0_0 x3_1).f1)) = some r := by rw [if_neg (show ¬ (false = true) by decide)] at H; exact H
         clear H
         have H := H1
         clear H1
         have H' := Aside0.mk H
         clear H
         go_wp2
         repeat (go_quiet (fail); try go_wp2)
         go_loopg [5] kj7 (fun kq v5 w' => ∃ (x5_3 : Int), v5 = .int .i64 x5_3 ∧ Aside0 (spec_IsTable.l1 kq x3_1 x5_3 l0_0 ((rd_T124 l0_0 x3_1).f0) ((rd_T124 l0_0 x3_1).f1) = some r) ∧ Aside0 (kq ≤ kj7) ∧ Aside0 (w'.heap[gb147]? = some (.cells #[(.slice (some ad149) l0_0.length c0_0)] 81 (0, 0))) ∧ Aside0 (w'.heap[gb150]? = some (.cells #[.string ((rd_T124 l0_0 x3_1).f0), (.slice A149_1 ((rd_T124 l0_0 x3_1).f1).length c149_1)] 124 (0, 0))) ∧ Aside0 (Below w.heap.size w w'))
         case atStart => exact ⟨(0), (by first | rfl | (simp; done) | (simp [*]; done)), H', ⟨Nat.le_refl _⟩, ⟨by (with_reducible repeat (first | refine blk_drewN ?_ _ | refine blk_drew ?_ | refine blk_alloc ?_ _)); exact BK147.out⟩, ⟨by (with_reducible repeat (first | refine blk_drewN ?_ _ | refine blk_drew ?_ | refine blk_alloc ?_ _)); exact BK150.out⟩, ⟨by repeat (first | (with_reducible first | exact HB.out | apply below_alloc | apply pw_below_drewN | apply below_drew1 | refine below_set ?_ GE147.out | refine below_set ?_ GE150.out) | exact HB.out)⟩⟩
         case round =>
          clear H'
          try clear c1
          try clear p1
          try clear q1
          try clear hx1
          try clear qi1
          try clear c2
          try clear p2
          try clear c3
          try clear c6
          try clear c6b0
          try clear c7
          try clear c7b0
          try clear c8
          try clear c11
          try clear c14
          try clear p14
          try clear q14
          try clear hx14
          try clear c15
          try clear p15
          try clear q15
          try clear hx15
          try clear qi15
          try clear c16
          try clear c17
          try clear c17b0
          try clear c17b1
          try clear c18
          try clear c21
          try clear c23
          try clear c25
          try clear hcz12_0
          try clear hcz12_1
          try clear hcz19_0
          try clear hcz19_1
          try clear hcz20_0
          try clear hcz22_0
          try clear hcz22_1
          try clear hcz24_0
          try clear hcz24_1
          try clear hcz5_0
          try clear hcz9_0
          try clear hfz12_0
          try clear hfz12_1
          try clear hfz19_0
          try clear hfz19_1
          try clear hfz20_0
          try clear hfz22_0
          try clear hfz22_1
          try clear hfz24_0
          try clear hfz24_1
          try clear hfz5_0
          try clear hfz9_0
          try clear hx149_0
          try clear hx149_1
          try clear hx153_0
          try clear hx153_1
          try clear p1
          try clear p14
          try clear p149
          try clear p15
          try clear p153
          try clear p2
          try clear q1
          try clear q14
          try clear q149
          try clear q15
          try clear q153
          obtain ⟨x5_3, rfl, HA, HK3, BK147, BK150, HB⟩ := hrel
          cases gk with
          | zero => exact absurd HA.out (by simp [spec_IsTable.l1])
          | succ k3 =>
           have H := HA.out
           clear HA
           simp only [spec_IsTable.l1] at H
           by_cases c26 : x5_3 < x3_1
           ·rw [if_pos c26] at H
            have c26b0 : decide (x5_3 < x3_1) = true := decide_eq_true c26
            clear c26
            by_cases c27 : 0 ≤ x5_3
            ·rw [if_pos c27] at H
             have c27b0 : decide (0 ≤ x5_3) = true := decide_eq_true c27
             clear c27
             by_cases c28 : x5_3 < (l0_0.length : Int)
             ·rw [if_pos c28] at H
              have c28b0 : decide (x5_3 < (l0_0.length : Int)) = true := decide_eq_true c28
              clear c28
              by_cases c29 : ((rd_T124 l0_0 x5_3).f0).toList = ((rd_T124 l0_0 x3_1).f0).toList
              ·rw [if_pos c29] at H
               have c29b0 : (((rd_T124 l0_0 x5_3).f0).toList == ((rd_T124 l0_0 x3_1).f0).toList) = true := beq_iff_eq.mpr c29
               have c29b1 : (((rd_T124 l0_0 x5_3).f0).toList != ((rd_T124 l0_0 x3_1).f0).toList) = false := bne_eq_false_iff_eq.mpr c29
               clear c29
               obtain rfl := Option.some.inj H
               have hnb30 := NB147_150.out
               have hnc30 := NB150_147.out
               have hcz31_0 : wr.cell? ⟨gb147, 0, none⟩ = some (.slice (some ad149) l0_0.length c0_0) := (blk_cell BK147.out 0).trans rfl
               have hfz31_0 := blk_frozen BK147.out 0
               have p154 : 0 ≤ (x5_3 : Int) := of_decide_eq_true (by first | (with_reducible assumption) | assumption)
               have q154 : x5_3 < (l0_0.length : Int) := of_decide_eq_true (by first | (with_reducible assumption) | assumption)
               obtain ⟨ad154, A154_1, c154_1, e154, hx154_0, hx154_1, hl154_1, hi154_1⟩ := at_T124 HR0_0.out x5_3 p154 q154
               obtain rfl : ad149 = ad154 := (by injection e154)
               replace hx154_0 := (HB.out.cell (World.block_lt_of_cell? w _ hx154_0)).trans hx154_0
               replace hx154_1 := (HB.out.cell (World.block_lt_of_cell? w _ hx154_1)).trans hx154_1
               have HR154_1 := Aside0.mk hi154_1
               have HC154_1 := Aside0.mk hl154_1
               clear hi154_1 hl154_1
               replace p154 := eq_true p154
               replace q154 := eq_true q154
               have hcz32_0 : wr.cell? ⟨gb150, 0, none⟩ = some (.string ((rd_T124 l0_0 x3_1).f0)) := (blk_cell BK150.out 0).trans rfl
               have hcz32_1 : wr.cell? ⟨gb150, 1, none⟩ = some (.slice A149_1 ((rd_T124 l0_0 x3_1).f1).length c149_1) := (blk_cell BK150.out 1).trans rfl
               have hfz32_0 := blk_frozen BK150.out 0
               have hfz32_1 := blk_frozen BK150.out 1
               go_wp2
               repeat (go_quiet (fail); try go_wp2)
               go_ret
               exact ⟨by first | rfl | (simp [errW_none, errW_some] <;> rfl) | (simp [*, errW_none, errW_some] <;> rfl), by repeat (first | (with_reducible first | exact HB.out | apply below_alloc | apply pw_below_drewN | apply below_drew1 | refine below_set ?_ GE147.out | refine below_set ?_ GE150.out) | exact HB.out)⟩
              ·rw [if_neg c29] at H
               have c29b0 : (((rd_T124 l0_0 x5_3).f0).toList == ((rd_T124 l0_0 x3_1).f0).toList) = false := beq_eq_false_iff_ne.mpr c29
               have c29b1 : (((rd_T124 l0_0 x5_3).f0).toList != ((rd_T124 l0_0 x3_1).f0).toList) = true := bne_iff_ne.mpr c29
               have H' := Aside0.mk H
               clear H
               have hnb33 := NB147_150.out
               have hnc33 := NB150_147.out
               have hcz34_0 : wr.cell? ⟨gb147, 0, none⟩ = some (.slice (some ad149) l0_0.length c0_0) := (blk_cell BK147.out 0).trans rfl
               have hfz34_0 := blk_frozen BK147.out 0
               have p154 : 0 ≤ (x5_3 : Int) := of_decide_eq_true (by first | (with_reducible assumption) | assumption)
               have q154 : x5_3 < (l0_0.length : Int) := of_decide_eq_true (by first | (with_reducible assumption) | assumption)
               obtain ⟨ad154, A154_1, c154_1, e154, hx154_0, hx154_1, hl154_1, hi154_1⟩ := at_T124 HR0_0.out x5_3 p154 q154
               obtain rfl : ad149 = ad154 := (by injection e154)
               replace hx154_0 := (HB.out.cell (World.block_lt_of_cell? w _ hx154_0)).trans hx154_0
               replace hx154_1 := (HB.out.cell (World.block_lt_of_cell? w _ hx154_1)).trans hx154_1
               have HR154_1 := Aside0.mk hi154_1
               have HC154_1 := Aside0.mk hl154_1
               clear hi154_1 hl154_1
               replace p154 := eq_true p154
               replace q154 := eq_true q154
               have hcz35_0 : wr.cell? ⟨gb150, 0, none⟩ = some (.string ((rd_T124 l0_0 x3_1).f0)) := (blk_cell BK150.out 0).trans rfl
               have hcz35_1 : wr.cell? ⟨gb150, 1, none⟩ = some (.slice A149_1 ((rd_T124 l0_0 x3_1).f1).length c149_1) := (blk_cell BK150.out 1).trans rfl
               have hfz35_0 := blk_frozen BK150.out 0
               have hfz35_1 := blk_frozen BK150.out 1
               go_wp2
               repeat (go_quiet (fail); try go_wp2)
               go_roundg k3
               case measure => have := HK1.out; have := HJ7.out; have := HK3.out; omega
               case rel => exact ⟨(wrap64 (x5_3 + 1)), (by first | rfl | (simp; done) | (simp [*]; done)), H', ⟨by have := HK1.out; have := HJ7.out; have := HK3.out; omega⟩, ⟨by (with_reducible repeat (first | refine blk_drewN ?_ _ | refine blk_drew ?_ | refine blk_alloc ?_ _)); exact BK147.out⟩, ⟨by (with_reducible repeat (first | refine blk_drewN ?_ _ | refine blk_drew ?_ | refine blk_alloc ?_ _)); exact BK150.out⟩, ⟨by repeat (first | (with_reducible first | exact HB.out | apply below_alloc | apply pw_below_drewN | apply below_drew1 | refine below_set ?_ GE147.out | refine below_set ?_ GE150.out) | exact HB.out)⟩⟩
             ·rw [if_neg c28] at H
              exact absurd H (by simp)
            ·rw [if_neg c27] at H
             exact absurd H (by simp)
           ·rw [if_neg c26] at H
            have c26b0 : decide (x5_3 < x3_1) = false := decide_eq_false c26
            clear c26
            have H' := Aside0.mk H
            clear H
            go_wp2
            repeat (go_quiet (fail); try go_wp2)
            go_roundg k3
            case measure => have := HK1.out; have := HJ7.out; have := HK3.out; omega
            case rel => exact ⟨(wrap64 (x3_1 + 1)), (by first | rfl | (simp; done) | (simp [*]; done)), H', ⟨by have := HK1.out; have := HJ7.out; have := HK3.out; omega⟩, ⟨by (with_reducible repeat (first | refine blk_drewN ?_ _ | refine blk_drew ?_ | refine blk_alloc ?_ _)); exact BK147.out⟩, ⟨by repeat (first | (with_reducible first | exact HB.out | apply below_alloc | apply pw_below_drewN | apply below_drew1 | refine below_set ?_ GE147.out | refine below_set ?_ GE150.out) | exact HB.out)⟩⟩
     ·rw [if_neg c7] at H
      exact absurd H (by simp)
    ·rw [if_neg c6] at H
     have c6b0 : decide (x3_1 < (l0_0.length : Int)) = false := decide_eq_false c6
     clear c6
     obtain rfl := Option.some.inj H
     have hcz36_0 : wr.cell? ⟨gb147, 0, none⟩ = some (.slice A0_0 l0_0.length c0_0) := (blk_cell BK147.out 0).trans rfl
     have hfz36_0 := blk_frozen BK147.out 0
     go_wp2
     repeat (go_quiet (fail); try go_wp2)
     go_ret
     exact ⟨by first | rfl | (simp [errW_none, errW_some] <;> rfl) | (simp [*, errW_none, errW_some] <;> rfl), by repeat (first | (with_reducible first | exact HB.out | apply below_alloc | apply pw_below_drewN | apply below_drew1 | refine below_set ?_ GE147.out) | exact HB.out)⟩
 ·replace c3 := Bool.eq_false_iff.mpr c3
  subst c3
  have H1 : (some false) = some r := by rw [if_neg (show ¬ (false = true) by decide)] at H; exact H
  clear H
  have H := H1
  clear H1
  obtain rfl := Option.some.inj H
  go_enter Try.func80, Try.ntmps80
  go_wp2_with (first | ((with_reducible refine gate_dst (N := 1) rfl ?_); (try (refine gate_guard (by rfl) ?_; dsimp only)); refine box_event ?hg (N := 1) ?hd (cs := #[.slice A0_0 l0_0.length c0_0]) (t := 81) ?hr ?_; (case hd => rfl); (case hg => rfl); (case hr => first | (go_simp; done) | (go_simp; rfl)); intro gb147 hg w37 hbox hb; have n0_ := Aside0.mk (below_step (by repeat (first | (with_reducible first | exact HB.out | apply below_alloc | apply pw_below_drewN | apply below_drew1) | exact HB.out)) hb); have n1_ := Aside0.mk (hbox); have n2_ := Aside0.mk ((by rw [hg]; exact (below_size (by repeat (first | (with_reducible first | exact HB.out | apply below_alloc | apply pw_below_drewN | apply below_drew1) | exact HB.out))) : w.heap.size ≤ gb147)); have n3_ := Aside0.mk ((by rw [hg]; exact (below_size (by repeat (first | (with_reducible first | exact HB.out | apply below_alloc | apply pw_below_drewN | apply below_drew1) | exact HB.out))) : w.heap.size ≤ gb147)); clear HB; have HB := n0_; have BK147 := n1_; have GW147 := n2_; have GE147 := n3_; clear n0_ n1_ n2_ n3_; clear hb hbox hg; have hcz38_0 : w37.cell? ⟨gb147, 0, none⟩ = some (.slice A0_0 l0_0.length c0_0) := (blk_cell BK147.out 0).trans rfl; have hfz38_0 := blk_frozen BK147.out 0) | (go_at_call 86; (with_reducible refine (spec_l1In.calls (l0_0.length : Int) 1 4 false _ A2.out).mono ?_); rintro e w' ⟨rfl, ⟨nd, rfl⟩⟩; (try first | exact ⟨rfl, _, World.drewN_drewN _ _ _⟩ | exact ⟨rfl, _, Eq.trans (World.drewN_drewN _ _ _) (congrArg (World.drewN _) (Nat.add_assoc _ _ _))⟩)))
  repeat (go_quiet (first | ((with_reducible refine gate_dst (N := 1) rfl ?_); (try (refine gate_guard (by rfl) ?_; dsimp only)); refine box_event ?hg (N := 1) ?hd (cs := #[.slice A0_0 l0_0.length c0_0]) (t := 81) ?hr ?_; (case hd => rfl); (case hg => rfl); (case hr => first | (go_simp; done) | (go_simp; rfl)); intro gb147 hg w37 hbox hb; have n0_ := Aside0.mk (below_step (by repeat (first | (with_reducible first | exact HB.out | apply below_alloc | apply pw_below_drewN | apply below_drew1) | exact HB.out)) hb); have n1_ := Aside0.mk (hbox); have n2_ := Aside0.mk ((by rw [hg]; exact (below_size (by repeat (first | (with_reducible first | exact HB.out | apply below_alloc | apply pw_below_drewN | apply below_drew1) | exact HB.out))) : w.heap.size ≤ gb147)); have n3_ := Aside0.mk ((by rw [hg]; exact (below_size (by repeat (first | (with_reducible first | exact HB.out | apply below_alloc | apply pw_below_drewN | apply below_drew1) | exact HB.out))) : w.heap.size ≤ gb147)); clear HB; have HB := n0_; have BK147 := n1_; have GW147 := n2_; have GE147 := n3_; clear n0_ n1_ n2_ n3_; clear hb hbox hg; have hcz38_0 : w37.cell? ⟨gb147, 0, none⟩ = some (.slice A0_0 l0_0.length c0_0) := (blk_cell BK147.out 0).trans rfl; have hfz38_0 := blk_frozen BK147.out 0) | (go_at_call 86; (with_reducible refine (spec_l1In.calls (l0_0.length : Int) 1 4 false _ A2.out).mono ?_); rintro e w' ⟨rfl, ⟨nd, rfl⟩⟩; (try first | exact ⟨rfl, _, World.drewN_drewN _ _ _⟩ | exact ⟨rfl, _, Eq.trans (World.drewN_drewN _ _ _) (congrArg (World.drewN _) (Nat.add_assoc _ _ _))⟩))); try go_wp2_with (first | ((with_reducible refine gate_dst (N := 1) rfl ?_); (try (refine gate_guard (by rfl) ?_; dsimp only)); refine box_event ?hg (N := 1) ?hd (cs := #[.slice A0_0 l0_0.length c0_0]) (t := 81) ?hr ?_; (case hd => rfl); (case hg => rfl); (case hr => first | (go_simp; done) | (go_simp; rfl)); intro gb147 hg w37 hbox hb; have n0_ := Aside0.mk (below_step (by repeat (first | (with_reducible first | exact HB.out | apply below_alloc | apply pw_below_drewN | apply below_drew1) | exact HB.out)) hb); have n1_ := Aside0.mk (hbox); have n2_ := Aside0.mk ((by rw [hg]; exact (below_size (by repeat (first | (with_reducible first | exact HB.out | apply below_alloc | apply pw_below_drewN | apply below_drew1) | exact HB.out))) : w.heap.size ≤ gb147)); have n3_ := Aside0.mk ((by rw [hg]; exact (below_size (by repeat (first | (with_reducible first | exact HB.out | apply below_alloc | apply pw_below_drewN | apply below_drew1) | exact HB.out))) : w.heap.size ≤ gb147)); clear HB; have HB := n0_; have BK147 := n1_; have GW147 := n2_; have GE147 := n3_; clear n0_ n1_ n2_ n3_; clear hb hbox hg; have hcz38_0 : w37.cell? ⟨gb147, 0, none⟩ = some (.slice A0_0 l0_0.length c0_0) := (blk_cell BK147.out 0).trans rfl; have hfz38_0 := blk_frozen BK147.out 0) | (go_at_call 86; (with_reducible refine (spec_l1In.calls (l0_0.length : Int) 1 4 false _ A2.out).mono ?_); rintro e w' ⟨rfl, ⟨nd, rfl⟩⟩; (try first | exact ⟨rfl, _, World.drewN_drewN _ _ _⟩ | exact ⟨rfl, _, Eq.trans (World.drewN_drewN _ _ _) (congrArg (World.drewN _) (Nat.add_assoc _ _ _))⟩))))
  go_ret
  exact ⟨by first | rfl | (simp [errW_none, errW_some] <;> rfl) | (simp [*, errW_none, errW_some] <;> rfl), by repeat (first | (with_reducible first | exact HB.out | apply below_alloc | apply pw_below_drewN | apply below_drew1 | refine below_set ?_ GE147.out) | exact HB.out)⟩

-- NOT PRINTED: function 141 (slices_IndexFunc_int_int)

-- NOT PRINTED: function 130 (slices_ContainsFunc_int_int)

/-! ### impl_within: function 91 -/
/-- The predicate of within, as the machine's closure gives it. -/
theorem impl_within.pred (B1 B2 : Nat) (lo hi x : Int) (W : World) (h1 : W.cell? ⟨B1, 0, none⟩ = some (.int .i64 lo)) (h2 : W.cell? ⟨B2, 0, none⟩ = some (.int .i64 hi)) :
    Calls Try.prog 131 #[.int .i64 x, .pointer (some ⟨B1, 0, none⟩), .pointer (some ⟨B2, 0, none⟩)] W fun e w' => e = .returned (.bool (decide (x < lo) || decide (hi < x))) ∧ W = w' := by
  by_cases c1 : x < lo
  · have c : decide (x < lo) = true := decide_eq_true c1
    go_enter Try.func131, Try.ntmps131
    go_wp2
    go_ret
    exact ⟨by simp [c1], rfl⟩
  · have c : decide (x < lo) = false := decide_eq_false c1
    by_cases c2 : hi < x
    · have d : decide (hi < x) = true := decide_eq_true c2
      go_enter Try.func131, Try.ntmps131
      go_wp2
      go_ret
      exact ⟨by simp [c1, c2], rfl⟩
    · have d : decide (hi < x) = false := decide_eq_false c2
      go_enter Try.func131, Try.ntmps131
      go_wp2
      go_ret
      exact ⟨by simp [c1, c2], rfl⟩
set_option maxHeartbeats 2000000 in
set_option maxRecDepth 100000 in
theorem impl_within.idx (A0 : Option Addr) (c0 : Nat) (l0 : List Int) (B1 B2 : Nat) (lo hi : Int) (w : World) (hr0 : Kd.C (Kd.int .i64) w A0 l0.length l0) (h1 : w.cell? ⟨B1, 0, none⟩ = some (.int .i64 lo)) (h2 : w.cell? ⟨B2, 0, none⟩ = some (.int .i64 hi)) :
    Calls Try.prog 141 #[.slice A0 l0.length c0, .func (.func 131) #[] #[.pointer (some ⟨B1, 0, none⟩), .pointer (some ⟨B2, 0, none⟩)]] w fun e w' => e = .returned (.int .i64 (Giv.fidx (fun x => decide (x < lo) || decide (hi < x)) l0)) ∧ Drawn0 w w' := by
  have eg := Go.Proofs.enters_of Try.func131 (by kernel_rfl) rfl
  have hn : l0.length ≤ 9223372036854775807 := hr0.2.1
  have HR := Aside0.mk hr0
  clear hr0
  have C1 := Aside0.mk h1
  have C2 := Aside0.mk h2
  clear h1 h2
  go_enter Try.func141, Try.ntmps141
  go_wp2
  go_loopg [5, 8] l0.length (fun gg _ s8 wr => ∃ kk q : Nat, kk ≤ l0.length ∧ l0.length - kk ≤ gg ∧ s8 = .int .i64 kk ∧ wr = w.drewN q ∧ Aside0 (∀ j x, j < kk → l0[j]? = some x → (decide (x < lo) || decide (hi < x)) = false))
  case atStart => exact ⟨0, 0, Nat.zero_le _, by omega, rfl, rfl, ⟨fun j x hj => absurd hj (Nat.not_lt_zero _)⟩⟩
  case round =>
    obtain ⟨kk, q, hkk, hg, rfl, rfl, AH⟩ := hrel
    by_cases hlt : kk < l0.length
    · have hltz : (kk : Int) < (l0.length : Int) := by omega
      obtain ⟨ad, e, hcell⟩ := Kd.at_int HR.out (kk : Int) (by omega) (by omega)
      subst e
      obtain ⟨y, hy⟩ : ∃ y, l0[kk]? = some y := ⟨_, List.getElem?_eq_getElem hlt⟩
      have hy2 : rd l0 (kk : Int) = y := by unfold rd; rw [List.getD_eq_getElem?_getD, Int.toNat_natCast, hy]; rfl
      rw [hy2, Int.toNat_natCast] at hcell
      have HY := Aside0.mk hy
      clear hy hy2
      have hcall := fun W a b => impl_within.pred B1 B2 lo hi y W a b
      cases hq : (decide (y < lo) || decide (hi < y)) with
      | true =>
        rw [hq] at hcall
        have HQ := Aside0.mk hq
        clear hq
        go_wp2_with fail
        refine (hcall _ (by simpa using C1.out) (by simpa using C2.out)).mono ?_
        rintro e w' ⟨rfl, rfl⟩
        go_wp2_with fail
        go_ret
        refine ⟨?_, ⟨_, rfl⟩⟩
        rw [Giv.fidx_hit HY.out HQ.out AH.out]
        rfl
      | false =>
        rw [hq] at hcall
        have HQ := Aside0.mk hq
        clear hq
        go_wp2_with fail
        refine (hcall _ (by simpa using C1.out) (by simpa using C2.out)).mono ?_
        rintro e w' ⟨rfl, rfl⟩
        go_wp2_with fail
        go_roundg (l0.length - (kk + 1))
        case measure => omega
        case rel =>
          refine ⟨kk + 1, _, by omega, by omega, by go_num, rfl, ⟨fun j x hj hx => ?_⟩⟩
          by_cases e : j = kk
          · subst e
            rw [HY.out] at hx
            obtain rfl := Option.some.inj hx
            exact HQ.out
          · exact AH.out j x (by omega) hx
    · have hltz : ¬ (kk : Int) < (l0.length : Int) := by omega
      have hkn := Aside0.mk (show kk = l0.length by omega)
      go_wp2
      go_ret
      refine ⟨?_, ⟨_, rfl⟩⟩
      have hm := AH.out
      rw [hkn.out] at hm
      rw [Giv.fidx_miss hm]
      rfl
set_option maxHeartbeats 2000000 in
set_option maxRecDepth 100000 in
theorem impl_within.has (A0 : Option Addr) (c0 : Nat) (l0 : List Int) (B1 B2 : Nat) (lo hi : Int) (w : World) (hr0 : Kd.C (Kd.int .i64) w A0 l0.length l0) (h1 : w.cell? ⟨B1, 0, none⟩ = some (.int .i64 lo)) (h2 : w.cell? ⟨B2, 0, none⟩ = some (.int .i64 hi)) :
    Calls Try.prog 130 #[.slice A0 l0.length c0, .func (.func 131) #[] #[.pointer (some ⟨B1, 0, none⟩), .pointer (some ⟨B2, 0, none⟩)]] w fun e w' => e = .returned (.bool (l0.any fun x => decide (x < lo) || decide (hi < x))) ∧ Drawn0 w w' := by
  have hcall := impl_within.idx A0 c0 l0 B1 B2 lo hi w hr0 h1 h2
  have HA := Aside0.mk (Giv.fidx_any (fun x => decide (x < lo) || decide (hi < x)) l0)
  generalize Giv.fidx (fun x => decide (x < lo) || decide (hi < x)) l0 = y at hcall HA
  clear hr0 h1 h2
  go_enter Try.func130, Try.ntmps130
  go_wp2_with (go_at_call 141; refine hcall.mono ?_; rintro e w' ⟨rfl, hd⟩)
  go_ret
  exact ⟨by rw [← HA.out]; rfl, hd⟩
def impl_within.f (l0 : List Int) (a1 : Int) (a2 : Int) : Option (Bool) := some (!(l0.any fun x => decide (x < a1) || decide (a2 < x)))
set_option maxHeartbeats 8000000 in
set_option maxRecDepth 100000 in
theorem impl_within.calls (A0 : Option Addr) (c0 : Nat) (l0 : List Int) (a1 : Int) (a2 : Int) (r : Bool) (w : World) (hr0 : Kd.C (Kd.int .i64) w A0 l0.length l0) (hc0 : l0.length ≤ c0) (h : impl_within.f l0 a1 a2 = some r) :
    Calls Try.prog 91 #[.slice A0 l0.length c0, .int .i64 a1, .int .i64 a2] w fun e w' => e = .returned (.bool r) ∧ Below w.heap.size w w' := by
  unfold impl_within.f at h
  obtain rfl := Option.some.inj h
  clear h
  have hcall := fun (W : World) hr a b => impl_within.has A0 c0 l0 w.heap.size (w.heap.size + 1) a1 a2 W hr a b
  have HR := Aside0.mk hr0
  clear hr0
  go_enter Try.func91, Try.ntmps91
  go_wp2_with (go_at_call 130; refine (hcall _ (by repeat (first | exact HR.out | (refine Kd.C_alloc ?_ _) | (refine Kd.C_drew ?_))) (by simp) (by simp)).mono ?_; rintro e w' ⟨rfl, hd⟩)
  go_ret
  exact ⟨rfl, below_then (((Below.refl _ _).alloc (Nat.le_refl _) _).alloc (by simp) _) (by simp; omega) hd.below⟩


/-! ### impl_AreValues: function 38 -/
def impl_AreValues.f (l0 : List Int) : Option (Bool) := if (l0.length : Int) ≤ 64 then ((impl_within.f l0 (-999) 999).bind fun t155 => (some t155)) else (some false)
set_option maxHeartbeats 8000000 in
set_option maxRecDepth 100000 in
theorem impl_AreValues.calls (A0 : Option Addr) (c0 : Nat) (l0 : List Int) (r : Bool) (w : World) (hr0 : Kd.C (Kd.int .i64) w A0 l0.length l0) (hc0 : l0.length ≤ c0) (h : impl_AreValues.f l0 = some r) :
    Calls Try.prog 38 #[.slice A0 l0.length c0] w fun e w' => e = .returned (.bool r) ∧ Below w.heap.size w w' := by
  have HR0 := Aside0.mk hr0
  have HC0 := Aside0.mk hc0
  clear hr0 hc0
  have HB := Aside0.mk (Below.refl w.heap.size w)
  have H : (if (l0.length : Int) ≤ 64 then ((impl_within.f l0 (-999) 999).bind fun t155 => (some t155)) else (some false)) = some r := h
  clear h
  by_cases c2 : (l0.length : Int) ≤ 64
  · rw [if_pos c2] at H
    have c2b0 : decide ((l0.length : Int) ≤ 64) = true := decide_eq_true c2
    have c2b1 : decide (l0.length ≤ 64) = true := decide_eq_true (by omega)
    clear c2
    replace H := Option.bind_eq_some_iff.mp H
    obtain ⟨t155, A30, H⟩ := H
    replace H : (some t155) = some r := H
    have A3 := Aside0.mk A30
    clear A30
    obtain rfl := Option.some.inj H
    go_enter Try.func38, Try.ntmps38
    go_wp2_with (first | (go_at_call 91; (with_reducible refine (impl_within.calls _ _ l0 (-999) 999 t155 _ ?side1 ?side2 A3.out).mono ?_); (case side1 => repeat (first | exact HR0.out | (with_reducible refine Kd.C_alloc ?_ _) | (with_reducible refine Kd.C_drewN ?_ _) | (with_reducible refine Kd.C_drew ?_))); (case side2 => exact HC0.out); rintro e w4 ⟨rfl, hb⟩; have n0_ := Aside0.mk (below_step (by repeat (first | (with_reducible first | exact HB.out | apply below_alloc | apply pw_below_drewN | apply below_drew1) | exact HB.out)) hb); clear HB; have HB := n0_; clear n0_; (try clear hb); (try clear hb2); (try clear hk); (try clear hi)))
    go_ret
    exact ⟨by first | rfl | (simp [errW_none, errW_some] <;> rfl) | (simp [*, errW_none, errW_some] <;> rfl), by repeat (first | (with_reducible first | exact HB.out | apply below_alloc | apply pw_below_drewN | apply below_drew1) | exact HB.out)⟩
  · rw [if_neg c2] at H
    have c2b0 : decide ((l0.length : Int) ≤ 64) = false := decide_eq_false c2
    have c2b1 : decide (l0.length ≤ 64) = false := decide_eq_false (by omega)
    clear c2
    obtain rfl := Option.some.inj H
    go_enter Try.func38, Try.ntmps38
    go_wp2
    go_ret
    exact ⟨by first | rfl | (simp [errW_none, errW_some] <;> rfl) | (simp [*, errW_none, errW_some] <;> rfl), by repeat (first | (with_reducible first | exact HB.out | apply below_alloc | apply pw_below_drewN | apply below_drew1) | exact HB.out)⟩

-- NOT PRINTED: function 108 (impl_Column)

/-! ### impl_FindColumn: function 67 -/
set_option maxHeartbeats 2000000 in
set_option maxRecDepth 100000 in
/-- The predicate of FindColumn, as the machine's closure gives it. -/
theorem impl_FindColumn.pred (B : Nat) (nm s : ByteArray) (A1 : Option Addr) (n1 c1 : Nat) (W : World) (h1 : W.cell? ⟨B, 0, none⟩ = some (.string nm)) :
    Calls Try.prog 109 #[.agg #[.string s, .slice A1 n1 c1], .pointer (some ⟨B, 0, none⟩)] W fun e w' => e = .returned (.bool (s.toList == nm.toList)) ∧ Below W.heap.size W w' := by
  have hu := Try.underlying124
  have hlt : B < W.heap.size := World.block_lt_of_cell? W _ h1
  have h2 : ∀ o, (W.alloc o).cell? ⟨B, 0, none⟩ = some (.string nm) := fun o => (World.cell?_alloc_past o B 0 hlt).trans h1
  clear h1 hlt
  go_enter Try.func109, Try.ntmps109
  go_wp2
  go_ret
  exact ⟨rfl, (Below.refl _ _).alloc (Nat.le_refl _) _⟩
set_option maxHeartbeats 2000000 in
set_option maxRecDepth 100000 in
theorem impl_FindColumn.idx (A0 : Option Addr) (c0 : Nat) (l0 : List S124) (B : Nat) (nm : ByteArray) (w : World) (hr0 : Kd.C k124 w A0 l0.length l0) (h1 : w.cell? ⟨B, 0, none⟩ = some (.string nm)) :
    Calls Try.prog 108 #[.slice A0 l0.length c0, .func (.func 109) #[] #[.pointer (some ⟨B, 0, none⟩)]] w fun e w' => e = .returned (.int .i64 (Giv.fidx (fun x => x.f0.toList == nm.toList) l0)) ∧ Below w.heap.size w w' := by
  have eg := Go.Proofs.enters_of Try.func109 (by kernel_rfl) rfl
  have hu := Try.underlying124
  have hn : l0.length ≤ 9223372036854775807 := hr0.2.1
  have HR := Aside0.mk hr0
  clear hr0
  have C1 := Aside0.mk h1
  clear h1
  go_enter Try.func108, Try.ntmps108
  go_wp2
  go_loopg [5, 8] l0.length (fun gg _ s8 wr => ∃ kk : Nat, kk ≤ l0.length ∧ l0.length - kk ≤ gg ∧ s8 = .int .i64 kk ∧ Aside0 (Below w.heap.size w wr) ∧ Aside0 (∀ j x, j < kk → l0[j]? = some x → (x.f0.toList == nm.toList) = false))
  case atStart => exact ⟨0, Nat.zero_le _, by omega, rfl, ⟨Below.refl _ _⟩, ⟨fun j x hj => absurd hj (Nat.not_lt_zero _)⟩⟩
  case round =>
    obtain ⟨kk, hkk, hg, rfl, HB, AH⟩ := hrel
    by_cases hlt : kk < l0.length
    · have hltz : (kk : Int) < (l0.length : Int) := by omega
      obtain ⟨ad, A1, c1, e, hx0, hx1, hl1, hi1⟩ := at_T124 HR.out (kk : Int) (by omega) (by omega)
      subst e
      obtain ⟨y, hy⟩ : ∃ y, l0[kk]? = some y := ⟨_, List.getElem?_eq_getElem hlt⟩
      have hy2 : rd_T124 l0 (kk : Int) = y := by unfold rd_T124; rw [List.getD_eq_getElem?_getD, Int.toNat_natCast, hy]; rfl
      replace hx0 := (HB.out.cell (World.block_lt_of_cell? w _ hx0)).trans hx0
      replace hx1 := (HB.out.cell (World.block_lt_of_cell? w _ hx1)).trans hx1
      rw [hy2, Int.toNat_natCast] at hx0 hx1
      have HY := Aside0.mk hy
      clear hy hy2 hl1 hi1
      have hcell := (HB.out.cell (World.block_lt_of_cell? w _ C1.out)).trans C1.out
      have hcall := impl_FindColumn.pred B nm y.f0 A1 y.f1.length c1 wr hcell
      clear hcell
      cases hq : (y.f0.toList == nm.toList) with
      | true =>
        rw [hq] at hcall
        have HQ := Aside0.mk hq
        clear hq
        go_wp2_with fail
        refine hcall.mono ?_
        rintro e w' ⟨rfl, hb'⟩
        go_wp2_with fail
        go_ret
        refine ⟨?_, below_then HB.out HB.out.size hb'⟩
        rw [Giv.fidx_hit HY.out HQ.out AH.out]
        rfl
      | false =>
        rw [hq] at hcall
        have HQ := Aside0.mk hq
        clear hq
        go_wp2_with fail
        refine hcall.mono ?_
        rintro e w' ⟨rfl, hb'⟩
        go_wp2_with fail
        go_roundg (l0.length - (kk + 1))
        case measure => omega
        case rel =>
          refine ⟨kk + 1, by omega, by omega, by go_num, ⟨below_then HB.out HB.out.size hb'⟩, ⟨fun j x hj hx => ?_⟩⟩
          by_cases e : j = kk
          · subst e
            rw [HY.out] at hx
            obtain rfl := Option.some.inj hx
            exact HQ.out
          · exact AH.out j x (by omega) hx
    · have hltz : ¬ (kk : Int) < (l0.length : Int) := by omega
      have hkn := Aside0.mk (show kk = l0.length by omega)
      go_wp2
      go_ret
      refine ⟨?_, HB.out⟩
      have hm := AH.out
      rw [hkn.out] at hm
      rw [Giv.fidx_miss hm]
      rfl
def impl_FindColumn.f (l0_0 : List (S124)) (a1 : ByteArray) : Option (Int) := some (Giv.fidx (fun x => x.f0.toList == a1.toList) l0_0)
set_option maxHeartbeats 8000000 in
set_option maxRecDepth 100000 in
theorem impl_FindColumn.calls (A0_0 : Option Addr) (c0_0 : Nat) (l0_0 : List (S124)) (a1 : ByteArray) (r : Int) (w : World) (hr0_0 : Kd.C k124 w A0_0 l0_0.length l0_0) (hc0_0 : l0_0.length ≤ c0_0) (h : impl_FindColumn.f l0_0 a1 = some r) :
    Calls Try.prog 67 #[.agg #[.slice A0_0 l0_0.length c0_0], .string a1] w fun e w' => e = .returned (.int .i64 r) ∧ Below w.heap.size w w' := by
  unfold impl_FindColumn.f at h
  obtain rfl := Option.some.inj h
  clear h
  have hcall := fun (W : World) hr a => impl_FindColumn.idx A0_0 c0_0 l0_0 (w.heap.size + 1) a1 W hr a
  have HR := Aside0.mk hr0_0
  clear hr0_0
  have hu81 := Try.underlying81
  go_enter Try.func67, Try.ntmps67
  go_wp2_with (go_at_call 108; refine (hcall _ (by repeat (first | exact HR.out | (refine Kd.C_alloc ?_ _) | (refine Kd.C_drew ?_))) (by simp)).mono ?_; rintro e w' ⟨rfl, hd⟩)
  go_ret
  exact ⟨rfl, below_then (((Below.refl _ _).alloc (Nat.le_refl _) _).alloc (by simp) _) (by simp; omega) hd⟩


end Go.Proofs.Ytmekpkajpjnkgaa.PFnExactIsTable
