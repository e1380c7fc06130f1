-- printed by a program of this session, a turned copy of the print of the kit
import Derived.Test.YtmliclopdbkbeaaSq
import Derived.Test.YtmliclopdbkbeaaPFnExactAddPivotx0
import Derived.Test.YtmliclopdbkbeaaPFnExactAddPivotx3
import Derived.Test.YtmliclopdbkbeaaPFnExactAddPivotx4
namespace Go.Proofs.Ytmliclopdbkbeaa.PFnExactAddPivot
open Go.RowKit Go.Proofs.YtmliclopdbkbeaaW.PrintWords Go.Proofs.YtmliclopdbkbeaaW.PrintLast Go.Proofs.YtmliclopdbkbeaaW.PrintMore Go.Proofs.Ytmliclopdbkbeaa.Sq
attribute [local go_sem] max2_int min2_int max_two min_two max_three min_three max_four min_four Giv.cell_twice   -- for this text's walks alone
set_option linter.unusedVariables false
set_option linter.unusedSimpArgs false

/-! ### spec_IsCracker: function 15 -/
mutual
def spec_IsCracker.j0 : Nat → Bool → List Int → List Int → List (S35) → Option (Bool)
  | 0, _, _, _, _ => none
  | k + 1, x16, x136000, x136001, x136002 => if x16 = true then (some false) else (spec_IsCracker.l0 k 0 x136000 x136001 x136002)
def spec_IsCracker.l0 : Nat → Int → List Int → List Int → List (S35) → Option (Bool)
  | 0, _, _, _, _ => none
  | k + 1, x3, x136000, x136001, x136002 => if x3 < (x136001.length : Int) then (if 0 ≤ x3 then ((spec_l1In.f (rd x136001 x3) 0 999).bind fun t139 => (if t139 = true then (if x3 ≤ (x136001.length : Int) then ((spec_l4Has.f k (x136001.take (x3 : Int).toNat) (rd x136001 x3)).bind fun t142 => (if t142 = true then (some false) else (spec_IsCracker.l0 k (wrap64 (x3 + 1)) x136000 x136001 x136002))) else (none)) else (some false))) else (none)) else ((spec_l4Pivots.f k x136000 x136002).bind fun t137 => (some t137))
end
def spec_IsCracker.f (k : Nat) (l0_0 : List Int) (l0_1 : List Int) (l0_2 : List (S35)) : Option (Bool) := (spec_AreValues.f k l0_0).bind fun t136 => (if t136 = true then (spec_IsCracker.j0 k ((l0_1.length : Int) != (l0_0.length : Int)) l0_0 l0_1 l0_2) else (spec_IsCracker.j0 k true l0_0 l0_1 l0_2))
theorem spec_IsCracker.mono_l : ∀ k, (∀ y0 y1 y2 y3, LeO (spec_IsCracker.j0 k y0 y1 y2 y3) (spec_IsCracker.j0 (k + 1) y0 y1 y2 y3)) ∧ (∀ y0 y1 y2 y3, LeO (spec_IsCracker.l0 k y0 y1 y2 y3) (spec_IsCracker.l0 (k + 1) y0 y1 y2 y3))
  | 0 => ⟨fun _ _ _ _ r h => by simp [spec_IsCracker.j0] at h, fun _ _ _ _ r h => by simp [spec_IsCracker.l0] at h⟩
  | k + 1 => by
    obtain ⟨ih0, ih1⟩ := spec_IsCracker.mono_l k
    refine ⟨?_, ?_⟩
    · intro y0 y1 y2 y3
      unfold spec_IsCracker.j0
      exact mo
    · intro y0 y1 y2 y3
      unfold spec_IsCracker.l0
      exact mo
theorem spec_IsCracker.mono : ∀ a0 a1 a2 k, LeO (spec_IsCracker.f k a0 a1 a2) (spec_IsCracker.f (k + 1) a0 a1 a2) := by
  intro a0 a1 a2 k
  obtain ⟨ih0, ih1⟩ := spec_IsCracker.mono_l k
  unfold spec_IsCracker.f
  exact mo
instance spec_IsCracker.mi (a0 a1 a2 k) : LeC (spec_IsCracker.f k a0 a1 a2) (spec_IsCracker.f (k + 1) a0 a1 a2) := ⟨spec_IsCracker.mono a0 a1 a2 k⟩
set_option maxHeartbeats 8000000 in
set_option maxRecDepth 100000 in
theorem spec_IsCracker.calls (k : Nat) (A0_0 : Option Addr) (c0_0 : Nat) (l0_0 : List Int) (A0_1 : Option Addr) (c0_1 : Nat) (l0_1 : List Int) (A0_2 : Option Addr) (c0_2 : Nat) (l0_2 : List (S35)) (r : Bool) (w : World) (hr0_0 : Kd.C (Kd.int .i64) w A0_0 l0_0.length l0_0) (hc0_0 : l0_0.length ≤ c0_0) (hr0_1 : Kd.C (Kd.int .i64) w A0_1 l0_1.length l0_1) (hc0_1 : l0_1.length ≤ c0_1) (hr0_2 : Kd.C k35 w A0_2 l0_2.length l0_2) (hc0_2 : l0_2.length ≤ c0_2) (h : spec_IsCracker.f k l0_0 l0_1 l0_2 = some r) :
    Calls Try.prog 15 #[.agg #[.slice A0_0 l0_0.length c0_0, .slice A0_1 l0_1.length c0_1, .slice A0_2 l0_2.length c0_2]] w fun e w' => e = .returned (.bool r) ∧ Below w.heap.size w w' := by
  have hu31 := Try.underlying31
  have HR0_0 := Aside0.mk hr0_0
  have HC0_0 := Aside0.mk hc0_0
  clear hr0_0 hc0_0
  have HR0_1 := Aside0.mk hr0_1
  have HC0_1 := Aside0.mk hc0_1
  clear hr0_1 hc0_1
  have HR0_2 := Aside0.mk hr0_2
  have HC0_2 := Aside0.mk hc0_2
  clear hr0_2 hc0_2
  have HB := Aside0.mk (Below.refl w.heap.size w)
  have H : ((spec_AreValues.f k l0_0).bind fun t136 => (if t136 = true then (spec_IsCracker.j0 k ((l0_1.length : Int) != (l0_0.length : Int)) l0_0 l0_1 l0_2) else (spec_IsCracker.j0 k true l0_0 l0_1 l0_2))) = some r := h
  clear h
  have HC2 := Aside0.mk H
  clear H
  go_enter Try.func15, Try.ntmps15
  iterate 3 ((try go_quiet (fail)); (try go_upto_region 1 with (first | ((with_reducible refine gate_dst (N := 1) rfl ?_); (try (refine gate_guard (by rfl) ?_; dsimp only)); refine bx 1 #[.slice A0_0 l0_0.length c0_0, .slice A0_1 l0_1.length c0_1, .slice A0_2 l0_2.length c0_2] 31 ?_; intro gb135 hg w3 hbox hb; have BK135 := mk hbox; have GW135 := wg hg; have GE135 := wg hg; replace HB := wh hb; clear hb hbox hg))))
  (try simp only [Act.put, List.setIfInBounds_toArray, List.set_cons_zero, List.set_cons_succ])
  go_cut [16] (fun v16 wc => ∃ (kq : Nat) (x16_1 : Bool), v16 = .bool x16_1 ∧ Aside0 (spec_IsCracker.j0 kq x16_1 l0_0 l0_1 l0_2 = some r) ∧ Aside0 (kq ≤ k) ∧ Aside0 (wc.heap[gb135]? = some (.cells #[(.slice A0_0 l0_0.length c0_0), (.slice A0_1 l0_1.length c0_1), (.slice A0_2 l0_2.length c0_2)] 31 (0, 0))) ∧ Aside0 (Below w.heap.size w wc))
  case first =>
    have H := HC2.out
    clear HC2
    revert H; refine bo ?_; rintro t136 A4 H
    by_cases c5 : t136 = true
    · subst c5
      rw [if_pos rfl] at H
      have H' := Aside0.mk H
      clear H
      obtain ⟨hcz6_0, hcz6_1, hcz6_2, hfz6_0, hfz6_1, hfz6_2⟩ := bz3 BK135
      iterate 3 ((try go_quiet (first | (go_at_call 27; (with_reducible refine (spec_AreValues.calls k _ _ l0_0 true _ ?side1 ?side2 A4.out).mono ?_); (case side1 => exact uc (Kd.C_below HR0_0.out HB.out)); (case side2 => exact HC0_0.out); rintro e w' ⟨rfl, ⟨nd, rfl⟩⟩; (try first | exact ⟨rfl, _, World.drewN_drewN _ _ _⟩ | exact ⟨rfl, _, Eq.trans (World.drewN_drewN _ _ _) (congrArg (World.drewN _) (Nat.add_assoc _ _ _))⟩)))); (try go_wp2_with (first | (go_at_call 27; (with_reducible refine (spec_AreValues.calls k _ _ l0_0 true _ ?side1 ?side2 A4.out).mono ?_); (case side1 => exact uc (Kd.C_below HR0_0.out HB.out)); (case side2 => exact HC0_0.out); rintro e w' ⟨rfl, ⟨nd, rfl⟩⟩; (try first | exact ⟨rfl, _, World.drewN_drewN _ _ _⟩ | exact ⟨rfl, _, Eq.trans (World.drewN_drewN _ _ _) (congrArg (World.drewN _) (Nat.add_assoc _ _ _))⟩)))))
      go_meet
      case rel => exact ⟨_, (((l0_1.length : Int) != (l0_0.length : Int))), (by first | rfl | (simp; done) | (simp [*]; done)), H', ⟨by first | omega | exact Nat.le_refl _⟩, ⟨ub BK135.out⟩, ⟨bl⟩⟩
    · replace c5 := Bool.eq_false_iff.mpr c5
      subst c5
      rw [if_neg nf] at H
      have H' := Aside0.mk H
      clear H
      obtain ⟨hcz7_0, hcz7_1, hcz7_2, hfz7_0, hfz7_1, hfz7_2⟩ := bz3 BK135
      iterate 3 ((try go_quiet (first | (go_at_call 27; (with_reducible refine (spec_AreValues.calls k _ _ l0_0 false _ ?side1 ?side2 A4.out).mono ?_); (case side1 => exact uc (Kd.C_below HR0_0.out HB.out)); (case side2 => exact HC0_0.out); rintro e w' ⟨rfl, ⟨nd, rfl⟩⟩; (try first | exact ⟨rfl, _, World.drewN_drewN _ _ _⟩ | exact ⟨rfl, _, Eq.trans (World.drewN_drewN _ _ _) (congrArg (World.drewN _) (Nat.add_assoc _ _ _))⟩)))); (try go_wp2_with (first | (go_at_call 27; (with_reducible refine (spec_AreValues.calls k _ _ l0_0 false _ ?side1 ?side2 A4.out).mono ?_); (case side1 => exact uc (Kd.C_below HR0_0.out HB.out)); (case side2 => exact HC0_0.out); rintro e w' ⟨rfl, ⟨nd, rfl⟩⟩; (try first | exact ⟨rfl, _, World.drewN_drewN _ _ _⟩ | exact ⟨rfl, _, Eq.trans (World.drewN_drewN _ _ _) (congrArg (World.drewN _) (Nat.add_assoc _ _ _))⟩)))))
      go_meet
      case rel => exact ⟨_, (true), (by first | rfl | (simp; done) | (simp [*]; done)), H', ⟨by first | omega | exact Nat.le_refl _⟩, ⟨ub BK135.out⟩, ⟨bl⟩⟩
  case rest =>
    clear HC2
    try clear c1
    try clear p2
    try clear c5
    try clear hcz6_0
    try clear hcz6_1
    try clear hcz6_2
    try clear hcz7_0
    try clear hcz7_1
    try clear hcz7_2
    try clear hfz6_0
    try clear hfz6_1
    try clear hfz6_2
    try clear hfz7_0
    try clear hfz7_1
    try clear hfz7_2
    obtain ⟨kq, x16_1, rfl, HA, HJ1, BK135, HB⟩ := hcut
    cases kq with
    | zero => exact absurd HA.out (by simp [spec_IsCracker.j0])
    | succ kj1 =>
      have H := HA.out
      clear HA
      simp only [spec_IsCracker.j0] at H
      by_cases c8 : x16_1 = true
      · subst c8
        rw [if_pos rfl] at H
        obtain rfl := Option.some.inj H
        go_wp2
        repeat (go_quiet (fail); try go_wp2)
        go_ret
        exact ⟨by first | rfl | (simp [errW_none, errW_some] <;> rfl) | (simp [*, errW_none, errW_some] <;> rfl), bl⟩
      · replace c8 := Bool.eq_false_iff.mpr c8
        subst c8
        rw [if_neg nf] at H
        have H' := Aside0.mk H
        clear H
        go_wp2
        repeat (go_quiet (fail); try go_wp2)
        go_loopg [3] kj1 (fun kq v3 w' => ∃ (x3_2 : Int), v3 = .int .i64 x3_2 ∧ Aside0 (spec_IsCracker.l0 kq x3_2 l0_0 l0_1 l0_2 = some r) ∧ Aside0 (kq ≤ kj1) ∧ Aside0 (w'.heap[gb135]? = some (.cells #[(.slice A0_0 l0_0.length c0_0), (.slice A0_1 l0_1.length c0_1), (.slice A0_2 l0_2.length c0_2)] 31 (0, 0))) ∧ Aside0 (Below w.heap.size w w'))
        case atStart => exact ⟨(0), (by first | rfl | (simp; done) | (simp [*]; done)), H', ⟨Nat.le_refl _⟩, ⟨ub BK135.out⟩, ⟨bl⟩⟩
        case round =>
          clear H'
          try clear c1
          try clear p2
          try clear c5
          try clear c8
          try clear hcz6_0
          try clear hcz6_1
          try clear hcz6_2
          try clear hcz7_0
          try clear hcz7_1
          try clear hcz7_2
          try clear hfz6_0
          try clear hfz6_1
          try clear hfz6_2
          try clear hfz7_0
          try clear hfz7_1
          try clear hfz7_2
          try clear p2
          obtain ⟨x3_2, rfl, HA, HK2, BK135, HB⟩ := hrel
          cases gk with
          | zero => exact absurd HA.out (by simp [spec_IsCracker.l0])
          | succ k2 =>
            have H := HA.out
            clear HA
            simp only [spec_IsCracker.l0] at H
            by_cases c9 : x3_2 < (l0_1.length : Int)
            · rw [if_pos c9] at H
              have c9b0 : decide (x3_2 < (l0_1.length : Int)) = true := decide_eq_true c9
              clear c9
              by_cases c10 : 0 ≤ x3_2
              · rw [if_pos c10] at H
                have c10b0 : decide (0 ≤ x3_2) = true := decide_eq_true c10
                clear c10
                revert H; refine bo ?_; rintro t139 A11 H
                by_cases c12 : t139 = true
                · subst c12
                  rw [if_pos rfl] at H
                  have c13b0 := eq_true (dt : 0 ≤ x3_2)
                  by_cases c14 : x3_2 ≤ (l0_1.length : Int)
                  · rw [if_pos c14] at H
                    have c14b0 := eq_true c14
                    have c14b1 : decide (x3_2 ≤ (l0_1.length : Int)) = true := decide_eq_true c14
                    clear c14
                    revert H; refine bo ?_; rintro t142 A15 H
                    by_cases c16 : t142 = true
                    · subst c16
                      rw [if_pos rfl] at H
                      obtain rfl := Option.some.inj H
                      obtain ⟨hcz17_0, hcz17_1, hcz17_2, hfz17_0, hfz17_1, hfz17_2⟩ := bz3 BK135
                      have p138 : 0 ≤ (x3_2 : Int) := dt
                      have q138 : x3_2 < (l0_1.length : Int) := dt
                      obtain ⟨ad138, e138, hx138_0⟩ := Kd.at_int HR0_1.out x3_2 p138 q138
                      cases e138
                      replace hx138_0 := (HB.out.cell (World.block_lt_of_cell? w _ hx138_0)).trans hx138_0
                      replace p138 := eq_true p138
                      replace q138 := eq_true q138
                      iterate 3 ((try go_quiet (first | (go_at_call 28; (with_reducible refine (spec_l1In.calls (rd l0_1 x3_2) 0 999 true _ A11.out).mono ?_); rintro e w' ⟨rfl, ⟨nd, rfl⟩⟩; (try first | exact ⟨rfl, _, World.drewN_drewN _ _ _⟩ | exact ⟨rfl, _, Eq.trans (World.drewN_drewN _ _ _) (congrArg (World.drewN _) (Nat.add_assoc _ _ _))⟩); obtain ⟨i018, hi018, _, hsz18, _⟩ := info_parts info3; obtain ⟨hcut18, hA18, hC18⟩ := print_take_of (P := Try.prog) (Value.int .i64) 0 22 3 .i64 Try.underlying22 hi018 hsz18 (some ad138) c0_1 l0_1 x3_2 dt dt HC0_1.out; have HR140 := Aside0.mk (Kd.C_of_reads (h1 := fun _ => rfl) (hA18 _ (Kd.reads_of_C HR0_1.out))); have HC140 := Aside0.mk hC18; clear hA18 hC18 hi018 hsz18; have p141 : 0 ≤ (x3_2 : Int) := dt; have q141 : x3_2 < (l0_1.length : Int) := dt; obtain ⟨ad141, e141, hx141_0⟩ := Kd.at_int HR0_1.out x3_2 p141 q141; obtain rfl : ad138 = ad141 := (by injection e141); replace hx141_0 := (HB.out.cell (World.block_lt_of_cell? w _ hx141_0)).trans hx141_0; replace p141 := eq_true p141; replace q141 := eq_true q141) | (go_at_call 29; (try rw [show (x3_2 : Int).toNat = (l0_1.take (x3_2 : Int).toNat).length by rw [List.length_take]; exact (Nat.min_eq_left (by first | omega | (simp at *; omega))).symm]); (with_reducible refine (spec_l4Has.calls k2 _ _ (l0_1.take (x3_2 : Int).toNat) (rd l0_1 x3_2) true _ ?side1 ?side2 A15.out).mono ?_); (case side1 => exact uc (Kd.C_below HR140.out bl)); (case side2 => exact HC140.out); rintro e w' ⟨rfl, ⟨nd, rfl⟩⟩; (try first | exact ⟨rfl, _, World.drewN_drewN _ _ _⟩ | exact ⟨rfl, _, Eq.trans (World.drewN_drewN _ _ _) (congrArg (World.drewN _) (Nat.add_assoc _ _ _))⟩)))); (try go_wp2_with (first | (go_at_call 28; (with_reducible refine (spec_l1In.calls (rd l0_1 x3_2) 0 999 true _ A11.out).mono ?_); rintro e w' ⟨rfl, ⟨nd, rfl⟩⟩; (try first | exact ⟨rfl, _, World.drewN_drewN _ _ _⟩ | exact ⟨rfl, _, Eq.trans (World.drewN_drewN _ _ _) (congrArg (World.drewN _) (Nat.add_assoc _ _ _))⟩); obtain ⟨i018, hi018, _, hsz18, _⟩ := info_parts info3; obtain ⟨hcut18, hA18, hC18⟩ := print_take_of (P := Try.prog) (Value.int .i64) 0 22 3 .i64 Try.underlying22 hi018 hsz18 (some ad138) c0_1 l0_1 x3_2 dt dt HC0_1.out; have HR140 := Aside0.mk (Kd.C_of_reads (h1 := fun _ => rfl) (hA18 _ (Kd.reads_of_C HR0_1.out))); have HC140 := Aside0.mk hC18; clear hA18 hC18 hi018 hsz18; have p141 : 0 ≤ (x3_2 : Int) := dt; have q141 : x3_2 < (l0_1.length : Int) := dt; obtain ⟨ad141, e141, hx141_0⟩ := Kd.at_int HR0_1.out x3_2 p141 q141; obtain rfl : ad138 = ad141 := (by injection e141); replace hx141_0 := (HB.out.cell (World.block_lt_of_cell? w _ hx141_0)).trans hx141_0; replace p141 := eq_true p141; replace q141 := eq_true q141) | (go_at_call 29; (try rw [show (x3_2 : Int).toNat = (l0_1.take (x3_2 : Int).toNat).length by rw [List.length_take]; exact (Nat.min_eq_left (by first | omega | (simp at *; omega))).symm]); (with_reducible refine (spec_l4Has.calls k2 _ _ (l0_1.take (x3_2 : Int).toNat) (rd l0_1 x3_2) true _ ?side1 ?side2 A15.out).mono ?_); (case side1 => exact uc (Kd.C_below HR140.out bl)); (case side2 => exact HC140.out); rintro e w' ⟨rfl, ⟨nd, rfl⟩⟩; (try first | exact ⟨rfl, _, World.drewN_drewN _ _ _⟩ | exact ⟨rfl, _, Eq.trans (World.drewN_drewN _ _ _) (congrArg (World.drewN _) (Nat.add_assoc _ _ _))⟩)))))
                      go_ret
                      exact ⟨by first | rfl | (simp [errW_none, errW_some] <;> rfl) | (simp [*, errW_none, errW_some] <;> rfl), bl⟩
                    · replace c16 := Bool.eq_false_iff.mpr c16
                      subst c16
                      rw [if_neg nf] at H
                      have H' := Aside0.mk H
                      clear H
                      obtain ⟨hcz19_0, hcz19_1, hcz19_2, hfz19_0, hfz19_1, hfz19_2⟩ := bz3 BK135
                      have p138 : 0 ≤ (x3_2 : Int) := dt
                      have q138 : x3_2 < (l0_1.length : Int) := dt
                      obtain ⟨ad138, e138, hx138_0⟩ := Kd.at_int HR0_1.out x3_2 p138 q138
                      cases e138
                      replace hx138_0 := (HB.out.cell (World.block_lt_of_cell? w _ hx138_0)).trans hx138_0
                      replace p138 := eq_true p138
                      replace q138 := eq_true q138
                      iterate 3 ((try go_quiet (first | (go_at_call 28; (with_reducible refine (spec_l1In.calls (rd l0_1 x3_2) 0 999 true _ A11.out).mono ?_); rintro e w' ⟨rfl, ⟨nd, rfl⟩⟩; (try first | exact ⟨rfl, _, World.drewN_drewN _ _ _⟩ | exact ⟨rfl, _, Eq.trans (World.drewN_drewN _ _ _) (congrArg (World.drewN _) (Nat.add_assoc _ _ _))⟩); obtain ⟨i020, hi020, _, hsz20, _⟩ := info_parts info3; obtain ⟨hcut20, hA20, hC20⟩ := print_take_of (P := Try.prog) (Value.int .i64) 0 22 3 .i64 Try.underlying22 hi020 hsz20 (some ad138) c0_1 l0_1 x3_2 dt dt HC0_1.out; have HR140 := Aside0.mk (Kd.C_of_reads (h1 := fun _ => rfl) (hA20 _ (Kd.reads_of_C HR0_1.out))); have HC140 := Aside0.mk hC20; clear hA20 hC20 hi020 hsz20; have p141 : 0 ≤ (x3_2 : Int) := dt; have q141 : x3_2 < (l0_1.length : Int) := dt; obtain ⟨ad141, e141, hx141_0⟩ := Kd.at_int HR0_1.out x3_2 p141 q141; obtain rfl : ad138 = ad141 := (by injection e141); replace hx141_0 := (HB.out.cell (World.block_lt_of_cell? w _ hx141_0)).trans hx141_0; replace p141 := eq_true p141; replace q141 := eq_true q141) | (go_at_call 29; (try rw [show (x3_2 : Int).toNat = (l0_1.take (x3_2 : Int).toNat).length by rw [List.length_take]; exact (Nat.min_eq_left (by first | omega | (simp at *; omega))).symm]); (with_reducible refine (spec_l4Has.calls k2 _ _ (l0_1.take (x3_2 : Int).toNat) (rd l0_1 x3_2) false _ ?side1 ?side2 A15.out).mono ?_); (case side1 => exact uc (Kd.C_below HR140.out bl)); (case side2 => exact HC140.out); rintro e w' ⟨rfl, ⟨nd, rfl⟩⟩; (try first | exact ⟨rfl, _, World.drewN_drewN _ _ _⟩ | exact ⟨rfl, _, Eq.trans (World.drewN_drewN _ _ _) (congrArg (World.drewN _) (Nat.add_assoc _ _ _))⟩)))); (try go_wp2_with (first | (go_at_call 28; (with_reducible refine (spec_l1In.calls (rd l0_1 x3_2) 0 999 true _ A11.out).mono ?_); rintro e w' ⟨rfl, ⟨nd, rfl⟩⟩; (try first | exact ⟨rfl, _, World.drewN_drewN _ _ _⟩ | exact ⟨rfl, _, Eq.trans (World.drewN_drewN _ _ _) (congrArg (World.drewN _) (Nat.add_assoc _ _ _))⟩); obtain ⟨i020, hi020, _, hsz20, _⟩ := info_parts info3; obtain ⟨hcut20, hA20, hC20⟩ := print_take_of (P := Try.prog) (Value.int .i64) 0 22 3 .i64 Try.underlying22 hi020 hsz20 (some ad138) c0_1 l0_1 x3_2 dt dt HC0_1.out; have HR140 := Aside0.mk (Kd.C_of_reads (h1 := fun _ => rfl) (hA20 _ (Kd.reads_of_C HR0_1.out))); have HC140 := Aside0.mk hC20; clear hA20 hC20 hi020 hsz20; have p141 : 0 ≤ (x3_2 : Int) := dt; have q141 : x3_2 < (l0_1.length : Int) := dt; obtain ⟨ad141, e141, hx141_0⟩ := Kd.at_int HR0_1.out x3_2 p141 q141; obtain rfl : ad138 = ad141 := (by injection e141); replace hx141_0 := (HB.out.cell (World.block_lt_of_cell? w _ hx141_0)).trans hx141_0; replace p141 := eq_true p141; replace q141 := eq_true q141) | (go_at_call 29; (try rw [show (x3_2 : Int).toNat = (l0_1.take (x3_2 : Int).toNat).length by rw [List.length_take]; exact (Nat.min_eq_left (by first | omega | (simp at *; omega))).symm]); (with_reducible refine (spec_l4Has.calls k2 _ _ (l0_1.take (x3_2 : Int).toNat) (rd l0_1 x3_2) false _ ?side1 ?side2 A15.out).mono ?_); (case side1 => exact uc (Kd.C_below HR140.out bl)); (case side2 => exact HC140.out); rintro e w' ⟨rfl, ⟨nd, rfl⟩⟩; (try first | exact ⟨rfl, _, World.drewN_drewN _ _ _⟩ | exact ⟨rfl, _, Eq.trans (World.drewN_drewN _ _ _) (congrArg (World.drewN _) (Nat.add_assoc _ _ _))⟩)))))
                      go_roundg k2
                      case measure => have := HJ1.out; have := HK2.out; omega
                      case rel => exact ⟨(wrap64 (x3_2 + 1)), (by first | rfl | (simp; done) | (simp [*]; done)), H', ⟨by have := HJ1.out; have := HK2.out; omega⟩, ⟨ub BK135.out⟩, ⟨bl⟩⟩
                  · rw [if_neg c14] at H
                    exact absurd H (by simp)
                · replace c12 := Bool.eq_false_iff.mpr c12
                  subst c12
                  rw [if_neg nf] at H
                  obtain rfl := Option.some.inj H
                  obtain ⟨hcz21_0, hcz21_1, hcz21_2, hfz21_0, hfz21_1, hfz21_2⟩ := bz3 BK135
                  have p138 : 0 ≤ (x3_2 : Int) := dt
                  have q138 : x3_2 < (l0_1.length : Int) := dt
                  obtain ⟨ad138, e138, hx138_0⟩ := Kd.at_int HR0_1.out x3_2 p138 q138
                  cases e138
                  replace hx138_0 := (HB.out.cell (World.block_lt_of_cell? w _ hx138_0)).trans hx138_0
                  replace p138 := eq_true p138
                  replace q138 := eq_true q138
                  iterate 3 ((try go_quiet (first | (go_at_call 28; (with_reducible refine (spec_l1In.calls (rd l0_1 x3_2) 0 999 false _ A11.out).mono ?_); rintro e w' ⟨rfl, ⟨nd, rfl⟩⟩; (try first | exact ⟨rfl, _, World.drewN_drewN _ _ _⟩ | exact ⟨rfl, _, Eq.trans (World.drewN_drewN _ _ _) (congrArg (World.drewN _) (Nat.add_assoc _ _ _))⟩)))); (try go_wp2_with (first | (go_at_call 28; (with_reducible refine (spec_l1In.calls (rd l0_1 x3_2) 0 999 false _ A11.out).mono ?_); rintro e w' ⟨rfl, ⟨nd, rfl⟩⟩; (try first | exact ⟨rfl, _, World.drewN_drewN _ _ _⟩ | exact ⟨rfl, _, Eq.trans (World.drewN_drewN _ _ _) (congrArg (World.drewN _) (Nat.add_assoc _ _ _))⟩)))))
                  go_ret
                  exact ⟨by first | rfl | (simp [errW_none, errW_some] <;> rfl) | (simp [*, errW_none, errW_some] <;> rfl), bl⟩
              · rw [if_neg c10] at H
                exact absurd H (by simp)
            · rw [if_neg c9] at H
              have c9b0 : decide (x3_2 < (l0_1.length : Int)) = false := decide_eq_false c9
              clear c9
              revert H; refine bo ?_; rintro t137 A22 H
              obtain rfl := Option.some.inj H
              obtain ⟨hcz23_0, hcz23_1, hcz23_2, hfz23_0, hfz23_1, hfz23_2⟩ := bz3 BK135
              iterate 3 ((try go_quiet (first | (go_at_call 30; (with_reducible refine (spec_l4Pivots.calls k2 _ _ l0_0 _ _ l0_2 t137 _ ?side1 ?side2 ?side3 ?side4 A22.out).mono ?_); (case side1 => exact uc (Kd.C_below HR0_0.out HB.out)); (case side2 => exact HC0_0.out); (case side3 => exact uc (Kd.C_below HR0_2.out HB.out)); (case side4 => exact HC0_2.out); rintro e w24 ⟨rfl, hb⟩; replace BK135 := wb BK135 hb; replace HB := wh hb; (try clear hb); (try clear hb2); (try clear hk); (try clear hi)))); (try go_wp2_with (first | (go_at_call 30; (with_reducible refine (spec_l4Pivots.calls k2 _ _ l0_0 _ _ l0_2 t137 _ ?side1 ?side2 ?side3 ?side4 A22.out).mono ?_); (case side1 => exact uc (Kd.C_below HR0_0.out HB.out)); (case side2 => exact HC0_0.out); (case side3 => exact uc (Kd.C_below HR0_2.out HB.out)); (case side4 => exact HC0_2.out); rintro e w24 ⟨rfl, hb⟩; replace BK135 := wb BK135 hb; replace HB := wh hb; (try clear hb); (try clear hb2); (try clear hk); (try clear hi)))))
              go_ret
              exact ⟨by first | rfl | (simp [errW_none, errW_some] <;> rfl) | (simp [*, errW_none, errW_some] <;> rfl), bl⟩

end Go.Proofs.Ytmliclopdbkbeaa.PFnExactAddPivot
