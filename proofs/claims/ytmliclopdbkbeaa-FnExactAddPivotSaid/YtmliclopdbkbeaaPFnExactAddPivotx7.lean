-- printed by a program of this session, a turned copy of the print of the kit
import Derived.Test.YtmliclopdbkbeaaSq
import Derived.Test.YtmliclopdbkbeaaPFnExactAddPivotx0
namespace Go.Proofs.Ytmliclopdbkbeaa.PFnExactAddPivot
open Go.RowKit Go.Proofs.YtmliclopdbkbeaaW.PrintWords Go.Proofs.YtmliclopdbkbeaaW.PrintLast Go.Proofs.YtmliclopdbkbeaaW.PrintMore Go.Proofs.Ytmliclopdbkbeaa.Sq
attribute [local go_sem] max2_int min2_int max_two min_two max_three min_three max_four min_four Giv.cell_twice   -- for this text's walks alone
set_option linter.unusedVariables false
set_option linter.unusedSimpArgs false

/-! ### laws_toIntS: function 16 -/
def laws_toIntS.l0 : Nat → List Int → List Int → Int → Option (List Int)
  | 0, _, _, _ => none
  | k + 1, x0, x3, x4 => if x4 < (x0.length : Int) then (if 0 ≤ x4 then (if x4 < (x3.length : Int) then (laws_toIntS.l0 k x0 (x3.set (x4 : Int).toNat (rd x0 x4)) (wrap64 (x4 + 1))) else (none)) else (none)) else (some x3)
def laws_toIntS.f (k : Nat) (l0 : List Int) : Option (List Int) := if 0 ≤ (l0.length : Int) then (if ((l0.length : Int) : Int).toNat ≤ 35184372088832 then (laws_toIntS.l0 k l0 (List.replicate ((l0.length : Int) : Int).toNat 0) 0) else (none)) else (none)
theorem laws_toIntS.mono_l : ∀ k, (∀ y0 y1 y2, LeO (laws_toIntS.l0 k y0 y1 y2) (laws_toIntS.l0 (k + 1) y0 y1 y2))
  | 0 => fun _ _ _ r h => by simp [laws_toIntS.l0] at h
  | k + 1 => by
    have ih0 := laws_toIntS.mono_l k
    · intro y0 y1 y2
      unfold laws_toIntS.l0
      exact mo
theorem laws_toIntS.mono : ∀ a0 k, LeO (laws_toIntS.f k a0) (laws_toIntS.f (k + 1) a0) := by
  intro a0 k
  have ih0 := laws_toIntS.mono_l k
  unfold laws_toIntS.f
  exact mo
instance laws_toIntS.mi (a0 k) : LeC (laws_toIntS.f k a0) (laws_toIntS.f (k + 1) a0) := ⟨laws_toIntS.mono a0 k⟩
set_option maxHeartbeats 8000000 in
set_option maxRecDepth 100000 in
theorem laws_toIntS.calls (k : Nat) (A0 : Option Addr) (c0 : Nat) (l0 : List Int) (r : List Int) (w : World) (hr0 : Kd.C (Kd.int .i64) w A0 l0.length l0) (hc0 : l0.length ≤ c0) (h : laws_toIntS.f k l0 = some r) :
    Calls Try.prog 16 #[.slice A0 l0.length c0] w fun e w' => ∃ v0_ : Value, e = .returned (v0_) ∧ Kd.R (Kd.int .i64) 3 w' w.heap.size (fun _ => True) v0_ r ∧ Below w.heap.size w w' := by
  have HR0 := Aside0.mk hr0
  have HC0 := Aside0.mk hc0
  clear hr0 hc0
  have HB := Aside0.mk (Below.refl w.heap.size w)
  have H : (if 0 ≤ (l0.length : Int) then (if ((l0.length : Int) : Int).toNat ≤ 35184372088832 then (laws_toIntS.l0 k l0 (List.replicate ((l0.length : Int) : Int).toNat 0) 0) else (none)) else (none)) = some r := h
  clear h
  by_cases c2 : 0 ≤ (l0.length : Int)
  · rw [if_pos c2] at H
    have c2b0 := eq_true c2
    have c2b1 : decide (0 ≤ (l0.length : Int)) = true := decide_eq_true c2
    clear c2
    by_cases c3 : ((l0.length : Int) : Int).toNat ≤ 35184372088832
    · rw [if_pos c3] at H
      have c3b0 := eq_true c3
      have c3b1 : decide (((l0.length : Int) : Int).toNat ≤ 35184372088832) = true := decide_eq_true c3
      clear c3
      obtain ⟨y198, hy198⟩ : ∃ y_ : List Int, y_ = (List.replicate ((l0.length : Int) : Int).toNat 0) := ⟨_, rfl⟩
      replace H : (laws_toIntS.l0 k l0 y198 0) = some r := by first | (rw [hy198]; with_reducible exact H) | (have H2_ := (Option.bind_some _ _).symm.trans H; rw [hy198]; with_reducible exact H2_) | (have H2_ := (Option.bind_some _ _).symm.trans H; with_reducible exact H2_) | with_reducible exact H | (rw [hy198]; exact H) | exact H
      have Ny198 := Aside0.mk hy198
      clear hy198
      have H' := Aside0.mk H
      clear H
      go_enter Try.func16, Try.ntmps16
      go_wp2_with (first | ((with_reducible refine gate_dst (N := 7) rfl ?_); refine Kd.R_make (Kd.int .i64) _ 3 rfl (N := 7) rfl 22 _ _ rfl (l0.length : Int) rfl rfl Try.underlying22 (.int .i64 0) 8 info3 rfl (by decide) (by omega) 0 (ok := fun _ => True) (okp := fun _ => True) rfl (fun _ hk => hk) trivial dt (Nat.le_trans (Nat.mul_le_mul_right _ (dt : (l0.length : Int).toNat ≤ 35184372088832)) (by omega)) (Below.refl _ _) (Nat.le_refl _) ?_; intro v199 w4 ho5 hb hg_ hnew_; clear hg_ hnew_; (first | rw [← Ny198.out] at ho5 | (simp only [Int.reduceToNat] at ho5; rw [← Ny198.out] at ho5)); have HO200 := mk (Kd.R_lower ho5 (below_size bl)); replace HB := wh hb; clear hb ho5))
      go_loopg [4] k (fun kq v4 w' => ∃ (x3_1 : List Int) (x4_1 : Int), v4 = .int .i64 x4_1 ∧ Aside0 (laws_toIntS.l0 kq l0 x3_1 x4_1 = some r) ∧ Aside0 (kq ≤ k) ∧ Aside0 (Kd.R (Kd.int .i64) 3 w' w.heap.size (fun _ => True) v199 x3_1) ∧ Aside0 (Below w.heap.size w w'))
      case atStart => exact ⟨(y198), (0), (by first | rfl | (simp; done) | (simp [*]; done)), H', ⟨Nat.le_refl _⟩, ⟨up HO200.out⟩, ⟨bl⟩⟩
      case round =>
        clear H'
        try clear c1
        try clear c2
        try clear c2b0
        try clear c2b1
        try clear p2
        try clear c3
        try clear c3b0
        try clear c3b1
        obtain ⟨x3_1, x4_1, rfl, HA, HK1, HO_3, HB⟩ := hrel
        cases gk with
        | zero => exact absurd HA.out (by simp [laws_toIntS.l0])
        | succ k1 =>
          have H := HA.out
          clear HA
          simp only [laws_toIntS.l0] at H
          by_cases c6 : x4_1 < (l0.length : Int)
          · rw [if_pos c6] at H
            have c6b0 : decide (x4_1 < (l0.length : Int)) = true := decide_eq_true c6
            clear c6
            by_cases c7 : 0 ≤ x4_1
            · rw [if_pos c7] at H
              have c7b0 : decide (0 ≤ x4_1) = true := decide_eq_true c7
              clear c7
              by_cases c8 : x4_1 < (x3_1.length : Int)
              · rw [if_pos c8] at H
                have c8b0 : decide (x4_1 < (x3_1.length : Int)) = true := decide_eq_true c8
                clear c8
                obtain ⟨y202, hy202⟩ : ∃ y_ : List Int, y_ = (x3_1.set (x4_1 : Int).toNat (rd l0 x4_1)) := ⟨_, rfl⟩
                replace H : (laws_toIntS.l0 k1 l0 y202 (wrap64 (x4_1 + 1))) = some r := by first | (rw [hy202]; with_reducible exact H) | (have H2_ := (Option.bind_some _ _).symm.trans H; rw [hy202]; with_reducible exact H2_) | (have H2_ := (Option.bind_some _ _).symm.trans H; with_reducible exact H2_) | with_reducible exact H | (rw [hy202]; exact H) | exact H
                have Ny202 := Aside0.mk hy202
                clear hy202
                have H' := Aside0.mk H
                clear H
                have p201 : 0 ≤ (x4_1 : Int) := dt
                have q201 : x4_1 < (l0.length : Int) := dt
                obtain ⟨ad201, e201, hx201_0⟩ := Kd.at_int HR0.out x4_1 p201 q201
                cases e201
                replace hx201_0 := (HB.out.cell (World.block_lt_of_cell? w _ hx201_0)).trans hx201_0
                replace p201 := eq_true p201
                replace q201 := eq_true q201
                have p9 : 0 ≤ (x4_1 : Int) := dt
                have q9 : (x4_1 : Int) < ((x3_1.length : Int) : Int) := dt
                obtain ⟨go9, co9, eo9, gb9, gl9, cl9, HG9⟩ := Kd.R_form HO_3.out (by omega)
                (first | cases eo9 | (injection eo9 with ea_ en_ ec_; (first | subst ea_ | (injection ea_ with ea_; subst ea_)); subst ec_; clear en_))
                have GB9 := Aside0.mk gb9
                have GG9 := Aside0.mk HG9
                clear gb9 gl9 HG9
                obtain ⟨hx9_0, hf9_0⟩ := Kd.R_celln 0 HO_3.out (x4_1 : Int) p9 q9
                replace p9 := eq_true p9
                replace q9 := eq_true q9
                have HP10 := Kd.R_putg HO_3.out (x4_1 : Int) (rd l0 x4_1)
                go_wp2_with (first | ((with_reducible refine gate_store (t := 3) (p := 20) rfl ?_); refine store_event (t := 3) (p := 20) (v := ?vo_w11) (w1 := (wr.setCell ⟨go9, (x4_1 : Int).toNat, none⟩ (.int .i64 (rd l0 x4_1)))) ?hg ?ho ?hn ?hr ?_; (case ho => rfl); (case hg => rfl); (case hn => rfl); (case hr => first | (go_simp; done) | (go_simp; rfl)); intro w11 hw; have hg : wr.grownBy w11 (some go9) := (by rw [hw]; exact HP10.2); have hp_ : Kd.R (Kd.int .i64) 3 w11 w.heap.size (fun _ => True) (.slice (some ⟨go9, 0, none⟩) x3_1.length co9) y202 := (by rw [hw, Ny202.out]; exact HP10.1); clear HP10; replace HO_3 := mk hp_; replace HB := mk ((by rw [hw]; exact below_set (HB.out) GB9.out : Below w.heap.size w w11)); clear hg hw hp_))
                go_roundg k1
                case measure => have := HK1.out; omega
                case rel => exact ⟨(y202), (wrap64 (x4_1 + 1)), (by first | rfl | (simp; done) | (simp [*]; done)), H', ⟨by have := HK1.out; omega⟩, ⟨up HO_3.out⟩, ⟨bl⟩⟩
              · rw [if_neg c8] at H
                exact absurd H (by simp)
            · rw [if_neg c7] at H
              exact absurd H (by simp)
          · rw [if_neg c6] at H
            have c6b0 : decide (x4_1 < (l0.length : Int)) = false := decide_eq_false c6
            clear c6
            obtain rfl := Option.some.inj H
            go_wp2
            go_ret
            exact ⟨_, by first | rfl | (simp [errW_none, errW_some] <;> rfl) | (simp [*, errW_none, errW_some] <;> rfl), up HO_3.out, bl⟩
    · rw [if_neg c3] at H
      exact absurd H (by simp)
  · rw [if_neg c2] at H
    exact absurd H (by simp)

/-! ### laws_toPivot: function 7 -/
def laws_toPivot.f (a0_0 : Int) (a0_1 : Int) : Option (Int × Int) := some (a0_0, a0_1)
set_option maxHeartbeats 8000000 in
set_option maxRecDepth 100000 in
theorem laws_toPivot.calls (a0_0 : Int) (a0_1 : Int) (r1 : Int) (r2 : Int) (w : World) (h : laws_toPivot.f a0_0 a0_1 = some (r1, r2)) :
    Calls Try.prog 7 #[.agg #[.int .i64 a0_0, .int .i64 a0_1]] w fun e w' => e = .returned (.agg #[.int .i64 r1, .int .i64 r2]) ∧ Below w.heap.size w w' := by
  have hu27 := Try.underlying27
  have hu35 := Try.underlying35
  have HB := Aside0.mk (Below.refl w.heap.size w)
  have H : (some (a0_0, a0_1)) = some (r1, r2) := h
  clear h
  simp only [Option.some.injEq, Prod.mk.injEq] at H
  obtain ⟨rfl, rfl⟩ := H
  go_enter Try.func7, Try.ntmps7
  go_wp2_with (first | ((with_reducible refine gate_dst (N := 1) rfl ?_); refine bx 1 #[.int .i64 a0_0, .int .i64 a0_1] 27 ?_; intro gb203 hg w2 hbox hb; have BK203 := mk hbox; have GW203 := wg hg; have GE203 := wg hg; replace HB := wh hb; clear hb hbox hg) | ((with_reducible refine gate_dst (N := 2) rfl ?_); refine bx 2 #[.int .i64 0, .int .i64 0] 35 ?_; intro gb204 hg w3 hbox hb; have BK204 := mk hbox; have GW204 := wg hg; have GE204 := wg hg; replace HB := wh hb; have NB203_204 := nl BK203 hg; have NB204_203 := nr BK203 hg; replace BK203 := wb BK203 hb; clear hb hbox hg) | ((with_reducible refine gate_dst (N := 3) rfl ?_); refine bx 3 #[.int .i64 0, .int .i64 0] 35 ?_; intro gb205 hg w4 hbox hb; have BK205 := mk hbox; have GW205 := wg hg; have GE205 := wg hg; replace HB := wh hb; have NB203_205 := nl BK203 hg; have NB205_203 := nr BK203 hg; replace BK203 := wb BK203 hb; have NB204_205 := nl BK204 hg; have NB205_204 := nr BK204 hg; replace BK204 := wb BK204 hb; clear hb hbox hg; have hnb5 := NB203_204.out; have hnc5 := NB204_203.out; have hnb6 := NB203_205.out; have hnc6 := NB205_203.out; obtain ⟨hcz7_0, hcz7_1, hfz7_0, hfz7_1⟩ := bz2 BK203; have hnb8 := NB205_204.out; have hnc8 := NB204_205.out; obtain ⟨hcz9_0, hcz9_1, hfz9_0, hfz9_1⟩ := bz2 BK205; obtain ⟨hcz10_0, hcz10_1, hfz10_0, hfz10_1⟩ := bz2 BK204))
  refine bodyPost_ret (results_cell_row rfl _ _ gb204 35 #[.int .i64 a0_0, .int .i64 a0_1] (0, 0) _ rfl bq Try.underlying35 rfl (by kernel_rfl)) rfl ?_
  exact ⟨by first | rfl | (simp [errW_none, errW_some] <;> rfl) | (simp [*, errW_none, errW_some] <;> rfl), bl⟩

/-! ### laws_toPivotS: function 17 -/
def laws_toPivotS.l0 : Nat → List (S27) → List (S35) → Int → Option ((List (S35)))
  | 0, _, _, _ => none
  | k + 1, x0, x3, x4 => if x4 < (x0.length : Int) then (if 0 ≤ x4 then ((laws_toPivot.f ((rd_T27 x0 x4).f0) ((rd_T27 x0 x4).f1)).bind fun bt210 => (if x4 < (x3.length : Int) then (laws_toPivotS.l0 k x0 (x3.set (x4 : Int).toNat (⟨bt210.1, bt210.2⟩ : S35)) (wrap64 (x4 + 1))) else (none))) else (none)) else (some x3)
def laws_toPivotS.f (k : Nat) (l0 : List (S27)) : Option ((List (S35))) := if 0 ≤ (l0.length : Int) then (if ((l0.length : Int) : Int).toNat ≤ 17592186044416 then (laws_toPivotS.l0 k l0 (List.replicate ((l0.length : Int) : Int).toNat z35) 0) else (none)) else (none)
theorem laws_toPivotS.mono_l : ∀ k, (∀ y0 y1 y2, LeO (laws_toPivotS.l0 k y0 y1 y2) (laws_toPivotS.l0 (k + 1) y0 y1 y2))
  | 0 => fun _ _ _ r h => by simp [laws_toPivotS.l0] at h
  | k + 1 => by
    have ih0 := laws_toPivotS.mono_l k
    · intro y0 y1 y2
      unfold laws_toPivotS.l0
      exact mo
theorem laws_toPivotS.mono : ∀ a0 k, LeO (laws_toPivotS.f k a0) (laws_toPivotS.f (k + 1) a0) := by
  intro a0 k
  have ih0 := laws_toPivotS.mono_l k
  unfold laws_toPivotS.f
  exact mo
instance laws_toPivotS.mi (a0 k) : LeC (laws_toPivotS.f k a0) (laws_toPivotS.f (k + 1) a0) := ⟨laws_toPivotS.mono a0 k⟩
set_option maxHeartbeats 8000000 in
set_option maxRecDepth 100000 in
theorem laws_toPivotS.calls (k : Nat) (A0 : Option Addr) (c0 : Nat) (l0 : List (S27)) (r : List (S35)) (w : World) (hr0 : Kd.C k27 w A0 l0.length l0) (hc0 : l0.length ≤ c0) (h : laws_toPivotS.f k l0 = some r) :
    Calls Try.prog 17 #[.slice A0 l0.length c0] w fun e w' => ∃ v0_ : Value, e = .returned (v0_) ∧ Kd.R k35 35 w' w.heap.size (fun _ => True) v0_ r ∧ Below w.heap.size w w' := by
  have hu27 := Try.underlying27
  have hu35 := Try.underlying35
  have HR0 := Aside0.mk hr0
  have HC0 := Aside0.mk hc0
  clear hr0 hc0
  have HB := Aside0.mk (Below.refl w.heap.size w)
  have H : (if 0 ≤ (l0.length : Int) then (if ((l0.length : Int) : Int).toNat ≤ 17592186044416 then (laws_toPivotS.l0 k l0 (List.replicate ((l0.length : Int) : Int).toNat z35) 0) else (none)) else (none)) = some r := h
  clear h
  by_cases c2 : 0 ≤ (l0.length : Int)
  · rw [if_pos c2] at H
    have c2b0 := eq_true c2
    have c2b1 : decide (0 ≤ (l0.length : Int)) = true := decide_eq_true c2
    clear c2
    by_cases c3 : ((l0.length : Int) : Int).toNat ≤ 17592186044416
    · rw [if_pos c3] at H
      have c3b0 := eq_true c3
      have c3b1 : decide (((l0.length : Int) : Int).toNat ≤ 17592186044416) = true := decide_eq_true c3
      clear c3
      obtain ⟨y206, hy206⟩ : ∃ y_ : List (S35), y_ = (List.replicate ((l0.length : Int) : Int).toNat z35) := ⟨_, rfl⟩
      replace H : (laws_toPivotS.l0 k l0 y206 0) = some r := by first | (rw [hy206]; with_reducible exact H) | (have H2_ := (Option.bind_some _ _).symm.trans H; rw [hy206]; with_reducible exact H2_) | (have H2_ := (Option.bind_some _ _).symm.trans H; with_reducible exact H2_) | with_reducible exact H | (rw [hy206]; exact H) | exact H
      have Ny206 := Aside0.mk hy206
      clear hy206
      have H' := Aside0.mk H
      clear H
      go_enter Try.func17, Try.ntmps17
      go_wp2_with (first | ((with_reducible refine gate_dst (N := 7) rfl ?_); refine Kd.R_make k35 _ 35 rfl (N := 7) rfl 29 _ _ rfl (l0.length : Int) rfl rfl Try.underlying29 (.agg #[(.int .i64 0), (.int .i64 0)]) 16 info35 rfl (by decide) (by omega) z35 (ok := fun _ => True) (okp := fun _ => True) (k35_mkM _ _ _ z35 ) (fun _ hk => hk) trivial dt (Nat.le_trans (Nat.mul_le_mul_right _ (dt : (l0.length : Int).toNat ≤ 17592186044416)) (by omega)) (Below.refl _ _) (Nat.le_refl _) ?_; intro v207 w4 ho5 hb hg_ hnew_; clear hg_ hnew_; (first | rw [← Ny206.out] at ho5 | (simp only [Int.reduceToNat] at ho5; rw [← Ny206.out] at ho5)); have HO208 := mk (Kd.R_lower ho5 (below_size bl)); replace HB := wh hb; clear hb ho5))
      go_loopg [4] k (fun kq v4 w' => ∃ (x3_1 : List (S35)) (x4_1 : Int), v4 = .int .i64 x4_1 ∧ Aside0 (laws_toPivotS.l0 kq l0 x3_1 x4_1 = some r) ∧ Aside0 (kq ≤ k) ∧ Aside0 (Kd.R k35 35 w' w.heap.size (fun _ => True) v207 x3_1) ∧ Aside0 (Below w.heap.size w w'))
      case atStart => exact ⟨(y206), (0), (by first | rfl | (simp; done) | (simp [*]; done)), H', ⟨Nat.le_refl _⟩, ⟨up HO208.out⟩, ⟨bl⟩⟩
      case round =>
        clear H'
        try clear c1
        try clear c2
        try clear c2b0
        try clear c2b1
        try clear p2
        try clear c3
        try clear c3b0
        try clear c3b1
        obtain ⟨x3_1, x4_1, rfl, HA, HK1, HO_3, HB⟩ := hrel
        cases gk with
        | zero => exact absurd HA.out (by simp [laws_toPivotS.l0])
        | succ k1 =>
          have H := HA.out
          clear HA
          simp only [laws_toPivotS.l0] at H
          by_cases c6 : x4_1 < (l0.length : Int)
          · rw [if_pos c6] at H
            have c6b0 : decide (x4_1 < (l0.length : Int)) = true := decide_eq_true c6
            clear c6
            by_cases c7 : 0 ≤ x4_1
            · rw [if_pos c7] at H
              have c7b0 : decide (0 ≤ x4_1) = true := decide_eq_true c7
              clear c7
              revert H; refine bo ?_; rintro ⟨t210, t211⟩ A8 H
              dsimp only at H
              by_cases c9 : x4_1 < (x3_1.length : Int)
              · rw [if_pos c9] at H
                have c9b0 : decide (x4_1 < (x3_1.length : Int)) = true := decide_eq_true c9
                clear c9
                obtain ⟨y212, hy212⟩ : ∃ y_ : List (S35), y_ = (x3_1.set (x4_1 : Int).toNat (⟨t210, t211⟩ : S35)) := ⟨_, rfl⟩
                replace H : (laws_toPivotS.l0 k1 l0 y212 (wrap64 (x4_1 + 1))) = some r := by first | (rw [hy212]; with_reducible exact H) | (have H2_ := (Option.bind_some _ _).symm.trans H; rw [hy212]; with_reducible exact H2_) | (have H2_ := (Option.bind_some _ _).symm.trans H; with_reducible exact H2_) | with_reducible exact H | (rw [hy212]; exact H) | exact H
                have Ny212 := Aside0.mk hy212
                clear hy212
                have H' := Aside0.mk H
                clear H
                have p209 : 0 ≤ (x4_1 : Int) := dt
                have q209 : x4_1 < (l0.length : Int) := dt
                obtain ⟨ad209, e209, hx209_0, hx209_1⟩ := at_T27 HR0.out x4_1 p209 q209
                cases e209
                replace hx209_0 := (HB.out.cell (World.block_lt_of_cell? w _ hx209_0)).trans hx209_0
                replace hx209_1 := (HB.out.cell (World.block_lt_of_cell? w _ hx209_1)).trans hx209_1
                replace p209 := eq_true p209
                replace q209 := eq_true q209
                go_wp2_with (first | ((with_reducible refine gate_callee (f := 7) rfl ?_); refine gl (some 20) rfl Try.func7 #[.agg #[.int .i64 ((rd_T27 l0 x4_1).f0), .int .i64 ((rd_T27 l0 x4_1).f1)]] ?_; (with_reducible refine (laws_toPivot.calls ((rd_T27 l0 x4_1).f0) ((rd_T27 l0 x4_1).f1) t210 t211 _ A8.out).mono ?_); rintro e w11 ⟨rfl, hb⟩; refine ⟨_, rfl, ?_⟩; replace HO_3 := mk (Kd.R_below (up HO_3.out) hb); replace HB := wh hb; (try clear hb); (try clear hb2); (try clear hk); (try clear hi); have p10 : 0 ≤ (x4_1 : Int) := dt; have q10 : (x4_1 : Int) < ((x3_1.length : Int) : Int) := dt; obtain ⟨go10, co10, eo10, gb10, gl10, cl10, HG10⟩ := Kd.R_form HO_3.out (by omega); (first | cases eo10 | (injection eo10 with ea_ en_ ec_; (first | subst ea_ | (injection ea_ with ea_; subst ea_)); subst ec_; clear en_)); have GB10 := Aside0.mk gb10; have GG10 := Aside0.mk HG10; clear gb10 gl10 HG10; obtain ⟨ce10, hcl10, hM10, hcc10, hfr10⟩ := Kd.R_elem HO_3.out z35 (x4_1 : Int) p10 q10; obtain rfl := k35_openM hM10; have hx10_0 : w11.cell? ⟨go10, (x4_1 : Int).toNat * 2, none⟩ = some (.int .i64 ((rd_T35 x3_1 x4_1).f0)) := hcc10 0 _ rfl; have hx10_1 : w11.cell? ⟨go10, (x4_1 : Int).toNat * 2 + 1, none⟩ = some (.int .i64 ((rd_T35 x3_1 x4_1).f1)) := hcc10 1 _ rfl; have hf10_0 : w11.frozen? ⟨go10, (x4_1 : Int).toNat * 2, none⟩ = false := hfr10 0; have hf10_1 : w11.frozen? ⟨go10, (x4_1 : Int).toNat * 2 + 1, none⟩ = false := hfr10 1; clear hcl10 hcc10 hfr10 hM10; replace p10 := eq_true p10; replace q10 := eq_true q10; have HX12 := Aside0.mk (show Kd.R k35 35 w11 w.heap.size (fun _ => True) (.slice (some ⟨go10, 0, none⟩) x3_1.length co10) x3_1 from (up HO_3.out)); obtain ⟨ce12, hcl12, hM12, hcc12, hfr12⟩ := Kd.R_elem HX12.out z35 (x4_1 : Int) dt (by have h_ : (x4_1 : Int) < ((x3_1.length : Int) : Int) := dt; first | exact h_ | (have e_ := (Kd.R_reads' HO_3.out).1; omega) | simpa using h_); obtain rfl := k35_openM hM12; have HP12 := Kd.R_seg HX12.out (x4_1 : Int) dt (by have h_ : (x4_1 : Int) < ((x3_1.length : Int) : Int) := dt; first | exact h_ | (have e_ := (Kd.R_reads' HO_3.out).1; omega) | simpa using h_) (seg := [.int .i64 t210, .int .i64 t211]) (j := 0) hcl12 hcc12 (show 2 ≤ 2 from by decide) (x' := (⟨t210, t211⟩ : S35)) (k35_mkM _ _ _ (⟨t210, t211⟩ : S35) ) (fun _ hk => hk); have hx12_0 := hcc12 0 _ rfl; (try simp only [show (k35).sz = 2 from rfl, Nat.mul_one, Nat.add_zero] at hx12_0); have hf12_0 := hfr12 0; (try simp only [show (k35).sz = 2 from rfl, Nat.mul_one, Nat.add_zero] at hf12_0); have hx12_1 := hcc12 1 _ rfl; (try simp only [show (k35).sz = 2 from rfl, Nat.mul_one, Nat.add_zero] at hx12_1); have hf12_1 := hfr12 1; (try simp only [show (k35).sz = 2 from rfl, Nat.mul_one, Nat.add_zero] at hf12_1); clear hcl12 hcc12 hfr12 hM12) | ((with_reducible refine gate_store (t := 35) (p := 21) rfl ?_); refine store_event (t := 35) (p := 21) (v := ?vo_w13) (w1 := ((w11.setCell ⟨go10, (x4_1 : Int).toNat * 2, none⟩ (.int .i64 t210)).setCell ⟨go10, (x4_1 : Int).toNat * 2 + 1, none⟩ (.int .i64 t211))) ?hg ?ho ?hn ?hr ?_; (case ho => rfl); (case hg => rfl); (case hn => rfl); (case hr => first | (go_simp; done) | (go_simp; rfl)); intro w13 hw; have hg : w11.grownBy w13 (some go10) := (by rw [hw]; exact HP12.2); have hp_ : Kd.R k35 35 w13 w.heap.size (fun _ => True) (.slice (some ⟨go10, 0, none⟩) x3_1.length co10) y212 := (by rw [hw, Ny212.out]; exact HP12.1); clear HP12; replace HO_3 := mk hp_; replace HB := mk ((by rw [hw]; exact below_set (below_set (HB.out) GB10.out) GB10.out : Below w.heap.size w w13)); clear hg hw hp_))
                go_roundg k1
                case measure => have := HK1.out; omega
                case rel => exact ⟨(y212), (wrap64 (x4_1 + 1)), (by first | rfl | (simp; done) | (simp [*]; done)), H', ⟨by have := HK1.out; omega⟩, ⟨up HO_3.out⟩, ⟨bl⟩⟩
              · rw [if_neg c9] at H
                exact absurd H (by simp)
            · rw [if_neg c7] at H
              exact absurd H (by simp)
          · rw [if_neg c6] at H
            have c6b0 : decide (x4_1 < (l0.length : Int)) = false := decide_eq_false c6
            clear c6
            obtain rfl := Option.some.inj H
            go_wp2
            go_ret
            exact ⟨_, by first | rfl | (simp [errW_none, errW_some] <;> rfl) | (simp [*, errW_none, errW_some] <;> rfl), up HO_3.out, bl⟩
    · rw [if_neg c3] at H
      exact absurd H (by simp)
  · rw [if_neg c2] at H
    exact absurd H (by simp)

/-! ### laws_toCracker: function 6 -/
def laws_toCracker.f (k : Nat) (l0_0 : List Int) (l0_1 : List Int) (l0_2 : List (S27)) : Option (List Int × List Int × (List (S35))) := (laws_toIntS.f k l0_0).bind fun t216 => ((laws_toIntS.f k l0_1).bind fun t219 => ((laws_toPivotS.f k l0_2).bind fun t222 => (some (t216, t219, t222))))
theorem laws_toCracker.mono : ∀ a0 a1 a2 k, LeO (laws_toCracker.f k a0 a1 a2) (laws_toCracker.f (k + 1) a0 a1 a2) := by
  intro a0 a1 a2 k
  unfold laws_toCracker.f
  exact mo
instance laws_toCracker.mi (a0 a1 a2 k) : LeC (laws_toCracker.f k a0 a1 a2) (laws_toCracker.f (k + 1) a0 a1 a2) := ⟨laws_toCracker.mono a0 a1 a2 k⟩
set_option maxHeartbeats 8000000 in
set_option maxRecDepth 100000 in
theorem laws_toCracker.calls (k : Nat) (A0_0 : Option Addr) (c0_0 : Nat) (l0_0 : List Int) (A0_1 : Option Addr) (c0_1 : Nat) (l0_1 : List Int) (A0_2 : Option Addr) (c0_2 : Nat) (l0_2 : List (S27)) (r1 : List Int) (r2 : List Int) (r3 : List (S35)) (w : World) (hr0_0 : Kd.C (Kd.int .i64) w A0_0 l0_0.length l0_0) (hc0_0 : l0_0.length ≤ c0_0) (hr0_1 : Kd.C (Kd.int .i64) w A0_1 l0_1.length l0_1) (hc0_1 : l0_1.length ≤ c0_1) (hr0_2 : Kd.C k27 w A0_2 l0_2.length l0_2) (hc0_2 : l0_2.length ≤ c0_2) (h : laws_toCracker.f k l0_0 l0_1 l0_2 = some (r1, r2, r3)) :
    Calls Try.prog 6 #[.agg #[.slice A0_0 l0_0.length c0_0, .slice A0_1 l0_1.length c0_1, .slice A0_2 l0_2.length c0_2]] w fun e w' => ∃ v0_ v1_ v2_ : Value, e = .returned (.agg #[v0_, v1_, v2_]) ∧ Kd.R (Kd.int .i64) 3 w' w.heap.size (fun k_ => some k_ ≠ (v1_ : Value).ownBlock) v0_ r1 ∧ Kd.R (Kd.int .i64) 3 w' w.heap.size (fun k_ => some k_ ≠ (v0_ : Value).ownBlock) v1_ r2 ∧ Kd.R k35 35 w' w.heap.size (fun _ => True) v2_ r3 ∧ Below w.heap.size w w' := by
  have hu25 := Try.underlying25
  have hu31 := Try.underlying31
  have HR0_0 := Aside0.mk hr0_0
  have HC0_0 := Aside0.mk hc0_0
  clear hr0_0 hc0_0
  have HR0_1 := Aside0.mk hr0_1
  have HC0_1 := Aside0.mk hc0_1
  clear hr0_1 hc0_1
  have HR0_2 := Aside0.mk hr0_2
  have HC0_2 := Aside0.mk hc0_2
  clear hr0_2 hc0_2
  have HB := Aside0.mk (Below.refl w.heap.size w)
  have H : ((laws_toIntS.f k l0_0).bind fun t216 => ((laws_toIntS.f k l0_1).bind fun t219 => ((laws_toPivotS.f k l0_2).bind fun t222 => (some (t216, t219, t222))))) = some (r1, r2, r3) := h
  clear h
  revert H; refine bo ?_; rintro t216 A2 H
  revert H; refine bo ?_; rintro t219 A3 H
  revert H; refine bo ?_; rintro t222 A4 H
  simp only [Option.some.injEq, Prod.mk.injEq] at H
  obtain ⟨rfl, rfl, rfl⟩ := H
  go_enter Try.func6, Try.ntmps6
  go_wp2_with (first | ((with_reducible refine gate_dst (N := 1) rfl ?_); refine bx 1 #[.slice A0_0 l0_0.length c0_0, .slice A0_1 l0_1.length c0_1, .slice A0_2 l0_2.length c0_2] 25 ?_; intro gb213 hg w5 hbox hb; have BK213 := mk hbox; have GW213 := wg hg; have GE213 := wg hg; replace HB := wh hb; clear hb hbox hg) | ((with_reducible refine gate_dst (N := 2) rfl ?_); refine bx 2 #[.slice none 0 0, .slice none 0 0, .slice none 0 0] 31 ?_; intro gb214 hg w6 hbox hb; have BK214 := mk hbox; have GW214 := wg hg; have GE214 := wg hg; replace HB := wh hb; have NB213_214 := nl BK213 hg; have NB214_213 := nr BK213 hg; replace BK213 := wb BK213 hb; clear hb hbox hg) | ((with_reducible refine gate_dst (N := 3) rfl ?_); refine bx 3 #[.slice none 0 0, .slice none 0 0, .slice none 0 0] 31 ?_; intro gb215 hg w7 hbox hb; have BK215 := mk hbox; have GW215 := wg hg; have GE215 := wg hg; replace HB := wh hb; have NB213_215 := nl BK213 hg; have NB215_213 := nr BK213 hg; replace BK213 := wb BK213 hb; have NB214_215 := nl BK214 hg; have NB215_214 := nr BK214 hg; replace BK214 := wb BK214 hb; clear hb hbox hg; have hnb8 := NB213_214.out; have hnc8 := NB214_213.out; have hnb9 := NB213_215.out; have hnc9 := NB215_213.out; obtain ⟨hcz10_0, hcz10_1, hcz10_2, hfz10_0, hfz10_1, hfz10_2⟩ := bz3 BK213) | ((with_reducible refine gate_callee (f := 16) rfl ?_); refine gl (some 6) rfl Try.func16 #[.slice A0_0 l0_0.length c0_0] ?_; (with_reducible refine (laws_toIntS.calls k _ _ l0_0 t216 _ ?side1 ?side2 A2.out).mono ?_); (case side1 => exact uc (Kd.C_below HR0_0.out HB.out)); (case side2 => exact HC0_0.out); rintro e w11 ⟨v217, rfl, ho0, hb⟩; refine ⟨_, rfl, ?_⟩; have HO218 := mk (Kd.R_lower ho0 (below_size bl)); replace BK213 := wb BK213 hb; replace BK214 := wb BK214 hb; replace BK215 := wb BK215 hb; replace HB := wh hb; (try clear hb); (try clear hb2); (try clear hk); (try clear hi); (try clear ho0); obtain ⟨Ao12, co12, eo12⟩ := Kd.R_slice HO218.out; subst eo12; have hnb13 := NB215_214.out; have hnc13 := NB214_215.out; obtain ⟨hcz14_0, hcz14_1, hcz14_2, hfz14_0, hfz14_1, hfz14_2⟩ := bz3 BK215; obtain ⟨hcz15_0, hcz15_1, hcz15_2, hfz15_0, hfz15_1, hfz15_2⟩ := bz3 BK213) | ((with_reducible refine gate_callee (f := 16) rfl ?_); refine gl (some 10) rfl Try.func16 #[.slice A0_1 l0_1.length c0_1] ?_; (with_reducible refine (laws_toIntS.calls k _ _ l0_1 t219 _ ?side1 ?side2 A3.out).mono ?_); (case side1 => exact Kd.C_below HR0_1.out bl); (case side2 => exact HC0_1.out); rintro e w16 ⟨v220, rfl, ho0, hb⟩; refine ⟨_, rfl, ?_⟩; have HO221 := mk (Kd.R_lower (Kd.R_new' ho0 (Kd.R_lt (by exact rs1 HO218 BK215))) (below_size bl)); replace HO218 := mk (Kd.R_elder' (by exact rs1 HO218 BK215) (Kd.R_base ho0) hb); replace BK213 := wx BK213 hb; replace BK214 := wx BK214 hb; replace BK215 := mk (blk_below (g := gb215) (o := .cells #[.slice Ao12 t216.length co12, .slice none 0 0, .slice none 0 0] 31 (0, 0)) bq hb); replace HB := wh hb; (try clear hb); (try clear hb2); (try clear hk); (try clear hi); (try clear ho0); obtain ⟨Ao17, co17, eo17⟩ := Kd.R_slice HO221.out; subst eo17; obtain ⟨hcz18_0, hcz18_1, hcz18_2, hfz18_0, hfz18_1, hfz18_2⟩ := bz3 BK215; obtain ⟨hcz19_0, hcz19_1, hcz19_2, hfz19_0, hfz19_1, hfz19_2⟩ := bz3 BK213) | ((with_reducible refine gate_callee (f := 17) rfl ?_); refine gl (some 14) rfl Try.func17 #[.slice A0_2 l0_2.length c0_2] ?_; (with_reducible refine (laws_toPivotS.calls k _ _ l0_2 t222 _ ?side1 ?side2 A4.out).mono ?_); (case side1 => exact Kd.C_below HR0_2.out bl); (case side2 => exact HC0_2.out); rintro e w20 ⟨v223, rfl, ho0, hb⟩; refine ⟨_, rfl, ?_⟩; replace HO218 := mk (Kd.R_below (by exact rs1 HO218 BK215) hb); replace HO221 := mk (Kd.R_below (by exact rs1 HO221 BK215) hb); have HO224 := mk (Kd.R_lower ho0 (below_size bl)); replace BK213 := wx BK213 hb; replace BK214 := wx BK214 hb; replace BK215 := mk (blk_below (g := gb215) (o := .cells #[.slice Ao12 t216.length co12, .slice Ao17 t219.length co17, .slice none 0 0] 31 (0, 0)) bq hb); replace HB := wh hb; (try clear hb); (try clear hb2); (try clear hk); (try clear hi); (try clear ho0); obtain ⟨Ao21, co21, eo21⟩ := Kd.R_slice HO224.out; subst eo21; obtain ⟨hcz22_0, hcz22_1, hcz22_2, hfz22_0, hfz22_1, hfz22_2⟩ := bz3 BK215; obtain ⟨hcz23_0, hcz23_1, hcz23_2, hfz23_0, hfz23_1, hfz23_2⟩ := bz3 BK214))
  refine bodyPost_ret (results_cell_row rfl _ _ gb214 31 #[.slice Ao12 t216.length co12, .slice Ao17 t219.length co17, .slice Ao21 t222.length co21] (0, 0) _ rfl bq Try.underlying31 rfl (by kernel_rfl)) rfl ?_
  exact ⟨_, _, _, by first | rfl | (simp [errW_none, errW_some] <;> rfl) | (simp [*, errW_none, errW_some] <;> rfl), (by exact rm (rs2 HO218 BK215 BK214)), (by exact rm (rs2 HO221 BK215 BK214)), (by exact rm (rs2 HO224 BK215 BK214)), bl⟩

/-! ### slices_Clone_int_int: function 38 -/
def slices_Clone_int_int.f (l0 : List Int) : Option (List Int) := if l0.length < 17592186044416 then some l0 else none
set_option maxHeartbeats 8000000 in
set_option maxRecDepth 100000 in
theorem slices_Clone_int_int.calls (A0 : Option Addr) (c0 : Nat) (l0 : List Int) (r : List Int) (w : World) (hr0 : Kd.C (Kd.int .i64) w A0 l0.length l0) (hc0 : l0.length ≤ c0) (h : slices_Clone_int_int.f l0 = some r) :
    Calls Try.prog 38 #[.slice A0 l0.length c0] w fun e w' => ∃ v0_ : Value, e = .returned (v0_) ∧ Kd.R (Kd.int .i64) 3 w' w.heap.size (fun _ => True) v0_ r ∧ Below w.heap.size w w' := by
  have hE : ∀ (w w' : World) base ok x cs, ((Kd.int .i64)).K w x cs → ((Kd.int .i64)).M w' base ok x cs := fun _ _ _ _ _ _ h => h
  have q := fun (w : World) (a : Option Addr) (n c n' c' : Nat) => Go.Lib.run_eql_slice_nil (P := Try.prog) w 22 3 a n c n' c' Try.underlying22
  obtain ⟨i0, hi, hzz⟩ := Option.map_eq_some_iff.1 info3
  simp only [Prod.mk.injEq] at hzz
  obtain ⟨hz0, hz1, hz2⟩ := hzz
  unfold slices_Clone_int_int.f at h
  by_cases hlen : l0.length < 17592186044416
  · rw [if_pos hlen] at h
    obtain rfl := Option.some.inj h
    clear h
    have HR := Aside0.mk hr0
    clear hr0
    rcases A0 with _ | ad
    · have hz : l0 = [] := by
        rcases Nat.eq_zero_or_pos l0.length with h0 | h0
        · exact List.eq_nil_of_length_eq_zero h0
        · obtain ⟨ad, e, _⟩ := HR.out.2.2 h0
          cases e
      subst hz
      clear HR hc0 hlen
      go_enter Try.func38, Try.ntmps38
      go_wp2
      go_ret
      exact ⟨_, rfl, Kd.R_nil _ _ _ _ _, Below.refl _ _⟩
    · obtain ⟨inner, hrep, hcell⟩ := ReadsRow.inner_ HR.out
      have h1 : ∀ u ∈ inner, u.oneCell' = true := by
        intro u hu
        obtain ⟨j, hj⟩ := List.mem_iff_getElem?.1 hu
        have hl := hrep.1
        have hjl : j < inner.length := (List.getElem?_eq_some_iff.1 hj).1
        have hs : ((Kd.int .i64)).sz = 1 := rfl
        rw [hs] at hl
        have hd : j / 1 < l0.length := by omega
        obtain ⟨p, hp⟩ : ∃ p, l0[j / 1]? = some p := ⟨_, List.getElem?_eq_getElem hd⟩
        refine ((Kd.int .i64)).K_one (hrep.2 _ p hp) u ?_
        refine List.mem_iff_getElem?.2 ⟨j % 1, ?_⟩
        rw [hs, List.getElem?_take, if_pos (by omega), List.getElem?_drop, ← hj]
        congr 1
        omega
      have HI := Aside0.mk hcell
      have HP := Aside0.mk hrep
      have HO := Aside0.mk h1
      clear hcell hrep h1
      have hlm : l0.length ≤ maxLen := by unfold maxLen; omega
      have hlb : l0.length * 8 ≤ 140737488355328 := by omega
      go_enter Try.func38, Try.ntmps38
      go_wp2_with (at_builtin; refine wpList_append_own _ rfl _ _ 22 rfl w.heap.size 3 i0 (.int .i64 0) 1 8 Try.underlying22 hi hz0 hz1 hz2 rfl (by decide) _ _ _ rfl (World.ownsRow_made w #[] 0 (Nat.le_refl _) (Nat.zero_le _) (by simp)) ad l0.length c0 inner rfl ?qc1 ?qc2 ?qc3 ?qc4 ?qc5 ?qc6 ?_)
      case qc1 => exact HP.out.1
      case qc2 =>
        intro j u hj
        exact Go.Lib.cell?_alloc_some _ (HI.out j u hj)
      case qc3 => exact HO.out
      case qc4 => rw [Nat.zero_add]; exact hlm
      case qc5 => rw [Nat.zero_add]; exact hlb
      case qc6 => simp
      intro v' w1 hown hgrow hnil
      go_wp2
      go_ret
      refine ⟨v', rfl, ⟨fun _ _ => trivial, inner, by have h2 := hown; (try simp only [Nat.zero_add, List.nil_append] at h2); exact h2, ?_⟩, ?_⟩
      · exact Reps.imp_ HP.out (fun _ _ hp => hE _ _ _ _ _ _ hp)
      · exact ((Below.refl _ w).alloc (Nat.le_refl _) _).grown hgrow (by simp) (by intro k hk; simp [Value.ownBlock] at hk; omega)
  · rw [if_neg hlen] at h
    cases h


/-! ### impl_Pivot_39: function 39 -/
def impl_Pivot_39.f (l0 : List (S35)) : Option ((List (S35))) := if l0.length < 8796093022208 then some l0 else none
set_option maxHeartbeats 8000000 in
set_option maxRecDepth 100000 in
theorem impl_Pivot_39.calls (A0 : Option Addr) (c0 : Nat) (l0 : List (S35)) (r : List (S35)) (w : World) (hr0 : Kd.C k35 w A0 l0.length l0) (hc0 : l0.length ≤ c0) (h : impl_Pivot_39.f l0 = some r) :
    Calls Try.prog 39 #[.slice A0 l0.length c0] w fun e w' => ∃ v0_ : Value, e = .returned (v0_) ∧ Kd.R k35 35 w' w.heap.size (fun _ => True) v0_ r ∧ Below w.heap.size w w' := by
  have hE : ∀ (w w' : World) base ok x cs, (k35).K w x cs → (k35).M w' base ok x cs := fun _ _ _ _ _ _ h => h
  have q := fun (w : World) (a : Option Addr) (n c n' c' : Nat) => Go.Lib.run_eql_slice_nil (P := Try.prog) w 29 35 a n c n' c' Try.underlying29
  obtain ⟨i0, hi, hzz⟩ := Option.map_eq_some_iff.1 info35
  simp only [Prod.mk.injEq] at hzz
  obtain ⟨hz0, hz1, hz2⟩ := hzz
  unfold impl_Pivot_39.f at h
  by_cases hlen : l0.length < 8796093022208
  · rw [if_pos hlen] at h
    obtain rfl := Option.some.inj h
    clear h
    have HR := Aside0.mk hr0
    clear hr0
    rcases A0 with _ | ad
    · have hz : l0 = [] := by
        rcases Nat.eq_zero_or_pos l0.length with h0 | h0
        · exact List.eq_nil_of_length_eq_zero h0
        · obtain ⟨ad, e, _⟩ := HR.out.2.2 h0
          cases e
      subst hz
      clear HR hc0 hlen
      go_enter Try.func39, Try.ntmps39
      go_wp2
      go_ret
      exact ⟨_, rfl, Kd.R_nil _ _ _ _ _, Below.refl _ _⟩
    · obtain ⟨inner, hrep, hcell⟩ := ReadsRow.inner_ HR.out
      have h1 : ∀ u ∈ inner, u.oneCell' = true := by
        intro u hu
        obtain ⟨j, hj⟩ := List.mem_iff_getElem?.1 hu
        have hl := hrep.1
        have hjl : j < inner.length := (List.getElem?_eq_some_iff.1 hj).1
        have hs : (k35).sz = 2 := rfl
        rw [hs] at hl
        have hd : j / 2 < l0.length := by omega
        obtain ⟨p, hp⟩ : ∃ p, l0[j / 2]? = some p := ⟨_, List.getElem?_eq_getElem hd⟩
        refine (k35).K_one (hrep.2 _ p hp) u ?_
        refine List.mem_iff_getElem?.2 ⟨j % 2, ?_⟩
        rw [hs, List.getElem?_take, if_pos (by omega), List.getElem?_drop, ← hj]
        congr 1
        omega
      have HI := Aside0.mk hcell
      have HP := Aside0.mk hrep
      have HO := Aside0.mk h1
      clear hcell hrep h1
      have hlm : l0.length ≤ maxLen := by unfold maxLen; omega
      have hlb : l0.length * 16 ≤ 140737488355328 := by omega
      go_enter Try.func39, Try.ntmps39
      go_wp2_with (at_builtin; refine wpList_append_own _ rfl _ _ 29 rfl w.heap.size 35 i0 (.agg #[(.int .i64 0), (.int .i64 0)]) 2 16 Try.underlying29 hi hz0 hz1 hz2 rfl (by decide) _ _ _ rfl (World.ownsRow_made w #[] 0 (Nat.le_refl _) (Nat.zero_le _) (by simp)) ad l0.length c0 inner rfl ?qc1 ?qc2 ?qc3 ?qc4 ?qc5 ?qc6 ?_)
      case qc1 => exact HP.out.1
      case qc2 =>
        intro j u hj
        exact Go.Lib.cell?_alloc_some _ (HI.out j u hj)
      case qc3 => exact HO.out
      case qc4 => rw [Nat.zero_add]; exact hlm
      case qc5 => rw [Nat.zero_add]; exact hlb
      case qc6 => simp
      intro v' w1 hown hgrow hnil
      go_wp2
      go_ret
      refine ⟨v', rfl, ⟨fun _ _ => trivial, inner, by have h2 := hown; (try simp only [Nat.zero_add, List.nil_append] at h2); exact h2, ?_⟩, ?_⟩
      · exact Reps.imp_ HP.out (fun _ _ hp => hE _ _ _ _ _ _ hp)
      · exact ((Below.refl _ w).alloc (Nat.le_refl _) _).grown hgrow (by simp) (by intro k hk; simp [Value.ownBlock] at hk; omega)
  · rw [if_neg hlen] at h
    cases h


/-! ### impl_copyCracker: function 20 -/
def impl_copyCracker.f (l0_0 : List Int) (l0_1 : List Int) (l0_2 : List (S35)) : Option (List Int × List Int × (List (S35))) := (slices_Clone_int_int.f l0_0).bind fun t227 => ((slices_Clone_int_int.f l0_1).bind fun t230 => ((impl_Pivot_39.f l0_2).bind fun t233 => (some (t227, t230, t233))))
def impl_copyCracker.T1 : Bool × List (List Nat × List Nat) := (true, [([], []), ([0], [0]), ([1], [1]), ([], []), ([3], [3]), ([4, 2], [4]), ([], []), ([6], [6]), ([7, 5], [7]), ([2, 5, 8], [2, 5, 8]), ([9, 8, 0, 1, 2, 3, 4, 5, 6, 7, 8, 9], [9])])
def impl_copyCracker.B1 : List Nat := [0, 1, 3, 0, 8, 31, 0, 64, 255, 511, 1023]
theorem impl_copyCracker.tab1 : rtab .any (opsOf Try.f20 1) = impl_copyCracker.T1 := by kernel_rfl
theorem impl_copyCracker.bits1 : waitsOk impl_copyCracker.T1.2 impl_copyCracker.B1 = true := by kernel_rfl
set_option maxHeartbeats 8000000 in
set_option maxRecDepth 100000 in
theorem impl_copyCracker.calls (A0_0 : Option Addr) (c0_0 : Nat) (l0_0 : List Int) (A0_1 : Option Addr) (c0_1 : Nat) (l0_1 : List Int) (A0_2 : Option Addr) (c0_2 : Nat) (l0_2 : List (S35)) (r1 : List Int) (r2 : List Int) (r3 : List (S35)) (w : World) (hr0_0 : Kd.C (Kd.int .i64) w A0_0 l0_0.length l0_0) (hc0_0 : l0_0.length ≤ c0_0) (hr0_1 : Kd.C (Kd.int .i64) w A0_1 l0_1.length l0_1) (hc0_1 : l0_1.length ≤ c0_1) (hr0_2 : Kd.C k35 w A0_2 l0_2.length l0_2) (hc0_2 : l0_2.length ≤ c0_2) (h : impl_copyCracker.f l0_0 l0_1 l0_2 = some (r1, r2, r3)) :
    Calls Try.prog 20 #[.agg #[.slice A0_0 l0_0.length c0_0, .slice A0_1 l0_1.length c0_1, .slice A0_2 l0_2.length c0_2]] w fun e w' => ∃ v0_ v1_ v2_ : Value, e = .returned (.agg #[v0_, v1_, v2_]) ∧ Kd.R (Kd.int .i64) 3 w' w.heap.size (fun k_ => some k_ ≠ (v1_ : Value).ownBlock) v0_ r1 ∧ Kd.R (Kd.int .i64) 3 w' w.heap.size (fun k_ => some k_ ≠ (v0_ : Value).ownBlock) v1_ r2 ∧ Kd.R k35 35 w' w.heap.size (fun _ => True) v2_ r3 ∧ Below w.heap.size w w' := by
  have hu31 := Try.underlying31
  have HR0_0 := Aside0.mk hr0_0
  have HC0_0 := Aside0.mk hc0_0
  clear hr0_0 hc0_0
  have HR0_1 := Aside0.mk hr0_1
  have HC0_1 := Aside0.mk hc0_1
  clear hr0_1 hc0_1
  have HR0_2 := Aside0.mk hr0_2
  have HC0_2 := Aside0.mk hc0_2
  clear hr0_2 hc0_2
  have HB := Aside0.mk (Below.refl w.heap.size w)
  have H : ((slices_Clone_int_int.f l0_0).bind fun t227 => ((slices_Clone_int_int.f l0_1).bind fun t230 => ((impl_Pivot_39.f l0_2).bind fun t233 => (some (t227, t230, t233))))) = some (r1, r2, r3) := h
  clear h
  revert H; refine bo ?_; rintro t227 A2 H
  revert H; refine bo ?_; rintro t230 A3 H
  revert H; refine bo ?_; rintro t233 A4 H
  simp only [Option.some.injEq, Prod.mk.injEq] at H
  obtain ⟨rfl, rfl, rfl⟩ := H
  go_enter Try.func20, Try.ntmps20
  try go_wp2_with (first | ((with_reducible refine gate_dst (N := 1) rfl ?_); refine bx 1 #[.slice A0_0 l0_0.length c0_0, .slice A0_1 l0_1.length c0_1, .slice A0_2 l0_2.length c0_2] 31 ?_; intro gb225 hg w5 hbox hb; have BK225 := mk hbox; have GW225 := wg hg; have GE225 := wg hg; replace HB := wh hb; clear hb hbox hg) | ((with_reducible refine gate_dst (N := 2) rfl ?_); refine bx 2 #[.slice none 0 0, .slice none 0 0, .slice none 0 0] 31 ?_; intro gb226 hg w6 hbox hb; have BK226 := mk hbox; have GW226 := wg hg; have GE226 := wg hg; replace HB := wh hb; have NB225_226 := nl BK225 hg; have NB226_225 := nr BK225 hg; replace BK225 := wb BK225 hb; clear hb hbox hg))
  replace BK225 := wd BK225
  replace BK226 := wd BK226
  replace HB := mk (below_drew1 HB.out)
  refine start_ (n := 11) (S := fun w' => w'.cell? ⟨gb225, 0, none⟩ = some (.slice A0_0 l0_0.length c0_0) ∧ w'.cell? ⟨gb225, 1, none⟩ = some (.slice A0_1 l0_1.length c0_1) ∧ w'.cell? ⟨gb225, 2, none⟩ = some (.slice A0_2 l0_2.length c0_2)) (ds := []) #[false, false, false, false, false, false, false, false, false, false, false] (by kernel_rfl) rfl rfl ⟨bc BK225 0, bc BK225 1, bc BK225 2⟩ (fun hHeld => ?_); refine with_tabW impl_copyCracker.tab1 impl_copyCracker.bits1 (fun HT_ HW_ => ?_)
  generalize w6.drew = w7 at BK225 BK226 HB hHeld ⊢
  refine pu 0 3 (tf 1 10) ?_
  refine pu 3 6 #[T_,F_,F_,T_,F_,F_,F_,F_,F_,F_,F_] ?_
  refine pu 6 9 #[T_,F_,F_,T_,F_,F_,T_,F_,F_,F_,F_] ?_
  refine tk 1 4 #[T_,T_,F_,T_,F_,F_,T_,F_,F_,F_,F_] hHeld ?_
  refine tk 4 7 #[T_,T_,F_,T_,T_,F_,T_,F_,F_,F_,F_] hHeld ?_
  refine tk 7 10 #[T_,T_,F_,T_,T_,F_,T_,T_,F_,F_,F_] hHeld ?_
  refine on 2 5 #[T_,T_,T_,T_,T_,F_,T_,T_,F_,F_,F_] (fun K hK => ?_)
  refine gs Try.func38 #[.slice A0_0 l0_0.length c0_0] ?_
  with_reducible refine (slices_Clone_int_int.calls _ _ l0_0 t227 _ ?side1 ?side2 A2.out).mono ?_
  (case side1 => exact uc (Kd.C_below HR0_0.out HB.out))
  (case side2 => exact HC0_0.out)
  rintro e w8 ⟨v228, rfl, ho0, hb⟩
  refine ⟨_, rfl, ?_⟩
  have HO229 := mk (Kd.R_lower ho0 (below_size bl))
  replace BK225 := wb BK225 hb
  replace BK226 := wb BK226 hb
  replace HB := wh hb
  (try clear hb)
  (try clear hb2)
  (try clear hk)
  (try clear hi)
  (try clear ho0)
  refine hK.out _ _ ⟨bc BK225 0, bc BK225 1, bc BK225 2⟩ (fun hHeld => ?_)
  clear hK K
  refine nm 5 ?_
  refine on 5 8 (tf 8 3) (fun K hK => ?_)
  refine gs Try.func38 #[.slice A0_1 l0_1.length c0_1] ?_
  with_reducible refine (slices_Clone_int_int.calls _ _ l0_1 t230 _ ?side1 ?side2 A3.out).mono ?_
  (case side1 => exact uc (Kd.C_below HR0_1.out HB.out))
  (case side2 => exact HC0_1.out)
  rintro e w9 ⟨v231, rfl, ho0, hb⟩
  refine ⟨_, rfl, ?_⟩
  have HO232 := mk (Kd.R_lower (Kd.R_new' ho0 (Kd.R_lt (up HO229.out))) (below_size bl))
  replace HO229 := mk (Kd.R_elder' (up HO229.out) (Kd.R_base ho0) hb)
  replace BK225 := wb BK225 hb
  replace BK226 := wb BK226 hb
  replace HB := wh hb
  (try clear hb)
  (try clear hb2)
  (try clear hk)
  (try clear hi)
  (try clear ho0)
  refine hK.out _ _ ⟨bc BK225 0, bc BK225 1, bc BK225 2⟩ (fun hHeld => ?_)
  clear hK K
  refine nm 8 ?_
  refine on 8 11 (tf 9 2) (fun K hK => ?_)
  refine gs Try.func39 #[.slice A0_2 l0_2.length c0_2] ?_
  with_reducible refine (impl_Pivot_39.calls _ _ l0_2 t233 _ ?side1 ?side2 A4.out).mono ?_
  (case side1 => exact uc (Kd.C_below HR0_2.out HB.out))
  (case side2 => exact HC0_2.out)
  rintro e w10 ⟨v234, rfl, ho0, hb⟩
  refine ⟨_, rfl, ?_⟩
  replace HO229 := mk (Kd.R_below (up HO229.out) hb)
  replace HO232 := mk (Kd.R_below (up HO232.out) hb)
  have HO235 := mk (Kd.R_lower ho0 (below_size bl))
  replace BK225 := wb BK225 hb
  replace BK226 := wb BK226 hb
  replace HB := wh hb
  (try clear hb)
  (try clear hb2)
  (try clear hk)
  (try clear hi)
  (try clear ho0)
  obtain ⟨Ao11, co11, eo11⟩ := Kd.R_slice HO235.out
  (first | subst eo11 | (injection eo11 with f1_ f2_ f3_; have f4_ := f1_.symm; have f5_ := f3_.symm; clear f1_ f2_ f3_; subst f4_; subst f5_))
  obtain ⟨Ao12, co12, eo12⟩ := Kd.R_slice HO232.out
  (first | subst eo12 | (injection eo12 with f1_ f2_ f3_; have f4_ := f1_.symm; have f5_ := f3_.symm; clear f1_ f2_ f3_; subst f4_; subst f5_))
  obtain ⟨Ao13, co13, eo13⟩ := Kd.R_slice HO229.out
  (first | subst eo13 | (injection eo13 with f1_ f2_ f3_; have f4_ := f1_.symm; have f5_ := f3_.symm; clear f1_ f2_ f3_; subst f4_; subst f5_))
  refine hK.out _ _ ⟨bc BK225 0, bc BK225 1, bc BK225 2⟩ (fun hHeld => ?_)
  clear hK K
  refine nm 11 ?_
  refine pu 9 12 (tf 10 1) ?_
  refine one_ (i := 10) (N := none) #[true, true, true, true, true, true, true, true, true, true, true] rfl rfl (one_of HT_.out (by kernel_rfl)) (by decide) (fun K hK => ?_)
  have hs14 : w10.cell? ⟨gb226, 0, none⟩ = some (.slice none 0 0) := (blk_cell BK226.out 0).trans rfl
  have hfs14 := blk_frozen BK226.out 0
  have hns14_0 := NB225_226.out
  have hms14_0 := NB226_225.out
  have hs15 : w10.cell? ⟨gb226, 1, none⟩ = some (.slice none 0 0) := (blk_cell BK226.out 1).trans rfl
  have hfs15 := blk_frozen BK226.out 1
  have hns15_0 := NB225_226.out
  have hms15_0 := NB226_225.out
  have hs16 : w10.cell? ⟨gb226, 2, none⟩ = some (.slice none 0 0) := (blk_cell BK226.out 2).trans rfl
  have hfs16 := blk_frozen BK226.out 2
  have hns16_0 := NB225_226.out
  have hms16_0 := NB226_225.out
  refine skip_ (w1 := ?_) (by rfl) rfl ?_ ?_
  rotate_left
  · go_simp
    rfl
  refine hK.out _ _ ⟨((cell_far (p := ⟨gb226, _, none⟩) NB225_226.out _).trans (((cell_far (p := ⟨gb226, _, none⟩) NB225_226.out _).trans (((cell_far (p := ⟨gb226, _, none⟩) NB225_226.out _).trans (hHeld.1)))))), ((cell_far (p := ⟨gb226, _, none⟩) NB225_226.out _).trans (((cell_far (p := ⟨gb226, _, none⟩) NB225_226.out _).trans (((cell_far (p := ⟨gb226, _, none⟩) NB225_226.out _).trans (hHeld.2.1)))))), ((cell_far (p := ⟨gb226, _, none⟩) NB225_226.out _).trans (((cell_far (p := ⟨gb226, _, none⟩) NB225_226.out _).trans (((cell_far (p := ⟨gb226, _, none⟩) NB225_226.out _).trans (hHeld.2.2))))))⟩ (fun hHeld => ?_)
  clear hK K
  refine done_ (done_of HT_.out (by kernel_rfl)) ?_
  try go_wp2
  refine bodyPost_ret (results_cell_row rfl _ _ gb226 31 #[.slice Ao13 t227.length co13, .slice Ao12 t230.length co12, .slice Ao11 t233.length co11] (0, 0) _ rfl bq Try.underlying31 rfl (by kernel_rfl)) rfl ?_
  exact ⟨_, _, _, by first | rfl | (simp [errW_none, errW_some] <;> rfl) | (simp [*, errW_none, errW_some] <;> rfl), (by exact rm (rs1 HO229 BK226)), (by exact rm (rs1 HO232 BK226)), (by exact rm (rs1 HO235 BK226)), bl⟩

/-! ### impl_Pivot_31: function 31 -/
set_option maxHeartbeats 2000000 in
set_option maxRecDepth 100000 in
/-- The predicate 'lies behind this value', as the machine's closure gives it. -/
theorem impl_Pivot_31.pred (B : Nat) (rw_ y0 y1 : Int) (W : World) (h1 : W.cell? ⟨B, 0, none⟩ = some (.int .i64 rw_)) :
    Calls Try.prog 32 #[.agg #[.int .i64 y0, .int .i64 y1], .pointer (some ⟨B, 0, none⟩)] W fun e w' => e = .returned (.bool (decide (rw_ < y0))) ∧ Below W.heap.size W w' := by
  have hu := Try.underlying35
  have hlt : B < W.heap.size := World.block_lt_of_cell? W _ h1
  have h2 : ∀ o, (W.alloc o).cell? ⟨B, 0, none⟩ = some (.int .i64 rw_) := fun o => (World.cell?_alloc_past o B 0 hlt).trans h1
  clear h1 hlt
  go_enter Try.func32, Try.ntmps32
  go_wp2
  go_ret
  exact ⟨rfl, (Below.refl _ _).alloc (Nat.le_refl _) _⟩
set_option maxHeartbeats 2000000 in
set_option maxRecDepth 100000 in
theorem impl_Pivot_31.idx (A0 : Option Addr) (c0 : Nat) (l0 : List S35) (B : Nat) (rw_ : Int) (w : World) (hr0 : Kd.C k35 w A0 l0.length l0) (h1 : w.cell? ⟨B, 0, none⟩ = some (.int .i64 rw_)) :
    Calls Try.prog 31 #[.slice A0 l0.length c0, .func (.func 32) #[] #[.pointer (some ⟨B, 0, none⟩)]] w fun e w' => e = .returned (.int .i64 (Giv.fidx (fun x => decide (rw_ < x.f0)) l0)) ∧ Below w.heap.size w w' := by
  have eg := Go.Proofs.enters_of Try.func32 (by kernel_rfl) rfl
  have hu := Try.underlying35
  have hn : l0.length ≤ 9223372036854775807 := hr0.2.1
  have HR := Aside0.mk hr0
  clear hr0
  have C1 := Aside0.mk h1
  clear h1
  go_enter Try.func31, Try.ntmps31
  go_wp2
  go_loopg [5, 8] l0.length (fun gg _ s8 wr => ∃ kk : Nat, kk ≤ l0.length ∧ l0.length - kk ≤ gg ∧ s8 = .int .i64 kk ∧ Aside0 (Below w.heap.size w wr) ∧ Aside0 (∀ j x, j < kk → l0[j]? = some x → (decide (rw_ < x.f0)) = false))
  case atStart => exact ⟨0, Nat.zero_le _, by omega, rfl, ⟨Below.refl _ _⟩, ⟨fun j x hj => absurd hj (Nat.not_lt_zero _)⟩⟩
  case round =>
    obtain ⟨kk, hkk, hg, rfl, HB, AH⟩ := hrel
    by_cases hlt : kk < l0.length
    · have hltz : (kk : Int) < (l0.length : Int) := by omega
      obtain ⟨ad, e, hx0, hx1⟩ := at_T35 HR.out (kk : Int) (by omega) (by omega)
      subst e
      obtain ⟨y, hy⟩ : ∃ y, l0[kk]? = some y := ⟨_, List.getElem?_eq_getElem hlt⟩
      have hy2 : rd_T35 l0 (kk : Int) = y := by unfold rd_T35; rw [List.getD_eq_getElem?_getD, Int.toNat_natCast, hy]; rfl
      replace hx0 := (HB.out.cell (World.block_lt_of_cell? w _ hx0)).trans hx0
      replace hx1 := (HB.out.cell (World.block_lt_of_cell? w _ hx1)).trans hx1
      rw [hy2, Int.toNat_natCast] at hx0 hx1
      have HY := Aside0.mk hy
      clear hy hy2
      have hcell := (HB.out.cell (World.block_lt_of_cell? w _ C1.out)).trans C1.out
      have hcall := impl_Pivot_31.pred B rw_ y.f0 y.f1 wr hcell
      clear hcell
      cases hq : (decide (rw_ < y.f0)) with
      | true =>
        rw [hq] at hcall
        have HQ := Aside0.mk hq
        clear hq
        go_wp2_with fail
        refine hcall.mono ?_
        rintro e w' ⟨rfl, hb'⟩
        go_wp2_with fail
        go_ret
        refine ⟨?_, below_then HB.out HB.out.size hb'⟩
        rw [Giv.fidx_hit HY.out HQ.out AH.out]
        rfl
      | false =>
        rw [hq] at hcall
        have HQ := Aside0.mk hq
        clear hq
        go_wp2_with fail
        refine hcall.mono ?_
        rintro e w' ⟨rfl, hb'⟩
        go_wp2_with fail
        go_roundg (l0.length - (kk + 1))
        case measure => omega
        case rel =>
          refine ⟨kk + 1, by omega, by omega, by go_num, ⟨below_then HB.out HB.out.size hb'⟩, ⟨fun j x hj hx => ?_⟩⟩
          by_cases e : j = kk
          · subst e
            rw [HY.out] at hx
            obtain rfl := Option.some.inj hx
            exact HQ.out
          · exact AH.out j x (by omega) hx
    · have hltz : ¬ (kk : Int) < (l0.length : Int) := by omega
      have hkn := Aside0.mk (show kk = l0.length by omega)
      go_wp2
      go_ret
      refine ⟨?_, HB.out⟩
      have hm := AH.out
      rw [hkn.out] at hm
      rw [Giv.fidx_miss hm]
      rfl
def impl_Pivot_31.f (l0 : List (S35)) (a1 : Int) : Option (Int) := some (Giv.fidx (fun x => decide (a1 < x.f0)) l0)
theorem impl_Pivot_31.callsF (A0 : Option Addr) (c0 : Nat) (l0 : List S35) (a1 r : Int) (B : Nat) (w : World) (hr0 : Kd.C k35 w A0 l0.length l0) (h1 : w.cell? ⟨B, 0, none⟩ = some (.int .i64 a1)) (h : impl_Pivot_31.f l0 a1 = some r) :
    Calls Try.prog 31 #[.slice A0 l0.length c0, .func (.func 32) #[] #[.pointer (some ⟨B, 0, none⟩)]] w fun e w' => e = .returned (.int .i64 r) ∧ Below w.heap.size w w' := by
  unfold impl_Pivot_31.f at h
  obtain rfl := Option.some.inj h
  exact impl_Pivot_31.idx A0 c0 l0 B a1 w hr0 h1
theorem impl_Pivot_31.in_ {l0 : List S35} {a1 r : Int} (h : impl_Pivot_31.f l0 a1 = some r) (hr : decide (r < 0) = false) : r = ((r.toNat : Nat) : Int) ∧ r.toNat ≤ l0.length := by
  unfold impl_Pivot_31.f at h
  have h := Option.some.inj h
  have hr := of_decide_eq_false hr
  unfold Giv.fidx at h
  cases hc : l0.findIdx? (fun x => decide (a1 < x.f0)) with
  | none => rw [hc] at h; dsimp only at h; omega
  | some i =>
    rw [hc] at h
    dsimp only at h
    have := (List.findIdx?_eq_some_iff_getElem.1 hc).1
    omega


/-! ### impl_Pivot_33: function 33 -/
def impl_Pivot_33.f (l0 : List (S35)) (a1 : Int) (l2 : List (S35)) : Option ((List (S35))) := none


end Go.Proofs.Ytmliclopdbkbeaa.PFnExactAddPivot
