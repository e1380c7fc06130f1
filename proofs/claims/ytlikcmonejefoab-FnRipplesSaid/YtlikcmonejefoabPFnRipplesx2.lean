-- printed by a program of this session, a turned copy of the print of the kit
import Derived.Test.YtlikcmonejefoabSr
import Derived.Test.YtlikcmonejefoabPFnRipplesx0
namespace Go.Proofs.Ytlikcmonejefoab.PFnRipples
open Go.RowKit Go.Proofs.YtlikcmonejefoabW.PrintWords Go.Proofs.YtlikcmonejefoabW.PrintLast Go.Proofs.YtlikcmonejefoabW.PrintMore Go.Proofs.Ytlikcmonejefoab.Sq
attribute [local go_sem] max2_int min2_int max_two min_two max_three min_three max_four min_four Giv.cell_twice   -- for this text's walks alone
set_option linter.unusedVariables false
set_option linter.unusedSimpArgs false

/-! ### spec_l1In: function 54 -/
def spec_l1In.f (a0 : Int) (a1 : Int) (a2 : Int) : Option (Bool) := if a0 ≥ a1 then (some (decide (a0 ≤ a2))) else (some false)
set_option maxHeartbeats 8000000 in
set_option maxRecDepth 100000 in
theorem spec_l1In.calls (a0 : Int) (a1 : Int) (a2 : Int) (r : Bool) (w : World) (h : spec_l1In.f a0 a1 a2 = some r) :
  Calls Try.prog 54 #[.int .i64 a0, .int .i64 a1, .int .i64 a2] w fun e w' => e = .returned (.bool r) ∧ Drawn0 w w' := by
 have H : (if a0 ≥ a1 then (some (decide (a0 ≤ a2))) else (some false)) = some r := h
 clear h
 revert H; refine ci (fun c4 H => ?_) fun c4 H => ?_
 ·have g1 : decide (a1 ≤ a0) = true := decide_eq_true c4
  clear c4
  obtain rfl := Option.some.inj H
  go_enter Try.func54, Try.ntmps54
  go_wp2
  go_ret
  exact ⟨by first | rfl | (simp; done) | (simp [*]; done), by repeat (first | exact Drawn0.refl _ | apply Drawn0.step)⟩
 ·have g1 : decide (a1 ≤ a0) = false := decide_eq_false c4
  clear c4
  obtain rfl := Option.some.inj H
  go_enter Try.func54, Try.ntmps54
  go_wp2
  go_ret
  exact ⟨by first | rfl | (simp; done) | (simp [*]; done), by repeat (first | exact Drawn0.refl _ | apply Drawn0.step)⟩

/-! ### spec_AreValues: function 53 -/
def spec_AreValues.l0 : Nat → List Int → Int → Option (Bool)
 | 0, _, _ => none
 | k + 1, x0, x3 => if x3 < (x0.length : Int) then (if 0 ≤ x3 then ((spec_l1In.f (rd x0 x3) (-999) 999).bind fun s0 => (if s0 = true then (spec_AreValues.l0 k x0 (wrap64 (x3 + 1))) else (some false))) else (none)) else (some (decide ((x0.length : Int) ≤ 64)))
def spec_AreValues.f (k : Nat) (l0 : List Int) : Option (Bool) := spec_AreValues.l0 k l0 0
theorem spec_AreValues.mono_l : ∀ k, (∀ y0 y1, LeO (spec_AreValues.l0 k y0 y1) (spec_AreValues.l0 (k + 1) y0 y1))
 | 0 => fun _ _ r h => by simp [spec_AreValues.l0] at h
 | k + 1 => by
  have ih0 := spec_AreValues.mono_l k
  ·intro y0 y1
   unfold spec_AreValues.l0
   exact mo
theorem spec_AreValues.mono : ∀ a0 k, LeO (spec_AreValues.f k a0) (spec_AreValues.f (k + 1) a0) := by
 intro a0 k
 have ih0 := spec_AreValues.mono_l k
 unfold spec_AreValues.f
 exact mo
instance spec_AreValues.mi (a0 k) : LeC (spec_AreValues.f k a0) (spec_AreValues.f (k + 1) a0) := ⟨spec_AreValues.mono a0 k⟩
set_option maxHeartbeats 8000000 in
set_option maxRecDepth 100000 in
theorem spec_AreValues.calls (k : Nat) (A0 : Option Addr) (c0 : Nat) (l0 : List Int) (r : Bool) (w : World) (hr0 : Kd.C (Kd.int .i64) w A0 l0.length l0) (hc0 : l0.length ≤ c0) (h : spec_AreValues.f k l0 = some r) :
  Calls Try.prog 53 #[.slice A0 l0.length c0] w fun e w' => e = .returned (.bool r) ∧ Drawn0 w w' := by
 have HR0 := mk hr0
 have HC0 := mk hc0
 clear hr0 hc0
 have H : (spec_AreValues.l0 k l0 0) = some r := h
 clear h
 have H' := mk H
 clear H
 go_enter Try.func53, Try.ntmps53
 go_wp2
 go_loopg [3] k (fun kq v3 w' => ∃ (d0 : Int), v3 = .int .i64 d0 ∧ Aside0 (spec_AreValues.l0 kq l0 d0 = some r) ∧ Aside0 (kq ≤ k) ∧ Drawn0 w w')
 case atStart => exact ⟨(0), (by first | rfl | (simp; done) | (simp [*]; done)), H', ⟨Nat.le_refl _⟩, by repeat (first | exact Drawn0.refl _ | apply Drawn0.step)⟩
 case round =>
  clear H'
  obtain ⟨d0, rfl, HA, HK1, ⟨m1, rfl⟩⟩ := hrel
  cases gk with
  | zero => exact absurd HA.out (by simp [spec_AreValues.l0])
  | succ k1 =>
   have H := HA.out
   clear HA
   simp only [spec_AreValues.l0] at H
   revert H; refine ci (fun c2 H => ?_) fun c2 H => ?_
   ·have s1 : decide (d0 < (l0.length : Int)) = true := decide_eq_true c2
    clear c2
    revert H; refine ca fun c3 H => ?_
    have j1 : decide (0 ≤ d0) = true := decide_eq_true c3
    clear c3
    revert H; refine bo ?_; rintro s0 A4 H
    by_cases c5 : s0 = true
    ·subst c5
     rw [if_pos rfl] at H
     have H' := mk H
     clear H
     have m0 : 0 ≤ (d0 : Int) := dt
     have j0 : d0 < (l0.length : Int) := dt
     obtain ⟨d1, z0, q0⟩ := Kd.at_int HR0.out d0 m0 j0
     cases z0
     replace m0 := eq_true m0
     replace j0 := eq_true j0
     go_wp2_with (first | ((with_reducible refine gate_callee (f := 54) rfl ?_); refine gl (some 14) rfl Try.func54 #[.int .i64 (rd l0 d0), .int .i64 (-999), .int .i64 999] ?_; (with_reducible refine (spec_l1In.calls (rd l0 d0) (-999) 999 true _ A4.out).mono ?_); rintro e w' ⟨rfl, ⟨nd, rfl⟩⟩; refine ⟨_, rfl, ?_⟩))
     go_roundg k1
     case measure => have := HK1.out; omega
     case rel => exact ⟨(wrap64 (d0 + 1)), (by first | rfl | (simp; done) | (simp [*]; done)), H', ⟨by have := HK1.out; omega⟩, by repeat (first | exact Drawn0.refl _ | apply Drawn0.step)⟩
    ·replace c5 := Bool.eq_false_iff.mpr c5
     subst c5
     rw [if_neg nf] at H
     obtain rfl := Option.some.inj H
     have m0 : 0 ≤ (d0 : Int) := dt
     have j0 : d0 < (l0.length : Int) := dt
     obtain ⟨d1, z0, q0⟩ := Kd.at_int HR0.out d0 m0 j0
     cases z0
     replace m0 := eq_true m0
     replace j0 := eq_true j0
     go_wp2_with (first | ((with_reducible refine gate_callee (f := 54) rfl ?_); refine gl (some 14) rfl Try.func54 #[.int .i64 (rd l0 d0), .int .i64 (-999), .int .i64 999] ?_; (with_reducible refine (spec_l1In.calls (rd l0 d0) (-999) 999 false _ A4.out).mono ?_); rintro e w' ⟨rfl, ⟨nd, rfl⟩⟩; refine ⟨_, rfl, ?_⟩))
     go_ret
     exact ⟨by first | rfl | (simp; done) | (simp [*]; done), by repeat (first | exact Drawn0.refl _ | apply Drawn0.step)⟩
   ·have s1 : decide (d0 < (l0.length : Int)) = false := decide_eq_false c2
    clear c2
    obtain rfl := Option.some.inj H
    go_wp2
    go_ret
    exact ⟨by first | rfl | (simp; done) | (simp [*]; done), by repeat (first | exact Drawn0.refl _ | apply Drawn0.step)⟩

/-! ### spec_l4Has: function 55 -/
def spec_l4Has.l0 : Nat → List Int → Int → Int → Option (Bool)
 | 0, _, _, _ => none
 | k + 1, x0, x1, x5 => if x5 < (x0.length : Int) then (if 0 ≤ x5 then (if (rd x0 x5) = x1 then (some true) else (spec_l4Has.l0 k x0 x1 (wrap64 (x5 + 1)))) else (none)) else (some false)
def spec_l4Has.f (k : Nat) (l0 : List Int) (a1 : Int) : Option (Bool) := spec_l4Has.l0 k l0 a1 0
theorem spec_l4Has.mono_l : ∀ k, (∀ y0 y1 y2, LeO (spec_l4Has.l0 k y0 y1 y2) (spec_l4Has.l0 (k + 1) y0 y1 y2))
 | 0 => fun _ _ _ r h => by simp [spec_l4Has.l0] at h
 | k + 1 => by
  have ih0 := spec_l4Has.mono_l k
  ·intro y0 y1 y2
   unfold spec_l4Has.l0
   exact mo
theorem spec_l4Has.mono : ∀ a0 a1 k, LeO (spec_l4Has.f k a0 a1) (spec_l4Has.f (k + 1) a0 a1) := by
 intro a0 a1 k
 have ih0 := spec_l4Has.mono_l k
 unfold spec_l4Has.f
 exact mo
instance spec_l4Has.mi (a0 a1 k) : LeC (spec_l4Has.f k a0 a1) (spec_l4Has.f (k + 1) a0 a1) := ⟨spec_l4Has.mono a0 a1 k⟩
set_option maxHeartbeats 8000000 in
set_option maxRecDepth 100000 in
theorem spec_l4Has.calls (k : Nat) (A0 : Option Addr) (c0 : Nat) (l0 : List Int) (a1 : Int) (r : Bool) (w : World) (hr0 : Kd.C (Kd.int .i64) w A0 l0.length l0) (hc0 : l0.length ≤ c0) (h : spec_l4Has.f k l0 a1 = some r) :
  Calls Try.prog 55 #[.slice A0 l0.length c0, .int .i64 a1] w fun e w' => e = .returned (.bool r) ∧ Drawn0 w w' := by
 have HR0 := mk hr0
 have HC0 := mk hc0
 clear hr0 hc0
 have H : (spec_l4Has.l0 k l0 a1 0) = some r := h
 clear h
 have H' := mk H
 clear H
 go_enter Try.func55, Try.ntmps55
 go_wp2
 go_loopg [5] k (fun kq v5 w' => ∃ (b0 : Int), v5 = .int .i64 b0 ∧ Aside0 (spec_l4Has.l0 kq l0 a1 b0 = some r) ∧ Aside0 (kq ≤ k) ∧ Drawn0 w w')
 case atStart => exact ⟨(0), (by first | rfl | (simp; done) | (simp [*]; done)), H', ⟨Nat.le_refl _⟩, by repeat (first | exact Drawn0.refl _ | apply Drawn0.step)⟩
 case round =>
  clear H'
  try clear p2
  obtain ⟨b0, rfl, HA, HK1, ⟨m1, rfl⟩⟩ := hrel
  cases gk with
  | zero => exact absurd HA.out (by simp [spec_l4Has.l0])
  | succ k1 =>
   have H := HA.out
   clear HA
   simp only [spec_l4Has.l0] at H
   revert H; refine ci (fun c3 H => ?_) fun c3 H => ?_
   ·have j1 : decide (b0 < (l0.length : Int)) = true := decide_eq_true c3
    clear c3
    revert H; refine ca fun c4 H => ?_
    have g1 : decide (0 ≤ b0) = true := decide_eq_true c4
    clear c4
    revert H; refine ci (fun c5 H => ?_) fun c5 H => ?_
    ·have q1 : ((rd l0 b0) == a1) = true := beq_iff_eq.mpr c5
     have o1 : ((rd l0 b0) != a1) = false := bne_eq_false_iff_eq.mpr c5
     clear c5
     obtain rfl := Option.some.inj H
     have k0 : 0 ≤ (b0 : Int) := dt
     have g0 : b0 < (l0.length : Int) := dt
     obtain ⟨b1, v0, o0⟩ := Kd.at_int HR0.out b0 k0 g0
     cases v0
     replace k0 := eq_true k0
     replace g0 := eq_true g0
     go_wp2
     go_ret
     exact ⟨by first | rfl | (simp; done) | (simp [*]; done), by repeat (first | exact Drawn0.refl _ | apply Drawn0.step)⟩
    ·have q1 : ((rd l0 b0) == a1) = false := beq_eq_false_iff_ne.mpr c5
     have o1 : ((rd l0 b0) != a1) = true := bne_iff_ne.mpr c5
     have H' := mk H
     clear H
     have k0 : 0 ≤ (b0 : Int) := dt
     have g0 : b0 < (l0.length : Int) := dt
     obtain ⟨b1, v0, o0⟩ := Kd.at_int HR0.out b0 k0 g0
     cases v0
     replace k0 := eq_true k0
     replace g0 := eq_true g0
     go_wp2
     go_roundg k1
     case measure => have := HK1.out; omega
     case rel => exact ⟨(wrap64 (b0 + 1)), (by first | rfl | (simp; done) | (simp [*]; done)), H', ⟨by have := HK1.out; omega⟩, by repeat (first | exact Drawn0.refl _ | apply Drawn0.step)⟩
   ·have j1 : decide (b0 < (l0.length : Int)) = false := decide_eq_false c3
    clear c3
    obtain rfl := Option.some.inj H
    go_wp2
    go_ret
    exact ⟨by first | rfl | (simp; done) | (simp [*]; done), by repeat (first | exact Drawn0.refl _ | apply Drawn0.step)⟩

end Go.Proofs.Ytlikcmonejefoab.PFnRipples
