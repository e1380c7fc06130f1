-- printed by a program of this session, a turned copy of the print of the kit
import Derived.Test.YtlikcmonejefoabSr
import Derived.Test.YtlikcmonejefoabPFnRipplesx0
namespace Go.Proofs.Ytlikcmonejefoab.PFnRipples
open Go.RowKit Go.Proofs.YtlikcmonejefoabW.PrintWords Go.Proofs.YtlikcmonejefoabW.PrintLast Go.Proofs.YtlikcmonejefoabW.PrintMore Go.Proofs.Ytlikcmonejefoab.Sq
attribute [local go_sem] max2_int min2_int max_two min_two max_three min_three max_four min_four Giv.cell_twice   -- for this text's walks alone
set_option linter.unusedVariables false
set_option linter.unusedSimpArgs false

/-! ### laws_big: function 16 -/
def laws_big.f (l0 : List Int) : Option (Bool) := some (decide ((l0.length : Int) > 1048576))
set_option maxHeartbeats 8000000 in
set_option maxRecDepth 100000 in
theorem laws_big.calls (A0 : Option Addr) (c0 : Nat) (l0 : List Int) (r : Bool) (w : World) (hr0 : Kd.C (Kd.int .u8) w A0 l0.length l0) (hc0 : l0.length ≤ c0) (h : laws_big.f l0 = some r) :
  Calls Try.prog 16 #[.slice A0 l0.length c0] w fun e w' => e = .returned (.bool r) ∧ Drawn0 w w' := by
 have HR0 := mk hr0
 have HC0 := mk hc0
 clear hr0 hc0
 have H : (some (decide ((l0.length : Int) > 1048576))) = some r := h
 clear h
 obtain rfl := Option.some.inj H
 go_enter Try.func16, Try.ntmps16
 go_wp2
 go_ret
 exact ⟨by first | rfl | (simp; done) | (simp [*]; done), by repeat (first | exact Drawn0.refl _ | apply Drawn0.step)⟩

/-- A state of type 80 at block g of W; what its slices lead to came in by w0. -/
def IsS80 (w0 W : World) (g : Nat) (f0 : List Int) (f1 : Int) (f2 : Int) : Prop := ∃ A0 c0, W.heap[g]? = some (.cells #[.slice A0 f0.length c0, .int .i64 f1, .int .i64 f2] 80 (0, 0)) ∧ w0.heap.size ≤ g ∧ Kd.C (Kd.int .u8) w0 A0 f0.length f0
theorem IsS80.grown {w0 W : World} {g : Nat} {f0 : List Int} {f1 : Int} {f2 : Int} {W1 : World} {row : Option Nat} (h : IsS80 w0 W g f0 f1 f2) (hw : W.grownBy W1 row) (hne : some g ≠ row) : IsS80 w0 W1 g f0 f1 f2 := by
 obtain ⟨A0, c0, hb, hg, hr0⟩ := h
 exact ⟨A0, c0, blk_grown hb hw hne, hg, hr0⟩
theorem IsS80.own_neN {w0 W : World} {g : Nat} {f0 : List Int} {f1 : Int} {f2 : Int} {α : Type} {d : Kd α} {e : Nat} {base : Nat} {ok : Nat → Prop} {v : Value} {xs : List α} (h : IsS80 w0 W g f0 f1 f2) (ho : Kd.N d e W base ok v xs) (ht : e ≠ 80) : some g ≠ v.ownBlock := by
 obtain ⟨A0, c0, hb, hg, hr0⟩ := h
 exact Kd.N_ne ho hb ht
theorem IsS80.fresh {w0 W : World} {g : Nat} {f0 : List Int} {f1 : Int} {f2 : Int} (h : IsS80 w0 W g f0 f1 f2) : ∀ k, W.heap.size ≤ k → k ≠ g := by
 obtain ⟨A0, c0, hb, hg, hr0⟩ := h
 exact Kd.freshB hb
theorem IsS80.kept {w0 W : World} {g : Nat} {f0 : List Int} {f1 : Int} {f2 : Int} {W1 : World} {S : Nat → Prop} (h : IsS80 w0 W g f0 f1 f2) (hk : Kept W W1 S) (hne : ¬ S g) : IsS80 w0 W1 g f0 f1 f2 := by
 obtain ⟨A0, c0, hb, hg, hr0⟩ := h
 exact ⟨A0, c0, blk_kept hb hk hne, hg, hr0⟩
theorem IsS80.below {w0 W : World} {g : Nat} {f0 : List Int} {f1 : Int} {f2 : Int} {W1 : World} (h : IsS80 w0 W g f0 f1 f2) (hw : Below W.heap.size W W1) : IsS80 w0 W1 g f0 f1 f2 := h.grown (grown_of_below hw none) (by simp)
theorem IsS80.alloc {w0 W : World} {g : Nat} {f0 : List Int} {f1 : Int} {f2 : Int} (h : IsS80 w0 W g f0 f1 f2) (o : Obj) : IsS80 w0 (W.alloc o) g f0 f1 f2 := h.below (below_alloc (Below.refl _ _) o)
theorem IsS80.drewN {w0 W : World} {g : Nat} {f0 : List Int} {f1 : Int} {f2 : Int} (h : IsS80 w0 W g f0 f1 f2) (m : Nat) : IsS80 w0 (W.drewN m) g f0 f1 f2 := h
theorem IsS80.drew {w0 W : World} {g : Nat} {f0 : List Int} {f1 : Int} {f2 : Int} (h : IsS80 w0 W g f0 f1 f2) : IsS80 w0 W.drew g f0 f1 f2 := h
theorem IsS80.at_ {w0 W : World} {g : Nat} {f0 : List Int} {f1 : Int} {f2 : Int} {w' : World} {m : Nat} (hq : W.drewN m = w') (h : IsS80 w0 W g f0 f1 f2) : IsS80 w0 w' g f0 f1 f2 := by subst hq; exact IsS80.drewN h m
theorem IsS80.apart {w0 W : World} {g : Nat} {f0 : List Int} {f1 : Int} {f2 : Int} {α : Type} {d : Kd α} {e : Nat} {base : Nat} {ok : Nat → Prop} {v : Value} {xs : List α} (h : IsS80 w0 W g f0 f1 f2) (ho : d.R e W base ok v xs) (ht : ∀ q, q ∈ e :: d.E → q ≠ 80) : d.R e W base (fun k => ok k ∧ k ≠ g) v xs := by
 obtain ⟨A0, c0, hb, hg, hr0⟩ := h
 exact Kd.R_types ho hb ht
theorem IsS80.own_ne {w0 W : World} {g : Nat} {f0 : List Int} {f1 : Int} {f2 : Int} {α : Type} {d : Kd α} {e : Nat} {base : Nat} {ok : Nat → Prop} {v : Value} {xs : List α} (h : IsS80 w0 W g f0 f1 f2) (ho : d.R e W base ok v xs) (ht : e ≠ 80) : some g ≠ v.ownBlock := by
 obtain ⟨A0, c0, hb, hg, hr0⟩ := h
 exact Kd.R_ne ho hb ht
theorem IsS80.apartQ {w0 W : World} {g : Nat} {f0 : List Int} {f1 : Int} {f2 : Int} {α : Type} {d : Kd α} {e : Nat} {base : Nat} {ok : Nat → Prop} {v : Value} {xs : List α} (h : IsS80 w0 W g f0 f1 f2) (ho : d.Q e W base ok v xs) (ht : ∀ q, q ∈ e :: d.E → q ≠ 80) : d.Q e W base (fun k => ok k ∧ k ≠ g) v xs := by
 obtain ⟨A0, c0, hb, hg, hr0⟩ := h
 exact Kd.Q_types ho hb ht
theorem IsS80.own_neQ {w0 W : World} {g : Nat} {f0 : List Int} {f1 : Int} {f2 : Int} {α : Type} {d : Kd α} {e : Nat} {base : Nat} {ok : Nat → Prop} {v : Value} {xs : List α} (h : IsS80 w0 W g f0 f1 f2) (ho : d.Q e W base ok v xs) (ht : e ≠ 80) : some g ≠ v.ownBlock := by
 obtain ⟨A0, c0, hb, hg, hr0⟩ := h
 exact Kd.Q_ne ho hb ht
theorem IsS80.apartS {w0 W : World} {g : Nat} {f0 : List Int} {f1 : Int} {f2 : Int} {α : Type} {d : Kd α} {e : Nat} {base : Nat} {ok : Nat → Prop} {v : Value} {xs : List α} (h : IsS80 w0 W g f0 f1 f2) (ho : d.S e W base ok v xs) (ht : ∀ q, q ∈ e :: d.E → q ≠ 80) : d.S e W base (fun k => ok k ∧ k ≠ g) v xs := by
 obtain ⟨A0, c0, hb, hg, hr0⟩ := h
 exact Kd.S_types ho hb ht
theorem IsS80.own_neS {w0 W : World} {g : Nat} {f0 : List Int} {f1 : Int} {f2 : Int} {α : Type} {d : Kd α} {e : Nat} {base : Nat} {ok : Nat → Prop} {v : Value} {xs : List α} (h : IsS80 w0 W g f0 f1 f2) (ho : d.S e W base ok v xs) (ht : e ≠ 80) : some g ≠ v.ownBlock := by
 obtain ⟨A0, c0, hb, hg, hr0⟩ := h
 exact Kd.S_ne ho hb ht
theorem IsS80.lt {w0 W : World} {g : Nat} {f0 : List Int} {f1 : Int} {f2 : Int} (h : IsS80 w0 W g f0 f1 f2) : g < W.heap.size := by
 obtain ⟨A0, c0, hb, hg, hr0⟩ := h
 exact blk_lt hb
theorem IsS80.ge {w0 W : World} {g : Nat} {f0 : List Int} {f1 : Int} {f2 : Int} (h : IsS80 w0 W g f0 f1 f2) : w0.heap.size ≤ g := by
 obtain ⟨A0, c0, hb, hg, hr0⟩ := h
 exact hg
theorem IsS80.ne_blk {w0 W : World} {g : Nat} {f0 : List Int} {f1 : Int} {f2 : Int} {a : Nat} {cs : Array Value} {t : TypeId} {fr : Nat × Nat} (h : IsS80 w0 W g f0 f1 f2) (hb2 : W.heap[a]? = some (.cells cs t fr)) (ht : t ≠ 80) : g ≠ a := by
 obtain ⟨A0, c0, hb, hg, hr0⟩ := h
 rintro rfl
 rw [hb] at hb2
 injection hb2 with hb2
 injection hb2 with _ ht2
 exact ht ht2.symm
theorem IsS80.far {w0 W : World} {g : Nat} {f0 : List Int} {f1 : Int} {f2 : Int} {p : Addr} (h : IsS80 w0 W g f0 f1 f2) (hne : g ≠ p.block) (u : Value) : IsS80 w0 (W.setCell p u) g f0 f1 f2 := by
 obtain ⟨A0, c0, hb, hg, hr0⟩ := h
 exact ⟨A0, c0, blk_far hb hne u, hg, hr0⟩
theorem cellS80_0 {W : World} {g : Nat} {A0 : Option Addr} {c0 : Nat} {f0 : List Int} {f1 : Int} {f2 : Int} (h : W.heap[g]? = some (.cells #[.slice A0 f0.length c0, .int .i64 f1, .int .i64 f2] 80 (0, 0))) : W.cell? ⟨g, 0, none⟩ = some (.slice A0 f0.length c0) := (blk_cell h 0).trans rfl
theorem cellS80_1 {W : World} {g : Nat} {A0 : Option Addr} {c0 : Nat} {f0 : List Int} {f1 : Int} {f2 : Int} (h : W.heap[g]? = some (.cells #[.slice A0 f0.length c0, .int .i64 f1, .int .i64 f2] 80 (0, 0))) : W.cell? ⟨g, 1, none⟩ = some (.int .i64 f1) := (blk_cell h 1).trans rfl
theorem IsS80.set_1 {w0 W : World} {g : Nat} {f0 : List Int} {f1 : Int} {f2 : Int} (h : IsS80 w0 W g f0 f1 f2) (x : Int) : IsS80 w0 (W.setCell ⟨g, 1, none⟩ (.int .i64 x)) g f0 x f2 := by
 obtain ⟨A0, c0, hb, hg, hr0⟩ := h
 exact ⟨A0, c0, by simpa using blk_set hb 1 (.int .i64 x), hg, hr0⟩
theorem cellS80_2 {W : World} {g : Nat} {A0 : Option Addr} {c0 : Nat} {f0 : List Int} {f1 : Int} {f2 : Int} (h : W.heap[g]? = some (.cells #[.slice A0 f0.length c0, .int .i64 f1, .int .i64 f2] 80 (0, 0))) : W.cell? ⟨g, 2, none⟩ = some (.int .i64 f2) := (blk_cell h 2).trans rfl
theorem IsS80.set_2 {w0 W : World} {g : Nat} {f0 : List Int} {f1 : Int} {f2 : Int} (h : IsS80 w0 W g f0 f1 f2) (x : Int) : IsS80 w0 (W.setCell ⟨g, 2, none⟩ (.int .i64 x)) g f0 f1 x := by
 obtain ⟨A0, c0, hb, hg, hr0⟩ := h
 exact ⟨A0, c0, by simpa using blk_set hb 2 (.int .i64 x), hg, hr0⟩
theorem IsS80.new (w0 W : World) (A0 : Option Addr) (c0 : Nat) (f0 : List Int) (f1 : Int) (f2 : Int) (hB : Below w0.heap.size w0 W) (hr0 : Kd.C (Kd.int .u8) w0 A0 f0.length f0) : IsS80 w0 (W.alloc (.cells #[.slice A0 f0.length c0, .int .i64 f1, .int .i64 f2] 80)) W.heap.size f0 f1 f2 := ⟨A0, c0, by simpa using heap_alloc_new W _, hB.size, hr0⟩

/-! ### spec_l1New: function 42 -/
def spec_l1New.l0 : Nat → List Int → Int → Int → Option (List Int × Int × Int)
 | 0, _, _, _ => none
 | k + 1, x0, x3, x4 => if x4 < (x0.length : Int) then (if x4 < 4000 then (if 0 ≤ x4 then (spec_l1New.l0 k x0 (Go.bits .and .i64 (wrap64 ((wrap64 ((wrap64 (x3 * 131)) + (wrap64 (rd x0 x4)))) + 7)) 1073741823) (wrap64 (x4 + 1))) else (none)) else (some (x0, 0, x3))) else (some (x0, 0, x3))
def spec_l1New.f (k : Nat) (l0 : List Int) : Option (List Int × Int × Int) := spec_l1New.l0 k l0 (wrap64 (10101 + (l0.length : Int))) 0
theorem spec_l1New.mono_l : ∀ k, (∀ y0 y1 y2, LeO (spec_l1New.l0 k y0 y1 y2) (spec_l1New.l0 (k + 1) y0 y1 y2))
 | 0 => fun _ _ _ r h => by simp [spec_l1New.l0] at h
 | k + 1 => by
  have ih0 := spec_l1New.mono_l k
  ·intro y0 y1 y2
   unfold spec_l1New.l0
   exact mo
theorem spec_l1New.mono : ∀ a0 k, LeO (spec_l1New.f k a0) (spec_l1New.f (k + 1) a0) := by
 intro a0 k
 have ih0 := spec_l1New.mono_l k
 unfold spec_l1New.f
 exact mo
instance spec_l1New.mi (a0 k) : LeC (spec_l1New.f k a0) (spec_l1New.f (k + 1) a0) := ⟨spec_l1New.mono a0 k⟩
set_option maxHeartbeats 8000000 in
set_option maxRecDepth 100000 in
theorem spec_l1New.calls (k : Nat) (A0 : Option Addr) (c0 : Nat) (l0 : List Int) (r1 : List Int) (r2 : Int) (r3 : Int) (w0 w : World) (hB : Below w0.heap.size w0 w) (hr0 : Kd.C (Kd.int .u8) w0 A0 l0.length l0) (hc0 : l0.length ≤ c0) (h : spec_l1New.f k l0 = some (r1, r2, r3)) :
  Calls Try.prog 42 #[.slice A0 l0.length c0] w fun e w' => ∃ g_ : Nat, e = .returned (.pointer (some ⟨g_, 0, none⟩)) ∧ IsS80 w0 w' g_ r1 r2 r3 ∧ Below w0.heap.size w0 w' ∧ Below w.heap.size w w' := by
 have hu80 := Try.underlying80
 have HR0 := mk hr0
 have HC0 := mk hc0
 clear hr0 hc0
 have HBW := mk (Below.refl w.heap.size w)
 have HW0 := mk hB.size
 have HB := mk hB
 clear hB
 have H : (spec_l1New.l0 k l0 (wrap64 (10101 + (l0.length : Int))) 0) = some (r1, r2, r3) := h
 clear h
 have H' := mk H
 clear H
 go_enter Try.func42, Try.ntmps42
 go_wp2
 go_loopg [3, 4] k (fun kq v3 v4 w' => ∃ (k4 : Int) (g2 : Int), v3 = .int .i64 k4 ∧ v4 = .int .i64 g2 ∧ Aside0 (spec_l1New.l0 kq l0 k4 g2 = some (r1, r2, r3)) ∧ Aside0 (kq ≤ k) ∧ Aside0 (Below w0.heap.size w0 w') ∧ Aside0 (Below w.heap.size w w'))
 case atStart => exact ⟨(wrap64 (10101 + (l0.length : Int))), (0), (by first | rfl | (simp; done) | (simp [*]; done)), (by first | rfl | (simp; done) | (simp [*]; done)), H', ⟨Nat.le_refl _⟩, ⟨bl⟩, ⟨by repeat (first | (with_reducible first | exact HBW.out | apply below_alloc | apply pw_below_drewN | apply below_drew1) | exact HBW.out)⟩⟩
 case round =>
  clear H'
  obtain ⟨k4, g2, rfl, rfl, HA, HK1, HB, HBW⟩ := hrel
  cases gk with
  | zero => exact absurd HA.out (by simp [spec_l1New.l0])
  | succ k1 =>
   have H := HA.out
   clear HA
   simp only [spec_l1New.l0] at H
   revert H; refine ci (fun c2 H => ?_) fun c2 H => ?_
   ·have a7 : decide (g2 < (l0.length : Int)) = true := decide_eq_true c2
    clear c2
    revert H; refine ci (fun c3 H => ?_) fun c3 H => ?_
    ·have v5 : decide (g2 < 4000) = true := decide_eq_true c3
     clear c3
     revert H; refine ca fun c4 H => ?_
     have z6 : decide (0 ≤ g2) = true := decide_eq_true c4
     clear c4
     have H' := mk H
     clear H
     have s6 : 0 ≤ (g2 : Int) := dt
     have k6 : g2 < (l0.length : Int) := dt
     obtain ⟨oa1, ba1, m2⟩ := Kd.at_int HR0.out g2 s6 k6
     cases ba1
     replace m2 := pw_cell_below HB.out m2
     replace s6 := eq_true s6
     replace k6 := eq_true k6
     go_wp2
     go_roundg k1
     case measure => have := HK1.out; omega
     case rel => exact ⟨(Go.bits .and .i64 (wrap64 ((wrap64 ((wrap64 (k4 * 131)) + (wrap64 (rd l0 g2)))) + 7)) 1073741823), (wrap64 (g2 + 1)), (by first | rfl | (simp; done) | (simp [*]; done)), (by first | rfl | (simp; done) | (simp [*]; done)), H', ⟨by have := HK1.out; omega⟩, ⟨bl⟩, ⟨by repeat (first | (with_reducible first | exact HBW.out | apply below_alloc | apply pw_below_drewN | apply below_drew1) | exact HBW.out)⟩⟩
    ·have v5 : decide (g2 < 4000) = false := decide_eq_false c3
     clear c3
     simp only [Option.some.injEq, Prod.mk.injEq] at H
     obtain ⟨rfl, rfl, rfl⟩ := H
     go_wp2
     go_ret
     exact ⟨_, rfl, (show IsS80 w0 _ wr.heap.size l0 0 k4 from ⟨_, _, (by show (wr.heap.push _)[wr.heap.size]? = _; rw [Array.getElem?_push]; rw [if_pos rfl]), HB.out.size, HR0.out⟩), below_alloc HB.out _, below_alloc HBW.out _⟩
   ·have a7 : decide (g2 < (l0.length : Int)) = false := decide_eq_false c2
    clear c2
    simp only [Option.some.injEq, Prod.mk.injEq] at H
    obtain ⟨rfl, rfl, rfl⟩ := H
    go_wp2
    go_ret
    exact ⟨_, rfl, (show IsS80 w0 _ wr.heap.size l0 0 k4 from ⟨_, _, (by show (wr.heap.push _)[wr.heap.size]? = _; rw [Array.getElem?_push]; rw [if_pos rfl]), HB.out.size, HR0.out⟩), below_alloc HB.out _, below_alloc HBW.out _⟩

/-! ### spec_l1Byte: function 68 -/
def spec_l1Byte.f (s0_0 : List Int) (s0_1 : Int) (s0_2 : Int) : Option (Int × Int × Int) := if s0_1 < (s0_0.length : Int) then (if 0 ≤ s0_1 then (some (Go.bits .and .i64 (wrap64 ((Go.bits .and .i64 (Go.bits .xor .i64 ((wrap64 ((wrap64 (s0_2 * 6364136223846793005)) + 1442695040888963407)) / 8589934592) ((wrap64 ((wrap64 (s0_2 * 6364136223846793005)) + 1442695040888963407)) / 35184372088832)) 255) + (wrap64 (rd s0_0 s0_1)))) 255, wrap64 (s0_1 + 1), wrap64 ((wrap64 (s0_2 * 6364136223846793005)) + 1442695040888963407))) else (none)) else (some (Go.bits .and .i64 (Go.bits .xor .i64 ((wrap64 ((wrap64 (s0_2 * 6364136223846793005)) + 1442695040888963407)) / 8589934592) ((wrap64 ((wrap64 (s0_2 * 6364136223846793005)) + 1442695040888963407)) / 35184372088832)) 255, s0_1, wrap64 ((wrap64 (s0_2 * 6364136223846793005)) + 1442695040888963407)))
set_option maxHeartbeats 8000000 in
set_option maxRecDepth 100000 in
theorem spec_l1Byte.calls (g : Nat) (s0_0 : List Int) (s0_1 : Int) (s0_2 : Int) (r1 : Int) (r2 : Int) (r3 : Int) (w0 w : World) (hI : IsS80 w0 w g s0_0 s0_1 s0_2) (hB : Below w0.heap.size w0 w) (h : spec_l1Byte.f s0_0 s0_1 s0_2 = some (r1, r2, r3)) :
  Calls Try.prog 68 #[.pointer (some ⟨g, 0, none⟩)] w fun e w' => e = .returned (.int .i64 r1) ∧ IsS80 w0 w' g s0_0 r2 r3 ∧ Below w0.heap.size w0 w' ∧ KeepBut w w' g none := by
 have HI0 := mk hI
 have HK := mk (KeepBut.refl w g none)
 have HL := mk hB.size
 clear hI
 have HW0 := mk hB.size
 have HB := mk hB
 clear hB
 have H : (if s0_1 < (s0_0.length : Int) then (if 0 ≤ s0_1 then (some (Go.bits .and .i64 (wrap64 ((Go.bits .and .i64 (Go.bits .xor .i64 ((wrap64 ((wrap64 (s0_2 * 6364136223846793005)) + 1442695040888963407)) / 8589934592) ((wrap64 ((wrap64 (s0_2 * 6364136223846793005)) + 1442695040888963407)) / 35184372088832)) 255) + (wrap64 (rd s0_0 s0_1)))) 255, wrap64 (s0_1 + 1), wrap64 ((wrap64 (s0_2 * 6364136223846793005)) + 1442695040888963407))) else (none)) else (some (Go.bits .and .i64 (Go.bits .xor .i64 ((wrap64 ((wrap64 (s0_2 * 6364136223846793005)) + 1442695040888963407)) / 8589934592) ((wrap64 ((wrap64 (s0_2 * 6364136223846793005)) + 1442695040888963407)) / 35184372088832)) 255, s0_1, wrap64 ((wrap64 (s0_2 * 6364136223846793005)) + 1442695040888963407)))) = some (r1, r2, r3) := h
 clear h
 revert H; refine ci (fun c2 H => ?_) fun c2 H => ?_
 ·have a7 : decide (s0_1 < (s0_0.length : Int)) = true := decide_eq_true c2
  clear c2
  revert H; refine ca fun c3 H => ?_
  have v5 : decide (0 ≤ s0_1) = true := decide_eq_true c3
  clear c3
  simp only [Option.some.injEq, Prod.mk.injEq] at H
  obtain ⟨rfl, rfl, rfl⟩ := H
  obtain ⟨ASz4_0, cSz4_0, HGz4, hgz4, HSz4_0⟩ := HI0.out
  have y8 := cellS80_0 HGz4
  have v8 := cellS80_1 HGz4
  have s8 := cellS80_2 HGz4
  have k8 := blk_frozen HGz4 1
  have j8 := blk_frozen HGz4 2
  clear HGz4 hgz4
  have q6 : 0 ≤ (s0_1 : Int) := dt
  have j6 : s0_1 < (s0_0.length : Int) := dt
  obtain ⟨d7, aa1, m0⟩ := Kd.at_int HSz4_0 s0_1 q6 j6
  cases aa1
  have hn338_0 : d7.block ≠ g := Nat.ne_of_lt (Nat.lt_of_lt_of_le (by have := World.block_lt_of_cell? _ _ m0; first | rwa [add_block] at this | exact this) (IsS80.ge HI0.out))
  replace m0 := pw_cell_below HB.out m0
  replace m0 := (cell_far (p := ⟨g, 2, none⟩) (by first | (rw [add_block]; exact hn338_0) | (show (Addr.add _ _).block ≠ _; rw [add_block]; exact hn338_0) | exact hn338_0) (.int .i64 (wrap64 ((wrap64 (s0_2 * 6364136223846793005)) + 1442695040888963407)))).trans m0
  (try have v6 := fun (n_ : Nat) => (show (((w.drewN n_).setCell ⟨g, 2, none⟩ (.int .i64 (wrap64 ((wrap64 (s0_2 * 6364136223846793005)) + 1442695040888963407))))).cell? _ = some _ from m0))
  clear hn338_0
  replace q6 := eq_true q6
  replace j6 := eq_true j6
  go_enter Try.func68, Try.ntmps68
  go_wp2
  repeat (go_quiet (fail); try go_wp2)
  go_ret
  exact ⟨rx, is0, bm, ke⟩
 ·have a7 : decide (s0_1 < (s0_0.length : Int)) = false := decide_eq_false c2
  clear c2
  simp only [Option.some.injEq, Prod.mk.injEq] at H
  obtain ⟨rfl, rfl, rfl⟩ := H
  obtain ⟨ASz5_0, cSz5_0, HGz5, hgz5, HSz5_0⟩ := HI0.out
  have q8 := cellS80_0 HGz5
  have o8 := cellS80_1 HGz5
  have m8 := cellS80_2 HGz5
  have g8 := blk_frozen HGz5 1
  have d8 := blk_frozen HGz5 2
  clear HGz5 hgz5
  go_enter Try.func68, Try.ntmps68
  go_wp2
  repeat (go_quiet (fail); try go_wp2)
  go_ret
  exact ⟨rx, is0, bm, ke⟩

/-! ### spec_l1Below: function 52 -/
def spec_l1Below.f (s0_0 : List Int) (s0_1 : Int) (s0_2 : Int) (a1 : Int) : Option (Int × Int × Int) := if a1 ≤ 0 then (some (0, s0_1, s0_2)) else (if a1 ≤ 256 then ((spec_l1Byte.f s0_0 s0_1 s0_2).bind fun d2 => (if a1 = 0 then (none) else (some (Int.tmod d2.1 a1, d2.2.1, d2.2.2)))) else ((spec_l1Byte.f s0_0 s0_1 s0_2).bind fun b2 => ((spec_l1Byte.f s0_0 b2.2.1 b2.2.2).bind fun z1 => ((spec_l1Byte.f s0_0 z1.2.1 z1.2.2).bind fun v1 => ((spec_l1Byte.f s0_0 v1.2.1 v1.2.2).bind fun s1 => (if a1 = 0 then (none) else (some (Int.tmod (wrap64 ((wrap64 ((wrap64 ((wrap64 (b2.1 * 16777216)) + (wrap64 (z1.1 * 65536)))) + (wrap64 (v1.1 * 256)))) + s1.1)) a1, s1.2.1, s1.2.2))))))))
set_option maxHeartbeats 8000000 in
set_option maxRecDepth 100000 in
theorem spec_l1Below.calls (g : Nat) (s0_0 : List Int) (s0_1 : Int) (s0_2 : Int) (a1 : Int) (r1 : Int) (r2 : Int) (r3 : Int) (w0 w : World) (hI : IsS80 w0 w g s0_0 s0_1 s0_2) (hB : Below w0.heap.size w0 w) (h : spec_l1Below.f s0_0 s0_1 s0_2 a1 = some (r1, r2, r3)) :
  Calls Try.prog 52 #[.pointer (some ⟨g, 0, none⟩), .int .i64 a1] w fun e w' => e = .returned (.int .i64 r1) ∧ IsS80 w0 w' g s0_0 r2 r3 ∧ Below w0.heap.size w0 w' ∧ KeepBut w w' g none := by
 have HI0 := mk hI
 have HK := mk (KeepBut.refl w g none)
 have HL := mk hB.size
 clear hI
 have HW0 := mk hB.size
 have HB := mk hB
 clear hB
 have H : (if a1 ≤ 0 then (some (0, s0_1, s0_2)) else (if a1 ≤ 256 then ((spec_l1Byte.f s0_0 s0_1 s0_2).bind fun d2 => (if a1 = 0 then (none) else (some (Int.tmod d2.1 a1, d2.2.1, d2.2.2)))) else ((spec_l1Byte.f s0_0 s0_1 s0_2).bind fun b2 => ((spec_l1Byte.f s0_0 b2.2.1 b2.2.2).bind fun z1 => ((spec_l1Byte.f s0_0 z1.2.1 z1.2.2).bind fun v1 => ((spec_l1Byte.f s0_0 v1.2.1 v1.2.2).bind fun s1 => (if a1 = 0 then (none) else (some (Int.tmod (wrap64 ((wrap64 ((wrap64 ((wrap64 (b2.1 * 16777216)) + (wrap64 (z1.1 * 65536)))) + (wrap64 (v1.1 * 256)))) + s1.1)) a1, s1.2.1, s1.2.2))))))))) = some (r1, r2, r3) := h
 clear h
 revert H; refine ci (fun c3 H => ?_) fun c3 H => ?_
 ·have v5 : decide (a1 ≤ 0) = true := decide_eq_true c3
  clear c3
  simp only [Option.some.injEq, Prod.mk.injEq] at H
  obtain ⟨rfl, rfl, rfl⟩ := H
  go_enter Try.func52, Try.ntmps52
  go_wp2
  go_ret
  exact ⟨rx, is0, bm, ke⟩
 ·have v5 : decide (a1 ≤ 0) = false := decide_eq_false c3
  clear c3
  revert H; refine ci (fun c4 H => ?_) fun c4 H => ?_
  ·have z6 : decide (a1 ≤ 256) = true := decide_eq_true c4
   clear c4
   revert H; refine bo ?_; rintro ⟨ma0, ka0, ja0⟩ A5 H
   dsimp only at H
   revert H; refine cn fun c6 H => ?_
   have oa2 : (a1 == 0) = false := beq_eq_false_iff_ne.mpr c6
   have ma2 : (a1 != 0) = true := bne_iff_ne.mpr c6
   simp only [Option.some.injEq, Prod.mk.injEq] at H
   obtain ⟨rfl, rfl, rfl⟩ := H
   go_enter Try.func52, Try.ntmps52
   go_wp2_with (first | ((with_reducible refine gate_callee (f := 68) rfl ?_); refine gl (some 14) rfl Try.func68 #[.pointer (some ⟨g, 0, none⟩)] ?_; (with_reducible refine (spec_l1Byte.calls g s0_0 s0_1 s0_2 ma0 ka0 ja0 w0 _ ?side1 ?side2 A5.out).mono ?_); (case side1 => exact is0); (case side2 => exact bm); rintro e w7 ⟨rfl, hi, hb, hk⟩; refine ⟨_, rfl, ?_⟩; replace HK := kt HK ke hk; replace HB := mk hb; replace HI0 := mk hi; (try clear hb hk hi)))
   go_ret
   exact ⟨rx, is0, bm, ke⟩
  ·have z6 : decide (a1 ≤ 256) = false := decide_eq_false c4
   clear c4
   revert H; refine bo ?_; rintro ⟨ga0, b8, a8⟩ A8 H
   dsimp only at H
   revert H; refine bo ?_; rintro ⟨da0, z7, y7⟩ A9 H
   dsimp only at H
   revert H; refine bo ?_; rintro ⟨ba0, v7, s7⟩ A10 H
   dsimp only at H
   revert H; refine bo ?_; rintro ⟨aa0, z9, y9⟩ A11 H
   dsimp only at H
   revert H; refine cn fun c12 H => ?_
   have ma1 : (a1 == 0) = false := beq_eq_false_iff_ne.mpr c12
   have ka1 : (a1 != 0) = true := bne_iff_ne.mpr c12
   simp only [Option.some.injEq, Prod.mk.injEq] at H
   obtain ⟨rfl, rfl, rfl⟩ := H
   go_enter Try.func52, Try.ntmps52
   go_wp2_with (first | ((with_reducible refine gate_callee (f := 68) rfl ?_); refine gl (some 18) rfl Try.func68 #[.pointer (some ⟨g, 0, none⟩)] ?_; (with_reducible refine (spec_l1Byte.calls g s0_0 s0_1 s0_2 ga0 b8 a8 w0 _ ?side1 ?side2 A8.out).mono ?_); (case side1 => exact is0); (case side2 => exact bm); rintro e w13 ⟨rfl, hi, hb, hk⟩; refine ⟨_, rfl, ?_⟩; replace HK := kt HK ke hk; replace HB := mk hb; replace HI0 := mk hi; (try clear hb hk hi)) | ((with_reducible refine gate_callee (f := 68) rfl ?_); refine gl (some 20) rfl Try.func68 #[.pointer (some ⟨g, 0, none⟩)] ?_; (with_reducible refine (spec_l1Byte.calls g s0_0 b8 a8 da0 z7 y7 w0 _ ?side1 ?side2 A9.out).mono ?_); (case side1 => exact is0); (case side2 => exact bm); rintro e w14 ⟨rfl, hi, hb, hk⟩; refine ⟨_, rfl, ?_⟩; replace HK := kt HK ke hk; replace HB := mk hb; replace HI0 := mk hi; (try clear hb hk hi)) | ((with_reducible refine gate_callee (f := 68) rfl ?_); refine gl (some 22) rfl Try.func68 #[.pointer (some ⟨g, 0, none⟩)] ?_; (with_reducible refine (spec_l1Byte.calls g s0_0 z7 y7 ba0 v7 s7 w0 _ ?side1 ?side2 A10.out).mono ?_); (case side1 => exact is0); (case side2 => exact bm); rintro e w15 ⟨rfl, hi, hb, hk⟩; refine ⟨_, rfl, ?_⟩; replace HK := kt HK ke hk; replace HB := mk hb; replace HI0 := mk hi; (try clear hb hk hi)) | ((with_reducible refine gate_callee (f := 68) rfl ?_); refine gl (some 24) rfl Try.func68 #[.pointer (some ⟨g, 0, none⟩)] ?_; (with_reducible refine (spec_l1Byte.calls g s0_0 v7 s7 aa0 z9 y9 w0 _ ?side1 ?side2 A11.out).mono ?_); (case side1 => exact is0); (case side2 => exact bm); rintro e w16 ⟨rfl, hi, hb, hk⟩; refine ⟨_, rfl, ?_⟩; replace HK := kt HK ke hk; replace HB := mk hb; replace HI0 := mk hi; (try clear hb hk hi)))
   go_ret
   exact ⟨rx, is0, bm, ke⟩

/-! ### spec_l1PickInt: function 63 -/
def spec_l1PickInt.f (s0_0 : List Int) (s0_1 : Int) (s0_2 : Int) (l1 : List Int) : Option (Int × Int × Int) := (spec_l1Below.f s0_0 s0_1 s0_2 (l1.length : Int)).bind fun s0 => (if 0 ≤ s0.1 then (if s0.1 < (l1.length : Int) then (some (rd l1 s0.1, s0.2.1, s0.2.2)) else (none)) else (none))
set_option maxHeartbeats 8000000 in
set_option maxRecDepth 100000 in
theorem spec_l1PickInt.calls (g : Nat) (s0_0 : List Int) (s0_1 : Int) (s0_2 : Int) (A1 : Option Addr) (c1 : Nat) (l1 : List Int) (r1 : Int) (r2 : Int) (r3 : Int) (w0 w : World) (hI : IsS80 w0 w g s0_0 s0_1 s0_2) (hB : Below w0.heap.size w0 w) (hr1 : Kd.C (Kd.int .i64) w A1 l1.length l1) (hc1 : l1.length ≤ c1) (hf1 : ∀ ad, A1 = some ad → 0 < l1.length → ad.block ≠ g) (h : spec_l1PickInt.f s0_0 s0_1 s0_2 l1 = some (r1, r2, r3)) :
  Calls Try.prog 63 #[.pointer (some ⟨g, 0, none⟩), .slice A1 l1.length c1] w fun e w' => e = .returned (.int .i64 r1) ∧ IsS80 w0 w' g s0_0 r2 r3 ∧ Below w0.heap.size w0 w' ∧ KeepBut w w' g none := by
 have HR1 := mk hr1
 have HC1 := mk hc1
 clear hr1 hc1
 have HI0 := mk hI
 have HK := mk (KeepBut.refl w g none)
 have HL := mk hB.size
 clear hI
 have HW0 := mk hB.size
 have HB := mk hB
 clear hB
 have H : ((spec_l1Below.f s0_0 s0_1 s0_2 (l1.length : Int)).bind fun s0 => (if 0 ≤ s0.1 then (if s0.1 < (l1.length : Int) then (some (rd l1 s0.1, s0.2.1, s0.2.2)) else (none)) else (none))) = some (r1, r2, r3) := h
 clear h
 revert H; refine bo ?_; rintro ⟨m4, v9, s9⟩ A3 H
 dsimp only at H
 revert H; refine ca fun c4 H => ?_
 have z6 : decide (0 ≤ m4) = true := decide_eq_true c4
 clear c4
 revert H; refine ca fun c5 H => ?_
 have d4 : decide (m4 < (l1.length : Int)) = true := decide_eq_true c5
 clear c5
 simp only [Option.some.injEq, Prod.mk.injEq] at H
 obtain ⟨rfl, rfl, rfl⟩ := H
 go_enter Try.func63, Try.ntmps63
 go_wp2_with (first | ((with_reducible refine gate_callee (f := 52) rfl ?_); refine gl (some 9) rfl Try.func52 #[.pointer (some ⟨g, 0, none⟩), .int .i64 (l1.length : Int)] ?_; (with_reducible refine (spec_l1Below.calls g s0_0 s0_1 s0_2 (l1.length : Int) m4 v9 s9 w0 _ ?side1 ?side2 A3.out).mono ?_); (case side1 => exact is0); (case side2 => exact bm); rintro e w6 ⟨rfl, hi, hb, hk⟩; refine ⟨_, rfl, ?_⟩; replace HK := kt HK ke hk; replace HB := mk hb; replace HI0 := mk hi; (try clear hb hk hi); have o6 : 0 ≤ (m4 : Int) := dt; have g6 : m4 < (l1.length : Int) := dt; obtain ⟨b7, za0, k2⟩ := Kd.at_int HR1.out m4 o6 g6; cases za0; replace k2 := keep_cell HK.out k2 (by first | (rw [add_block]; exact hf1 _ rfl (by omega)) | exact hf1 _ rfl (by omega) | exact hf1 b7 rfl (by omega)); replace o6 := eq_true o6; replace g6 := eq_true g6))
 go_ret
 exact ⟨rx, is0, bm, ke⟩

/-! ### spec_l1Once: function 72 -/
def spec_l1Once.f (s0_0 : List Int) (s0_1 : Int) (s0_2 : Int) (a1 : Int) : Option (Bool × Int × Int) := (spec_l1Below.f s0_0 s0_1 s0_2 a1).bind fun q1 => (some ((q1.1 == 0), q1.2.1, q1.2.2))
set_option maxHeartbeats 8000000 in
set_option maxRecDepth 100000 in
theorem spec_l1Once.calls (g : Nat) (s0_0 : List Int) (s0_1 : Int) (s0_2 : Int) (a1 : Int) (r1 : Bool) (r2 : Int) (r3 : Int) (w0 w : World) (hI : IsS80 w0 w g s0_0 s0_1 s0_2) (hB : Below w0.heap.size w0 w) (h : spec_l1Once.f s0_0 s0_1 s0_2 a1 = some (r1, r2, r3)) :
  Calls Try.prog 72 #[.pointer (some ⟨g, 0, none⟩), .int .i64 a1] w fun e w' => e = .returned (.bool r1) ∧ IsS80 w0 w' g s0_0 r2 r3 ∧ Below w0.heap.size w0 w' ∧ KeepBut w w' g none := by
 have HI0 := mk hI
 have HK := mk (KeepBut.refl w g none)
 have HL := mk hB.size
 clear hI
 have HW0 := mk hB.size
 have HB := mk hB
 clear hB
 have H : ((spec_l1Below.f s0_0 s0_1 s0_2 a1).bind fun q1 => (some ((q1.1 == 0), q1.2.1, q1.2.2))) = some (r1, r2, r3) := h
 clear h
 revert H; refine bo ?_; rintro ⟨q9, o9, m9⟩ A3 H
 dsimp only at H
 simp only [Option.some.injEq, Prod.mk.injEq] at H
 obtain ⟨rfl, rfl, rfl⟩ := H
 go_enter Try.func72, Try.ntmps72
 go_wp2_with (first | ((with_reducible refine gate_callee (f := 52) rfl ?_); refine gl (some 7) rfl Try.func52 #[.pointer (some ⟨g, 0, none⟩), .int .i64 a1] ?_; (with_reducible refine (spec_l1Below.calls g s0_0 s0_1 s0_2 a1 q9 o9 m9 w0 _ ?side1 ?side2 A3.out).mono ?_); (case side1 => exact is0); (case side2 => exact bm); rintro e w4 ⟨rfl, hi, hb, hk⟩; refine ⟨_, rfl, ?_⟩; replace HK := kt HK ke hk; replace HB := mk hb; replace HI0 := mk hi; (try clear hb hk hi)))
 go_ret
 exact ⟨rx, is0, bm, ke⟩

/-! ### spec_l4Value: function 64 -/
def spec_l4Value.j0 : Nat → Bool → List Int → Int → Int → List Int → List Int → List (S50) → Option (Int × Int × Int)
 | 0, _, _, _, _, _, _, _ => none
 | k + 1, x13, k3, q4, o4, g1, b6, a6 => if x13 = true then ((spec_l1Below.f k3 q4 o4 (g1.length : Int)).bind fun o2 => (if 0 ≤ o2.1 then (if o2.1 < (g1.length : Int) then ((spec_l1Below.f k3 o2.2.1 o2.2.2 3).bind fun g4 => (some (wrap64 ((wrap64 ((rd g1 o2.1) + g4.1)) - 1), g4.2.1, g4.2.2))) else (none)) else (none))) else ((spec_l1PickInt.f k3 q4 o4 (([0, 3, (-2), (-1000), 1000, 50] : List Int))).bind fun m1 => (some (m1.1, m1.2.1, m1.2.2)))
def spec_l4Value.f (k : Nat) (s0_0 : List Int) (s0_1 : Int) (s0_2 : Int) (k0 : List Int) (v0 : List Int) (d1 : List (S50)) : Option (Int × Int × Int) := if (k0.length : Int) > 0 then ((spec_l1Once.f s0_0 s0_1 s0_2 4).bind fun o1 => (spec_l4Value.j0 k (!o1.1) s0_0 o1.2.1 o1.2.2 k0 v0 d1)) else (spec_l4Value.j0 k false s0_0 s0_1 s0_2 k0 v0 d1)
theorem spec_l4Value.mono_l : ∀ k, (∀ y0 y1 y2 y3 y4 y5 y6, LeO (spec_l4Value.j0 k y0 y1 y2 y3 y4 y5 y6) (spec_l4Value.j0 (k + 1) y0 y1 y2 y3 y4 y5 y6))
 | 0 => fun _ _ _ _ _ _ _ r h => by simp [spec_l4Value.j0] at h
 | k + 1 => by
  have ih0 := spec_l4Value.mono_l k
  ·intro y0 y1 y2 y3 y4 y5 y6
   unfold spec_l4Value.j0
   exact mo
theorem spec_l4Value.mono : ∀ a0 a1 a2 a3 a4 a5 k, LeO (spec_l4Value.f k a0 a1 a2 a3 a4 a5) (spec_l4Value.f (k + 1) a0 a1 a2 a3 a4 a5) := by
 intro a0 a1 a2 a3 a4 a5 k
 have ih0 := spec_l4Value.mono_l k
 unfold spec_l4Value.f
 exact mo
instance spec_l4Value.mi (a0 a1 a2 a3 a4 a5 k) : LeC (spec_l4Value.f k a0 a1 a2 a3 a4 a5) (spec_l4Value.f (k + 1) a0 a1 a2 a3 a4 a5) := ⟨spec_l4Value.mono a0 a1 a2 a3 a4 a5 k⟩
def spec_l4Value.T2 : Bool × List (List Nat × List Nat) := (true, [([], []), ([0], [0]), ([], []), ([], []), ([3], [3]), ([4], [4]), ([2, 5], [2, 5]), ([1, 6], [1, 6]), ([7], [7]), ([], []), ([9, 6], [9]), ([8, 10], [8, 10]), ([11], [11]), ([12, 10, 0, 1, 2, 3, 4, 5, 6, 7, 8, 9, 10, 11, 12], [12])])
def spec_l4Value.B2 : List Nat := [0, 1, 0, 0, 8, 24, 60, 127, 255, 0, 636, 2047, 4095, 8191]
theorem spec_l4Value.tab2 : rtab .any (opsOf Try.f64 2) = spec_l4Value.T2 := by kernel_rfl
theorem spec_l4Value.bits2 : waitsOk spec_l4Value.T2.2 spec_l4Value.B2 = true := by kernel_rfl
set_option maxHeartbeats 8000000 in
set_option maxRecDepth 100000 in
theorem spec_l4Value.calls (k : Nat) (g : Nat) (s0_0 : List Int) (s0_1 : Int) (s0_2 : Int) (j4 : Option Addr) (g3 : Nat) (k0 : List Int) (s2 : Option Addr) (d3 : Nat) (v0 : List Int) (j3 : Option Addr) (b3 : Nat) (d1 : List (S50)) (r1 : Int) (r2 : Int) (r3 : Int) (w0 w : World) (hI : IsS80 w0 w g s0_0 s0_1 s0_2) (hB : Below w0.heap.size w0 w) (b5 : Kd.C (Kd.int .i64) w j4 k0.length k0) (hc1_0 : k0.length ≤ g3) (j1 : ∀ ad, j4 = some ad → 0 < k0.length → ad.block ≠ g) (z4 : Kd.C (Kd.int .i64) w s2 v0.length v0) (hc1_1 : v0.length ≤ d3) (sa0 : ∀ ad, s2 = some ad → 0 < v0.length → ad.block ≠ g) (s4 : ∀ W_, KeepBut w W_ g none → Kd.C k50 W_ j3 d1.length d1) (hc1_2 : d1.length ≤ b3) (h : spec_l4Value.f k s0_0 s0_1 s0_2 k0 v0 d1 = some (r1, r2, r3)) :
  Calls Try.prog 64 #[.pointer (some ⟨g, 0, none⟩), .agg #[.slice j4 k0.length g3, .slice s2 v0.length d3, .slice j3 d1.length b3]] w fun e w' => e = .returned (.int .i64 r1) ∧ IsS80 w0 w' g s0_0 r2 r3 ∧ Below w0.heap.size w0 w' ∧ KeepBut w w' g none := by
 have hu29 := Try.underlying29
 have g7 := mk b5
 have za1 := mk hc1_0
 clear b5 hc1_0
 have sa1 := mk z4
 have ya1 := mk hc1_1
 clear z4 hc1_1
 have qa1 := mk s4
 have va1 := mk hc1_2
 clear s4 hc1_2
 have HI0 := mk hI
 have HK := mk (KeepBut.refl w g none)
 have HL := mk hB.size
 clear hI
 have HW0 := mk hB.size
 have HB := mk hB
 clear hB
 have H : (if (k0.length : Int) > 0 then ((spec_l1Once.f s0_0 s0_1 s0_2 4).bind fun o1 => (spec_l4Value.j0 k (!o1.1) s0_0 o1.2.1 o1.2.2 k0 v0 d1)) else (spec_l4Value.j0 k false s0_0 s0_1 s0_2 k0 v0 d1)) = some (r1, r2, r3) := h
 clear h
 have HC3 := mk H
 clear H
 go_enter Try.func64, Try.ntmps64
 go_upto_region 1 with (first | ((with_reducible refine gate_dst (N := 3) rfl ?_); refine bx 3 #[.slice j4 k0.length g3, .slice s2 v0.length d3, .slice j3 d1.length b3] 29 ?_; intro o0 hg w4 hbox hb; replace HB := bstp HB hb; have b0 := mk hbox; have aa2 := mk ((by rw [hg]; exact (keep_size (w := w) (g := g) (row := none) ke) : w.heap.size ≤ o0)); have ba2 := mk ((Nat.le_trans HW0.out (by rw [hg]; exact (keep_size (w := w) (g := g) (row := none) ke) : w.heap.size ≤ o0) : w0.heap.size ≤ o0)); replace HK := kb HK ke hb; have q2 := mk ((by rw [hg]; exact Nat.ne_of_lt (IsS80.lt (show IsS80 w0 _ g s0_0 s0_1 s0_2 from is0)) : g ≠ o0)); have q0 := mk ((by rw [hg]; exact Nat.ne_of_gt (IsS80.lt (show IsS80 w0 _ g s0_0 s0_1 s0_2 from is0)) : o0 ≠ g)); replace HI0 := mk (IsS80.below is0 hb); clear hb hbox hg))
 (try simp only [Act.put, List.setIfInBounds_toArray, List.set_cons_zero, List.set_cons_succ])
 go_cut [13] (fun v13 wc => ∃ (kq : Nat) (v2 : Bool) (g0 : Int) (d0 : Int), v13 = .bool v2 ∧ Aside0 (spec_l4Value.j0 kq v2 s0_0 g0 d0 k0 v0 d1 = some (r1, r2, r3)) ∧ Aside0 (kq ≤ k) ∧ Aside0 (wc.heap[o0]? = some (.cells #[(.slice j4 k0.length g3), (.slice s2 v0.length d3), (.slice j3 d1.length b3)] 29 (0, 0))) ∧ Aside0 (IsS80 w0 wc g s0_0 g0 d0) ∧ Aside0 (KeepBut w wc g none) ∧ Aside0 (Below w0.heap.size w0 wc))
 case first =>
  have H := HC3.out
  clear HC3
  revert H; refine ci (fun c5 H => ?_) fun c5 H => ?_
  ·have d4 : decide (0 < (k0.length : Int)) = true := decide_eq_true c5
   have z8 : decide (0 < k0.length) = true := decide_eq_true (by omega)
   clear c5
   (first | rw [d4] | (simp only [i64_w, i32_w]; rw [d4]) | skip)
   revert H; refine bo ?_; rintro ⟨q7, o7, m7⟩ A6 H
   dsimp only at H
   have H' := mk H
   clear H
   have ka2 := q0.out
   have ja2 := q2.out
   obtain ⟨q5, o5, m5, k5, j5, g5⟩ := bz3 b0
   go_wp2_with (first | (go_at_call 72; (with_reducible refine (spec_l1Once.calls g s0_0 s0_1 s0_2 4 q7 o7 m7 w0 _ ?side1 ?side2 A6.out).mono ?_); (case side1 => exact is0); (case side2 => exact bm); rintro e w9 ⟨rfl, hi, hb, hk⟩; replace b0 := mk (KeepBut.blk hk (g' := o0) (o := .cells #[.slice j4 k0.length g3, .slice s2 v0.length d3, .slice j3 d1.length b3] 29 (0, 0)) (ub b0.out) q0.out (by simp)); replace HK := kt HK ke hk; replace HB := mk hb; replace HI0 := mk hi; (try clear hb hk hi)))
   go_meet
   case rel => exact ⟨_, (!q7), (o7), (m7), (by first | rfl | (simp; done) | (simp [*]; done)), H', ⟨by first | omega | exact Nat.le_refl _⟩, ⟨ub b0.out⟩, ⟨is0⟩, ⟨ke⟩, ⟨bm⟩⟩
  ·have d4 : decide (0 < (k0.length : Int)) = false := decide_eq_false c5
   have z8 : decide (0 < k0.length) = false := decide_eq_false (by omega)
   clear c5
   (first | rw [d4] | (simp only [i64_w, i32_w]; rw [d4]) | skip)
   have H' := mk H
   clear H
   have qa0 := q0.out
   have oa0 := q2.out
   obtain ⟨b4, z3, s3, q3, o3, m3⟩ := bz3 b0
   go_wp2
   go_meet
   case rel => exact ⟨_, (false), (s0_1), (s0_2), (by first | rfl | (simp; done) | (simp [*]; done)), H', ⟨by first | omega | exact Nat.le_refl _⟩, ⟨ub b0.out⟩, ⟨is0⟩, ⟨ke⟩, ⟨bm⟩⟩
 case rest =>
  clear HC3
  try clear c1
  try clear p2
  try clear c5
  try clear d4
  try clear z8
  try clear c6
  try clear c7
  try clear c10
  try clear b4
  try clear z3
  try clear s3
  try clear q5
  try clear o5
  try clear m5
  try clear q3
  try clear o3
  try clear m3
  try clear k5
  try clear j5
  try clear g5
  obtain ⟨kq, v2, g0, d0, rfl, HA, HJ2, b0, HI0, HK, HB⟩ := hcut
  cases kq with
  | zero => exact absurd HA.out (by simp [spec_l4Value.j0])
  | succ kj2 =>
   have H := HA.out
   clear HA
   simp only [spec_l4Value.j0] at H
   by_cases c12 : v2 = true
   ·subst c12
    rw [if_pos rfl] at H
    revert H; refine bo ?_; rintro ⟨z2, k7, j7⟩ A13 H
    dsimp only at H
    revert H; refine ca fun c14 H => ?_
    have ja1 : decide (0 ≤ z2) = true := decide_eq_true c14
    clear c14
    revert H; refine ca fun c15 H => ?_
    have ga1 : decide (z2 < (k0.length : Int)) = true := decide_eq_true c15
    clear c15
    revert H; refine bo ?_; rintro ⟨k9, j9, g9⟩ A16 H
    dsimp only at H
    simp only [Option.some.injEq, Prod.mk.injEq] at H
    obtain ⟨rfl, rfl, rfl⟩ := H
    try go_wp2
    replace b0 := wd b0
    replace HI0 := mk (IsS80.drew HI0.out)
    replace HK := mk (keep_drew HK.out)
    replace HB := mk (below_drew1 HB.out)
    have m6 : 0 ≤ (z2 : Int) := dt
    have d6 : z2 < (k0.length : Int) := dt
    obtain ⟨b1, ya0, z0⟩ := Kd.at_int g7.out z2 m6 d6
    have hw368_0 := z0
    cases ya0
    have hne368_0 := (show ((b1.add (z2).toNat) : Addr).block ≠ g from by first | (rw [add_block]; exact j1 b1 rfl (by omega)) | (show (Addr.add _ _).block ≠ _; rw [add_block]; exact j1 b1 rfl (by omega)) | exact j1 b1 rfl (by omega))
    replace z0 := keep_cell HK.out z0 (by first | (rw [add_block]; exact j1 _ rfl (by omega)) | exact j1 _ rfl (by omega) | exact j1 b1 rfl (by omega))
    replace m6 := eq_true m6
    replace d6 := eq_true d6
    refine start_ (n := 14) (S := fun w' => w'.cell? ⟨o0, 0, none⟩ = some (.slice (some b1) k0.length g3) ∧ w'.cell? ⟨o0, 1, none⟩ = some (.slice s2 v0.length d3) ∧ w'.cell? ⟨o0, 2, none⟩ = some (.slice j3 d1.length b3) ∧ w'.cell? (b1.add (z2).toNat) = some (.int .i64 (rd k0 z2))) (ds := []) #[false, false, false, false, false, false, false, false, false, false, false, false, false, false] (by kernel_rfl) rfl rfl ⟨bc b0 0, bc b0 1, bc b0 2, (keep_cell HK.out hw368_0 hne368_0)⟩ (fun hHeld => ?_); refine with_tabW spec_l4Value.tab2 spec_l4Value.bits2 (fun HT_ HW_ => ?_)
    generalize wc.drew = w17 at b0 HI0 HK HB j1 z0 hHeld ⊢
    refine pu 0 14 (tf 1 13) ?_
    refine pu 2 16 #[T_,F_,T_,F_,F_,F_,F_,F_,F_,F_,F_,F_,F_,F_] ?_
    refine pu 3 17 #[T_,F_,T_,T_,F_,F_,F_,F_,F_,F_,F_,F_,F_,F_] ?_
    refine pu 9 23 #[T_,F_,T_,T_,F_,F_,F_,F_,F_,T_,F_,F_,F_,F_] ?_
    refine tk 1 15 #[T_,T_,T_,T_,F_,F_,F_,F_,F_,T_,F_,F_,F_,F_] hHeld ?_
    refine tk 4 18 #[T_,T_,T_,T_,T_,F_,F_,F_,F_,T_,F_,F_,F_,F_] hHeld ?_
    refine pu 5 19 #[T_,T_,T_,T_,T_,T_,F_,F_,F_,T_,F_,F_,F_,F_] ?_
    refine on 6 20 #[T_,T_,T_,T_,T_,T_,T_,F_,F_,T_,F_,F_,F_,F_] (fun K hK => ?_)
    refine gs Try.func52 #[.pointer (some ⟨g, 0, none⟩), .int .i64 (k0.length : Int)] ?_
    with_reducible refine (spec_l1Below.calls g s0_0 g0 d0 (k0.length : Int) z2 k7 j7 w0 _ ?side1 ?side2 A13.out).mono ?_
    (case side1 => exact is0)
    (case side2 => exact bm)
    rintro e w18 ⟨rfl, hi, hb, hk⟩
    refine ⟨_, rfl, ?_⟩
    replace b0 := mk (KeepBut.blk hk (g' := o0) (o := .cells #[.slice (some b1) k0.length g3, .slice s2 v0.length d3, .slice j3 d1.length b3] 29 (0, 0)) (ub b0.out) q0.out (by simp))
    replace HK := kt HK ke hk
    replace HB := mk hb
    replace HI0 := mk hi
    (try clear hb)
    (try clear hb2)
    (try clear hk)
    (try clear hi)
    refine hK.out _ _ ⟨bc b0 0, bc b0 1, bc b0 2, (keep_cell HK.out hw368_0 hne368_0)⟩ (fun hHeld => ?_)
    clear hK K
    refine nm 20 ?_
    refine pu 7 21 #[T_,T_,T_,T_,T_,T_,T_,T_,F_,T_,F_,F_,F_,F_] ?_
    refine tk 8 22 (tf 10 4) hHeld ?_
    refine on 10 24 (tf 11 3) (fun K hK => ?_)
    refine gs Try.func52 #[.pointer (some ⟨g, 0, none⟩), .int .i64 3] ?_
    with_reducible refine (spec_l1Below.calls g s0_0 k7 j7 3 k9 j9 g9 w0 _ ?side1 ?side2 A16.out).mono ?_
    (case side1 => exact is0)
    (case side2 => exact bm)
    rintro e w19 ⟨rfl, hi, hb, hk⟩
    refine ⟨_, rfl, ?_⟩
    replace b0 := mk (KeepBut.blk hk (g' := o0) (o := .cells #[.slice (some b1) k0.length g3, .slice s2 v0.length d3, .slice j3 d1.length b3] 29 (0, 0)) (ub b0.out) q0.out (by simp))
    replace HK := kt HK ke hk
    replace HB := mk hb
    replace HI0 := mk hi
    (try clear hb)
    (try clear hb2)
    (try clear hk)
    (try clear hi)
    refine hK.out _ _ ⟨bc b0 0, bc b0 1, bc b0 2, (keep_cell HK.out hw368_0 hne368_0)⟩ (fun hHeld => ?_)
    clear hK K
    refine nm 24 ?_
    refine pu 11 25 (tf 12 2) ?_
    refine pu 12 26 (tf 13 1) ?_
    refine pu 13 4 (tf 14 0) ?_
    refine done_ (done_of HT_.out (by kernel_rfl)) ?_
    try go_wp2
    go_ret
    exact ⟨rx, is0, bm, ke⟩
   ·replace c12 := Bool.eq_false_iff.mpr c12
    subst c12
    rw [if_neg nf] at H
    obtain ⟨z5, hy_⟩ : ∃ y_ : List Int, y_ = (([0, 3, (-2), (-1000), 1000, 50] : List Int)) := ⟨_, rfl⟩
    replace H : ((spec_l1PickInt.f s0_0 g0 d0 z5).bind fun m1 => (some (m1.1, m1.2.1, m1.2.2))) = some (r1, r2, r3) := hw
    have s5 := mk hy_
    clear hy_
    revert H; refine bo ?_; rintro ⟨d9, b9, a9⟩ A20 H
    dsimp only at H
    simp only [Option.some.injEq, Prod.mk.injEq] at H
    obtain ⟨rfl, rfl, rfl⟩ := H
    go_wp2_with (first | ((with_reducible refine gate_dst (N := 28) rfl ?_); refine Kd.R_lit (Kd.int .i64) _ 3 ?hg (N := 28) ?hd (xs := ([0, 3, (-2), (-1000), 1000, 50] : List Int)) (inner := [.int .i64 0, .int .i64 3, .int .i64 (-2), .int .i64 (-1000), .int .i64 1000, .int .i64 50]) (ok := fun _ => True) (okp := fun _ => True) ?hr ?hp (fun _ hk => hk) trivial (Below.refl _ _) (Nat.le_refl _) (by simp) ?_; (case hd => rfl); (case hg => rfl); (case hr => first | (go_simp; done) | (go_simp; rfl)); (case hp => exact (Reps.one (show Kd.M (Kd.int .i64) _ _ _ 0 [.int .i64 0] from rfl) (Reps.one (show Kd.M (Kd.int .i64) _ _ _ 3 [.int .i64 3] from rfl) (Reps.one (show Kd.M (Kd.int .i64) _ _ _ (-2) [.int .i64 (-2)] from rfl) (Reps.one (show Kd.M (Kd.int .i64) _ _ _ (-1000) [.int .i64 (-1000)] from rfl) (Reps.one (show Kd.M (Kd.int .i64) _ _ _ 1000 [.int .i64 1000] from rfl) (Reps.one (show Kd.M (Kd.int .i64) _ _ _ 50 [.int .i64 50] from rfl) (Reps.none _ _)))))))); intro ga2 w21 d5 hb hg_ hnew_; clear hg_ hnew_; (first | rw [← s5.out] at d5 | (simp only [Int.reduceToNat] at d5; rw [← s5.out] at d5)); have j2 := mk (Kd.R_lower d5 (keep_size (w := w) (g := g) (row := none) ke)); replace b0 := wb b0 hb; replace HK := kb HK ke hb; replace HB := bstp HB hb; replace HI0 := mk (IsS80.below is0 hb); clear hb d5; obtain ⟨da2, da1, va0⟩ := Kd.R_slice j2.out; subst va0) | ((with_reducible refine gate_callee (f := 63) rfl ?_); refine gl (some 29) rfl Try.func63 #[.pointer (some ⟨g, 0, none⟩), .slice da2 z5.length da1] ?_; (with_reducible refine (spec_l1PickInt.calls g s0_0 g0 d0 _ _ z5 d9 b9 a9 w0 _ ?side1 ?side2 ?side3 ?side4 ?side5 A20.out).mono ?_); (case side1 => exact is0); (case side2 => exact bm); (case side3 => exact ra j2); (case side4 => exact rb j2); (case side5 => exact far_slice (IsS80.own_ne HI0.out j2.out (by decide))); rintro e w24 ⟨rfl, hi, hb, hk⟩; refine ⟨_, rfl, ?_⟩; replace b0 := mk (KeepBut.blk hk (g' := o0) (o := .cells #[.slice j4 k0.length g3, .slice s2 v0.length d3, .slice j3 d1.length b3] 29 (0, 0)) (ub b0.out) q0.out (by simp)); replace j2 := kp (IsS80.apart (show IsS80 w0 _ g s0_0 g0 d0 from is0) (up j2.out) (by decide)) hk; replace HK := kt HK ke hk; replace HB := mk hb; replace HI0 := mk hi; (try clear hb hk hi)))
    go_ret
    exact ⟨rx, is0, bm, ke⟩

end Go.Proofs.Ytlikcmonejefoab.PFnRipples
