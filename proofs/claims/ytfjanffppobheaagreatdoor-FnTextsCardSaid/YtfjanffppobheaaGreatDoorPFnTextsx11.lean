-- printed by a program of this session, a turned copy of the print of the kit
import Derived.Test.YtfjanffppobheaaGreatDoorSq
import Derived.Test.YtfjanffppobheaaGreatDoorNF
import Derived.Test.YtfjanffppobheaaGreatDoorPFnTextsx0
import Derived.Test.YtfjanffppobheaaGreatDoorPFnTextsx2
import Derived.Test.YtfjanffppobheaaGreatDoorPFnTextsx3
import Derived.Test.YtfjanffppobheaaGreatDoorPFnTextsx4
import Derived.Test.YtfjanffppobheaaGreatDoorPFnTextsx5
import Derived.Test.YtfjanffppobheaaGreatDoorPFnTextsx8
import Derived.Test.YtfjanffppobheaaGreatDoorPFnTextsx9
import Derived.Test.YtfjanffppobheaaGreatDoorPFnTextsx10
namespace Go.Proofs.YtfjanffppobheaaGreatDoor.PFnTexts
open Go.RowKit Go.Proofs.YtfjanffppobheaaGreatDoorW.PrintWords Go.Proofs.YtfjanffppobheaaGreatDoorW.PrintLast Go.Proofs.YtfjanffppobheaaGreatDoorW.PrintMore Go.Proofs.YtfjanffppobheaaGreatDoor.Sq
attribute [local go_sem] max2_int min2_int max_two min_two max_three min_three max_four min_four Giv.cell_twice   -- for this text's walks alone
set_option linter.unusedVariables false
set_option linter.unusedSimpArgs false

/-! ### impl_InRange: function 17 -/
def impl_InRange.f (a0_0 : Int) (a0_1 : Int) (a1 : Int) : Option (Bool) := (impl_IsRange.f a0_0 a0_1).bind fun t408 => (if t408 = true then (if a0_0 ≤ a1 then (some (decide (a1 < a0_1))) else (some false)) else (some false))
set_option maxHeartbeats 8000000 in
set_option maxRecDepth 100000 in
theorem impl_InRange.calls (a0_0 : Int) (a0_1 : Int) (a1 : Int) (r : Bool) (w : World) (h : impl_InRange.f a0_0 a0_1 a1 = some r) :
    Calls Tryz.prog 17 #[.agg #[.int .i64 a0_0, .int .i64 a0_1], .int .i64 a1] w fun e w' => e = .returned (.bool r) ∧ Below w.heap.size w w' := by
  have hu32 := Tryz.underlying32
  have HB := Aside0.mk (Below.refl w.heap.size w)
  have H : ((impl_IsRange.f a0_0 a0_1).bind fun t408 => (if t408 = true then (if a0_0 ≤ a1 then (some (decide (a1 < a0_1))) else (some false)) else (some false))) = some r := h
  clear h
  revert H; refine bo ?_; rintro t408 A3 H
  by_cases c4 : t408 = true
  · subst c4
    rw [if_pos rfl] at H
    by_cases c5 : a0_0 ≤ a1
    · rw [if_pos c5] at H
      have c5b0 : decide (a0_0 ≤ a1) = true := decide_eq_true c5
      clear c5
      obtain rfl := Option.some.inj H
      go_enter Tryz.func17, Tryz.ntmps17
      go_wp2_with (first | ((with_reducible refine gate_dst (N := 2) rfl ?_); refine bx 2 #[.int .i64 a0_0, .int .i64 a0_1] 32 ?_; intro gb407 hg w6 hbox hb; have BK407 := mk hbox; have GW407 := wg hg; have GE407 := wg hg; replace HB := wh hb; clear hb hbox hg; obtain ⟨hcz7_0, hcz7_1, hfz7_0, hfz7_1⟩ := bz2 BK407) | ((with_reducible refine gate_callee (f := 37) rfl ?_); refine gl (some 6) rfl Tryz.func37 #[.agg #[.int .i64 a0_0, .int .i64 a0_1]] ?_; (with_reducible refine (impl_IsRange.calls a0_0 a0_1 true _ A3.out).mono ?_); rintro e w8 ⟨rfl, hb⟩; refine ⟨_, rfl, ?_⟩; replace BK407 := wb BK407 hb; replace HB := wh hb; (try clear hb); (try clear hb2); (try clear hk); (try clear hi); obtain ⟨hcz9_0, hcz9_1, hfz9_0, hfz9_1⟩ := bz2 BK407))
      go_ret
      exact ⟨by first | rfl | (simp [errW_none, errW_some] <;> rfl) | (simp [*, errW_none, errW_some] <;> rfl), bl⟩
    · rw [if_neg c5] at H
      have c5b0 : decide (a0_0 ≤ a1) = false := decide_eq_false c5
      clear c5
      obtain rfl := Option.some.inj H
      go_enter Tryz.func17, Tryz.ntmps17
      go_wp2_with (first | ((with_reducible refine gate_dst (N := 2) rfl ?_); refine bx 2 #[.int .i64 a0_0, .int .i64 a0_1] 32 ?_; intro gb407 hg w10 hbox hb; have BK407 := mk hbox; have GW407 := wg hg; have GE407 := wg hg; replace HB := wh hb; clear hb hbox hg; obtain ⟨hcz11_0, hcz11_1, hfz11_0, hfz11_1⟩ := bz2 BK407) | ((with_reducible refine gate_callee (f := 37) rfl ?_); refine gl (some 6) rfl Tryz.func37 #[.agg #[.int .i64 a0_0, .int .i64 a0_1]] ?_; (with_reducible refine (impl_IsRange.calls a0_0 a0_1 true _ A3.out).mono ?_); rintro e w12 ⟨rfl, hb⟩; refine ⟨_, rfl, ?_⟩; replace BK407 := wb BK407 hb; replace HB := wh hb; (try clear hb); (try clear hb2); (try clear hk); (try clear hi); obtain ⟨hcz13_0, hcz13_1, hfz13_0, hfz13_1⟩ := bz2 BK407))
      go_ret
      exact ⟨by first | rfl | (simp [errW_none, errW_some] <;> rfl) | (simp [*, errW_none, errW_some] <;> rfl), bl⟩
  · replace c4 := Bool.eq_false_iff.mpr c4
    subst c4
    rw [if_neg nf] at H
    obtain rfl := Option.some.inj H
    go_enter Tryz.func17, Tryz.ntmps17
    go_wp2_with (first | ((with_reducible refine gate_dst (N := 2) rfl ?_); refine bx 2 #[.int .i64 a0_0, .int .i64 a0_1] 32 ?_; intro gb407 hg w14 hbox hb; have BK407 := mk hbox; have GW407 := wg hg; have GE407 := wg hg; replace HB := wh hb; clear hb hbox hg; obtain ⟨hcz15_0, hcz15_1, hfz15_0, hfz15_1⟩ := bz2 BK407) | ((with_reducible refine gate_callee (f := 37) rfl ?_); refine gl (some 6) rfl Tryz.func37 #[.agg #[.int .i64 a0_0, .int .i64 a0_1]] ?_; (with_reducible refine (impl_IsRange.calls a0_0 a0_1 false _ A3.out).mono ?_); rintro e w16 ⟨rfl, hb⟩; refine ⟨_, rfl, ?_⟩; replace BK407 := wb BK407 hb; replace HB := wh hb; (try clear hb); (try clear hb2); (try clear hk); (try clear hi)))
    go_ret
    exact ⟨by first | rfl | (simp [errW_none, errW_some] <;> rfl) | (simp [*, errW_none, errW_some] <;> rfl), bl⟩

/-! ### spec_InRange: function 18 -/
def spec_InRange.f (a0_0 : Int) (a0_1 : Int) (a1 : Int) : Option (Bool) := (spec_IsRange.f a0_0 a0_1).bind fun t410 => (if t410 = true then ((spec_l1In.f a1 a0_0 (wrap64 (a0_1 - 1))).bind fun t411 => (some t411)) else (some false))
set_option maxHeartbeats 8000000 in
set_option maxRecDepth 100000 in
theorem spec_InRange.calls (a0_0 : Int) (a0_1 : Int) (a1 : Int) (r : Bool) (w : World) (h : spec_InRange.f a0_0 a0_1 a1 = some r) :
    Calls Tryz.prog 18 #[.agg #[.int .i64 a0_0, .int .i64 a0_1], .int .i64 a1] w fun e w' => e = .returned (.bool r) ∧ Below w.heap.size w w' := by
  have hu32 := Tryz.underlying32
  have HB := Aside0.mk (Below.refl w.heap.size w)
  have H : ((spec_IsRange.f a0_0 a0_1).bind fun t410 => (if t410 = true then ((spec_l1In.f a1 a0_0 (wrap64 (a0_1 - 1))).bind fun t411 => (some t411)) else (some false))) = some r := h
  clear h
  revert H; refine bo ?_; rintro t410 A3 H
  by_cases c4 : t410 = true
  · subst c4
    rw [if_pos rfl] at H
    revert H; refine bo ?_; rintro t411 A5 H
    obtain rfl := Option.some.inj H
    go_enter Tryz.func18, Tryz.ntmps18
    go_wp2_with (first | ((with_reducible refine gate_dst (N := 2) rfl ?_); refine bx 2 #[.int .i64 a0_0, .int .i64 a0_1] 32 ?_; intro gb409 hg w6 hbox hb; have BK409 := mk hbox; have GW409 := wg hg; have GE409 := wg hg; replace HB := wh hb; clear hb hbox hg; obtain ⟨hcz7_0, hcz7_1, hfz7_0, hfz7_1⟩ := bz2 BK409) | ((with_reducible refine gate_callee (f := 13) rfl ?_); refine gl (some 6) rfl Tryz.func13 #[.agg #[.int .i64 a0_0, .int .i64 a0_1]] ?_; (with_reducible refine (spec_IsRange.calls a0_0 a0_1 true _ A3.out).mono ?_); rintro e w8 ⟨rfl, hb⟩; refine ⟨_, rfl, ?_⟩; replace BK409 := wb BK409 hb; replace HB := wh hb; (try clear hb); (try clear hb2); (try clear hk); (try clear hi); obtain ⟨hcz9_0, hcz9_1, hfz9_0, hfz9_1⟩ := bz2 BK409) | (go_at_call 40; (with_reducible refine (spec_l1In.calls a1 a0_0 (wrap64 (a0_1 - 1)) t411 _ A5.out).mono ?_); rintro e w' ⟨rfl, ⟨nd, rfl⟩⟩))
    go_ret
    exact ⟨by first | rfl | (simp [errW_none, errW_some] <;> rfl) | (simp [*, errW_none, errW_some] <;> rfl), bl⟩
  · replace c4 := Bool.eq_false_iff.mpr c4
    subst c4
    rw [if_neg nf] at H
    obtain rfl := Option.some.inj H
    go_enter Tryz.func18, Tryz.ntmps18
    go_wp2_with (first | ((with_reducible refine gate_dst (N := 2) rfl ?_); refine bx 2 #[.int .i64 a0_0, .int .i64 a0_1] 32 ?_; intro gb409 hg w10 hbox hb; have BK409 := mk hbox; have GW409 := wg hg; have GE409 := wg hg; replace HB := wh hb; clear hb hbox hg; obtain ⟨hcz11_0, hcz11_1, hfz11_0, hfz11_1⟩ := bz2 BK409) | ((with_reducible refine gate_callee (f := 13) rfl ?_); refine gl (some 6) rfl Tryz.func13 #[.agg #[.int .i64 a0_0, .int .i64 a0_1]] ?_; (with_reducible refine (spec_IsRange.calls a0_0 a0_1 false _ A3.out).mono ?_); rintro e w12 ⟨rfl, hb⟩; refine ⟨_, rfl, ?_⟩; replace BK409 := wb BK409 hb; replace HB := wh hb; (try clear hb); (try clear hb2); (try clear hk); (try clear hi)))
    go_ret
    exact ⟨by first | rfl | (simp [errW_none, errW_some] <;> rfl) | (simp [*, errW_none, errW_some] <;> rfl), bl⟩

/-! ### spec_DrawColumnOf: function 19 -/
theorem IsS78.apartNF {w0 W : World} {g : Nat} {f0 : List Int} {f1 : Int} {f2 : Int} {α : Type} {d : Kd α} {e : Nat} {base : Nat} {ok : Nat → Prop} {v : Value} {xs : List α} (h : IsS78 w0 W g f0 f1 f2) (ho : d.NF e W base ok v xs) (ht : ∀ q, q ∈ e :: d.E → q ≠ 78) : d.NF e W base (fun k => ok k ∧ k ≠ g) v xs := by
  obtain ⟨A0, c0, hb, hg, hr0⟩ := h
  exact Kd.NF_types ho hb ht
def spec_DrawColumnOf.f (k : Nat) (l0 : List Int) : Option ((List (S58)) × ByteArray) := (spec_l1New.f k l0).bind fun bt413 => ((spec_l2AnyTable.f k bt413.1 bt413.2.1 bt413.2.2).bind fun bt417 => ((spec_l1Pick.f bt413.1 bt417.2.1 bt417.2.2 (([(⟨#[97]⟩ : ByteArray), (⟨#[98]⟩ : ByteArray), (⟨#[99]⟩ : ByteArray), (⟨#[112, 114, 105, 99, 101]⟩ : ByteArray), (⟨#[]⟩ : ByteArray)] : List ByteArray))).bind fun bt426 => (some (bt417.1, bt426.1))))
theorem spec_DrawColumnOf.mono : ∀ a0 k, LeO (spec_DrawColumnOf.f k a0) (spec_DrawColumnOf.f (k + 1) a0) := by
  intro a0 k
  unfold spec_DrawColumnOf.f
  exact mo
instance spec_DrawColumnOf.mi (a0 k) : LeC (spec_DrawColumnOf.f k a0) (spec_DrawColumnOf.f (k + 1) a0) := ⟨spec_DrawColumnOf.mono a0 k⟩
set_option maxHeartbeats 8000000 in
set_option maxRecDepth 100000 in
theorem spec_DrawColumnOf.calls (k : Nat) (A0 : Option Addr) (c0 : Nat) (l0 : List Int) (r1 : List (S58)) (r2 : ByteArray) (w : World) (hr0 : Kd.C (Kd.int .u8) w A0 l0.length l0) (hc0 : l0.length ≤ c0) (h : spec_DrawColumnOf.f k l0 = some (r1, r2)) :
    Calls Tryz.prog 19 #[.slice A0 l0.length c0] w fun e w' => ∃ v0_ : Value, e = .returned (.tuple #[.agg #[v0_], .string r2]) ∧ Kd.NF k58 58 w' w.heap.size (fun _ => True) v0_ r1 ∧ Below w.heap.size w w' := by
  have hu26 := Tryz.underlying26
  have HR0 := Aside0.mk hr0
  have HC0 := Aside0.mk hc0
  clear hr0 hc0
  have HB := Aside0.mk (Below.refl w.heap.size w)
  have H : ((spec_l1New.f k l0).bind fun bt413 => ((spec_l2AnyTable.f k bt413.1 bt413.2.1 bt413.2.2).bind fun bt417 => ((spec_l1Pick.f bt413.1 bt417.2.1 bt417.2.2 (([(⟨#[97]⟩ : ByteArray), (⟨#[98]⟩ : ByteArray), (⟨#[99]⟩ : ByteArray), (⟨#[112, 114, 105, 99, 101]⟩ : ByteArray), (⟨#[]⟩ : ByteArray)] : List ByteArray))).bind fun bt426 => (some (bt417.1, bt426.1))))) = some (r1, r2) := h
  clear h
  revert H; refine bo ?_; rintro ⟨t413, t414, t415⟩ A2 H
  dsimp only at H
  revert H; refine bo ?_; rintro ⟨t417, t420, t421⟩ A3 H
  dsimp only at H
  obtain ⟨y423, hy423⟩ : ∃ y_ : List ByteArray, y_ = (([(⟨#[97]⟩ : ByteArray), (⟨#[98]⟩ : ByteArray), (⟨#[99]⟩ : ByteArray), (⟨#[112, 114, 105, 99, 101]⟩ : ByteArray), (⟨#[]⟩ : ByteArray)] : List ByteArray)) := ⟨_, rfl⟩
  replace H : ((spec_l1Pick.f t413 t420 t421 y423).bind fun bt426 => (some (t417, bt426.1))) = some (r1, r2) := by first | (rw [hy423]; with_reducible exact H) | (have H2_ := (Option.bind_some _ _).symm.trans H; rw [hy423]; with_reducible exact H2_) | (have H2_ := (Option.bind_some _ _).symm.trans H; with_reducible exact H2_) | with_reducible exact H | (rw [hy423]; exact H) | exact H
  have Ny423 := Aside0.mk hy423
  clear hy423
  revert H; refine bo ?_; rintro ⟨t426, t427, t428⟩ A4 H
  dsimp only at H
  simp only [Option.some.injEq, Prod.mk.injEq] at H
  obtain ⟨rfl, rfl⟩ := H
  go_enter Tryz.func19, Tryz.ntmps19
  try go_wp2_with (first | ((with_reducible refine gate_dst (N := 2) rfl ?_); refine bx 2 #[.slice none 0 0] 26 ?_; intro gb412 hg w5 hbox hb; have BK412 := mk hbox; have GW412 := wg hg; have GE412 := wg hg; replace HB := wh hb; clear hb hbox hg) | ((with_reducible refine gate_callee (f := 29) rfl ?_); refine gl (some 7) rfl Tryz.func29 #[.slice A0 l0.length c0] ?_; (with_reducible refine (spec_l1New.calls k _ _ l0 t413 t414 t415 w _ ?side1 ?side2 ?side3 A2.out).mono ?_); (case side1 => exact bl); (case side2 => exact HR0.out); (case side3 => exact HC0.out); rintro e w6 ⟨g416, rfl, hi, hb, hb2⟩; refine ⟨_, rfl, ?_⟩; replace HB := mk hb; have HI416 := mk hi; have NB416_412 := mk (IsS78.ne_blk hi (blk_below (g := gb412) (o := .cells #[.slice none 0 0] 26 (0, 0)) (ub BK412.out) hb2) (by decide)); have NB412_416 := mk (Ne.symm (IsS78.ne_blk hi (blk_below (g := gb412) (o := .cells #[.slice none 0 0] 26 (0, 0)) (ub BK412.out) hb2) (by decide))); replace BK412 := mk (blk_below (g := gb412) (o := .cells #[.slice none 0 0] 26 (0, 0)) (ub BK412.out) hb2); (try clear hb); (try clear hb2); (try clear hk); (try clear hi)) | ((with_reducible refine gate_callee (f := 28) rfl ?_); refine gl (some 9) rfl Tryz.func28 #[.pointer (some ⟨g416, 0, none⟩)] ?_; (with_reducible refine (spec_l2AnyTable.calls k g416 t413 t414 t415 t417 t420 t421 w _ ?side1 ?side2 A3.out).mono ?_); (case side1 => exact (by repeat (first | (with_reducible first | exact HI416.out | apply IsS78.alloc | apply IsS78.drewN | apply IsS78.drew | apply IsS78.set_1 | apply IsS78.set_2 | refine IsS78.far ?_ NB416_412.out _) | exact HI416.out))); (case side2 => exact (by repeat (first | (with_reducible first | exact HB.out | apply below_alloc | apply pw_below_drewN | apply below_drew1 | refine below_set ?_ (IsS78.ge HI416.out) | refine below_set ?_ GE412.out) | exact HB.out))); rintro e w7 ⟨v418, rfl, ho0, hi, hb, hk⟩; refine ⟨_, rfl, ?_⟩; replace BK412 := mk (KeepBut.blk hk (g' := gb412) (o := .cells #[.slice none 0 0] 26 (0, 0)) (ub BK412.out) NB412_416.out (by simp)); have HO419 := mk (Kd.NF_lower ho0 (below_size (by repeat (first | (with_reducible first | exact HB.out | apply below_alloc | apply pw_below_drewN | apply below_drew1 | refine below_set ?_ (IsS78.ge HI416.out) | refine below_set ?_ GE412.out) | exact HB.out)))); replace HB := mk hb; replace HI416 := mk hi; (try clear hb); (try clear hb2); (try clear hk); (try clear hi); (try clear ho0)) | ((with_reducible refine gate_dst (N := 5) rfl ?_); refine bx 5 #[.slice none 0 0] 26 ?_; intro gb422 hg w8 hbox hb; replace HO419 := mk (Kd.NF_below (by (with_reducible repeat (first | apply Kd.NF_alloc | apply Kd.NF_drewN | apply Kd.NF_drew)); exact HO419.out) hb); have BK422 := mk hbox; have GW422 := mk ((by rw [hg]; exact (below_size (by repeat (first | (with_reducible first | exact HB.out | apply below_alloc | apply pw_below_drewN | apply below_drew1 | refine below_set ?_ (IsS78.ge HI416.out) | refine below_set ?_ GE412.out) | exact HB.out))) : w.heap.size ≤ gb422)); have GE422 := mk ((by rw [hg]; exact (below_size (by repeat (first | (with_reducible first | exact HB.out | apply below_alloc | apply pw_below_drewN | apply below_drew1 | refine below_set ?_ (IsS78.ge HI416.out) | refine below_set ?_ GE412.out) | exact HB.out))) : w.heap.size ≤ gb422)); replace HB := mk (below_step (by repeat (first | (with_reducible first | exact HB.out | apply below_alloc | apply pw_below_drewN | apply below_drew1 | refine below_set ?_ (IsS78.ge HI416.out) | refine below_set ?_ GE412.out) | exact HB.out)) hb); have NB412_422 := nl BK412 hg; have NB422_412 := nr BK412 hg; replace BK412 := wb BK412 hb; have NB416_422 := mk ((by rw [hg]; exact Nat.ne_of_lt (IsS78.lt (show IsS78 w _ g416 t413 t420 t421 from by repeat (first | (with_reducible first | exact HI416.out | apply IsS78.alloc | apply IsS78.drewN | apply IsS78.drew | apply IsS78.set_1 | apply IsS78.set_2 | refine IsS78.far ?_ NB416_412.out _) | exact HI416.out))) : g416 ≠ gb422)); have NB422_416 := mk ((by rw [hg]; exact Nat.ne_of_gt (IsS78.lt (show IsS78 w _ g416 t413 t420 t421 from by repeat (first | (with_reducible first | exact HI416.out | apply IsS78.alloc | apply IsS78.drewN | apply IsS78.drew | apply IsS78.set_1 | apply IsS78.set_2 | refine IsS78.far ?_ NB416_412.out _) | exact HI416.out))) : gb422 ≠ g416)); replace HI416 := mk (IsS78.below (by repeat (first | (with_reducible first | exact HI416.out | apply IsS78.alloc | apply IsS78.drewN | apply IsS78.drew | apply IsS78.set_1 | apply IsS78.set_2 | refine IsS78.far ?_ NB416_412.out _) | exact HI416.out)) hb); clear hb hbox hg; obtain ⟨Ao9, co9, eo9⟩ := Kd.NF_slice HO419.out; subst eo9; have hnb10 := NB422_412.out; have hnc10 := NB412_422.out; have hnb11 := NB422_416.out; have hnc11 := NB416_422.out; obtain ⟨hcz12_0, hfz12_0⟩ := bz1 BK422))
  have n0_ : Aside0 (Kd.NF k58 58 (w8.setCell ⟨gb422, 0, none⟩ (.slice Ao9 t417.length co9)) w.heap.size (fun _ => True) (.slice Ao9 t417.length co9) t417) := ⟨by (with_reducible repeat (first | apply Kd.NF_alloc | apply Kd.NF_drewN | apply Kd.NF_drew)); exact Kd.NF_mono (Kd.NF_far (p := ⟨gb422, 0, none⟩) (Kd.NF_types HO419.out BK422.out (by decide)) (fun _ hk => hk.2) (.slice Ao9 t417.length co9)) (fun _ hk => trivial)⟩
  have n1_ : Aside0 ((w8.setCell ⟨gb422, 0, none⟩ (.slice Ao9 t417.length co9)).heap[gb412]? = some (.cells #[.slice none 0 0] 26 (0, 0))) := ⟨bq⟩
  have n2_ : Aside0 ((w8.setCell ⟨gb422, 0, none⟩ (.slice Ao9 t417.length co9)).heap[gb422]? = some (.cells #[.slice Ao9 t417.length co9] 26 (0, 0))) := ⟨bq⟩
  have n3_ : Aside0 (IsS78 w (w8.setCell ⟨gb422, 0, none⟩ (.slice Ao9 t417.length co9)) g416 t413 t420 t421) := ⟨by repeat (first | (with_reducible first | exact HI416.out | apply IsS78.alloc | apply IsS78.drewN | apply IsS78.drew | apply IsS78.set_1 | apply IsS78.set_2 | refine IsS78.far ?_ NB416_412.out _ | refine IsS78.far ?_ NB416_422.out _) | exact HI416.out)⟩
  have n4_ : Aside0 (Below w.heap.size w (w8.setCell ⟨gb422, 0, none⟩ (.slice Ao9 t417.length co9))) := ⟨by repeat (first | (with_reducible first | exact HB.out | apply below_alloc | apply pw_below_drewN | apply below_drew1 | refine below_set ?_ (IsS78.ge HI416.out) | refine below_set ?_ GE412.out | refine below_set ?_ GE422.out) | exact HB.out)⟩
  (try clear HO419)
  (try clear BK412)
  (try clear BK422)
  (try clear HI416)
  (try clear HB)
  generalize (w8.setCell ⟨gb422, 0, none⟩ (.slice Ao9 t417.length co9)) = w13 at n0_ n1_ n2_ n3_ n4_ ⊢
  have HO419 := n0_
  have BK412 := n1_
  have BK422 := n2_
  have HI416 := n3_
  have HB := n4_
  clear n0_ n1_ n2_ n3_ n4_
  replace HO419 := mk (Kd.NF_drew HO419.out)
  replace BK412 := wd BK412
  replace BK422 := wd BK422
  replace HI416 := mk (IsS78.drew HI416.out)
  replace HB := mk (below_drew1 HB.out)
  refine start_ (n := 6) (S := fun w' => w'.cell? ⟨gb422, 0, none⟩ = some (.slice Ao9 t417.length co9)) (ds := []) #[false, false, false, false, false, false] (by kernel_rfl) rfl rfl ((blk_cell BK422.out 0).trans rfl) (fun hHeld => ?_)
  generalize w13.drew = w14 at HO419 BK412 BK422 HI416 HB hHeld ⊢
  refine pu 1 11 #[F_,T_,F_,F_,F_,F_] ?_
  refine take_ (i := 0) (N := some 10) (v := ?_) (a' := ?_) #[true, true, false, false, false, false] rfl rfl (by kernel_rfl) (fun _ _ _ h => h) (Or.inl ⟨by rfl, ?_⟩) hHeld ?_ ?_
  rotate_left
  · intro w' s0
    go_simp
    with_reducible rfl
  rotate_left
  · simp only [Act.put, List.setIfInBounds_toArray, List.set_cons_zero, List.set_cons_succ, i64_w, i32_w]
    rfl
  refine on 2 12 (tf 3 3) (fun K hK => ?_)
  refine Kd.R_lit_step Kd.string _ 9 ?hg (N := 12) ?hd (xs := ([(⟨#[97]⟩ : ByteArray), (⟨#[98]⟩ : ByteArray), (⟨#[99]⟩ : ByteArray), (⟨#[112, 114, 105, 99, 101]⟩ : ByteArray), (⟨#[]⟩ : ByteArray)] : List ByteArray)) (inner := [.string (⟨#[97]⟩ : ByteArray), .string (⟨#[98]⟩ : ByteArray), .string (⟨#[99]⟩ : ByteArray), .string (⟨#[112, 114, 105, 99, 101]⟩ : ByteArray), .string (⟨#[]⟩ : ByteArray)]) (ok := fun _ => True) (okp := fun _ => True) ?hr ?hp (fun _ hk => hk) trivial (Below.refl _ _) (Nat.le_refl _) (by simp) ?_; (case hd => rfl); (case hg => rfl); (case hr => first | (go_simp; done) | (go_simp; rfl)); (case hp => exact (Reps.one (show Kd.M Kd.string _ _ _ (⟨#[97]⟩ : ByteArray) [.string (⟨#[97]⟩ : ByteArray)] from rfl) (Reps.one (show Kd.M Kd.string _ _ _ (⟨#[98]⟩ : ByteArray) [.string (⟨#[98]⟩ : ByteArray)] from rfl) (Reps.one (show Kd.M Kd.string _ _ _ (⟨#[99]⟩ : ByteArray) [.string (⟨#[99]⟩ : ByteArray)] from rfl) (Reps.one (show Kd.M Kd.string _ _ _ (⟨#[112, 114, 105, 99, 101]⟩ : ByteArray) [.string (⟨#[112, 114, 105, 99, 101]⟩ : ByteArray)] from rfl) (Reps.one (show Kd.M Kd.string _ _ _ (⟨#[]⟩ : ByteArray) [.string (⟨#[]⟩ : ByteArray)] from rfl) (Reps.none _ _)))))))
  intro v424 w15 ho16 hb hg_ hnew_
  clear hg_ hnew_
  (first | rw [← Ny423.out] at ho16 | (simp only [Int.reduceToNat] at ho16; rw [← Ny423.out] at ho16))
  replace HO419 := mk (Kd.NF_below (by (with_reducible repeat (first | apply Kd.NF_alloc | apply Kd.NF_drewN | apply Kd.NF_drew)); exact HO419.out) hb)
  have HO425 := mk (Kd.R_lower ho16 (below_size (by repeat (first | (with_reducible first | exact HB.out | apply below_alloc | apply pw_below_drewN | apply below_drew1 | refine below_set ?_ (IsS78.ge HI416.out) | refine below_set ?_ GE412.out | refine below_set ?_ GE422.out) | exact HB.out))))
  replace BK412 := wb BK412 hb
  replace BK422 := wb BK422 hb
  replace HB := mk (below_step (by repeat (first | (with_reducible first | exact HB.out | apply below_alloc | apply pw_below_drewN | apply below_drew1 | refine below_set ?_ (IsS78.ge HI416.out) | refine below_set ?_ GE412.out | refine below_set ?_ GE422.out) | exact HB.out)) hb)
  replace HI416 := mk (IsS78.below (by repeat (first | (with_reducible first | exact HI416.out | apply IsS78.alloc | apply IsS78.drewN | apply IsS78.drew | apply IsS78.set_1 | apply IsS78.set_2 | refine IsS78.far ?_ NB416_412.out _ | refine IsS78.far ?_ NB416_422.out _) | exact HI416.out)) hb)
  clear hb ho16
  obtain ⟨Ao17, co17, eo17⟩ := Kd.R_slice HO425.out
  (first | subst eo17 | (injection eo17 with f1_ f2_ f3_; have f4_ := f1_.symm; have f5_ := f3_.symm; clear f1_ f2_ f3_; subst f4_; subst f5_))
  refine hK.out _ _ ((blk_cell BK422.out 0).trans rfl) (fun hHeld => ?_)
  clear hK K
  refine nm 12 ?_
  refine on 3 13 (tf 4 2) (fun K hK => ?_)
  refine gs Tryz.func44 #[.pointer (some ⟨g416, 0, none⟩), .slice Ao17 y423.length co17] ?_
  with_reducible refine (spec_l1Pick.calls g416 t413 t420 t421 _ _ y423 t426 t427 t428 w _ ?side1 ?side2 ?side3 ?side4 ?side5 A4.out).mono ?_
  (case side1 => exact (by repeat (first | (with_reducible first | exact HI416.out | apply IsS78.alloc | apply IsS78.drewN | apply IsS78.drew | apply IsS78.set_1 | apply IsS78.set_2 | refine IsS78.far ?_ NB416_412.out _ | refine IsS78.far ?_ NB416_422.out _) | exact HI416.out)))
  (case side2 => exact (by repeat (first | (with_reducible first | exact HB.out | apply below_alloc | apply pw_below_drewN | apply below_drew1 | refine below_set ?_ (IsS78.ge HI416.out) | refine below_set ?_ GE412.out | refine below_set ?_ GE422.out) | exact HB.out)))
  (case side3 => exact uc (Kd.R_reads' HO425.out).2.2)
  (case side4 => exact (Kd.R_reads' HO425.out).2.1)
  (case side5 => exact far_slice (IsS78.own_ne HI416.out HO425.out (by decide)))
  rintro e w18 ⟨rfl, hi, hb, hk⟩
  refine ⟨_, rfl, ?_⟩
  replace BK412 := mk (KeepBut.blk hk (g' := gb412) (o := .cells #[.slice none 0 0] 26 (0, 0)) (ub BK412.out) NB412_416.out (by simp))
  replace HO419 := mk (Kd.NF_mono (Kd.NF_keep (IsS78.apartNF (show IsS78 w _ g416 t413 t420 t421 from by repeat (first | (with_reducible first | exact HI416.out | apply IsS78.alloc | apply IsS78.drewN | apply IsS78.drew | apply IsS78.set_1 | apply IsS78.set_2 | refine IsS78.far ?_ NB416_412.out _ | refine IsS78.far ?_ NB416_422.out _) | exact HI416.out)) (by (with_reducible repeat (first | apply Kd.NF_alloc | apply Kd.NF_drewN | apply Kd.NF_drew)); exact HO419.out) (by decide)) hk (fun _ h => h.2)) (fun _ h => h.1))
  replace BK422 := mk (KeepBut.blk hk (g' := gb422) (o := .cells #[.slice Ao9 t417.length co9] 26 (0, 0)) (ub BK422.out) NB422_416.out (by simp))
  replace HO425 := mk (Kd.R_mono (Kd.R_keep (IsS78.apart (show IsS78 w _ g416 t413 t420 t421 from by repeat (first | (with_reducible first | exact HI416.out | apply IsS78.alloc | apply IsS78.drewN | apply IsS78.drew | apply IsS78.set_1 | apply IsS78.set_2 | refine IsS78.far ?_ NB416_412.out _ | refine IsS78.far ?_ NB416_422.out _) | exact HI416.out)) (up HO425.out) (by decide)) hk (fun _ h => h.2)) (fun _ h => h.1))
  replace HB := mk hb
  replace HI416 := mk hi
  (try clear hb)
  (try clear hb2)
  (try clear hk)
  (try clear hi)
  refine hK.out _ _ ((blk_cell BK422.out 0).trans rfl) (fun hHeld => ?_)
  clear hK K
  refine nm 13 ?_
  refine one_ (i := 4) (N := none) #[true, true, true, true, true, false] rfl rfl (by kernel_rfl) (by decide) (fun K hK => ?_)
  have hs19 : w18.cell? ⟨gb412, 0, none⟩ = some (.slice none 0 0) := (blk_cell BK412.out 0).trans rfl
  have hfs19 := blk_frozen BK412.out 0
  have hns19_1 := NB422_412.out
  have hms19_1 := NB412_422.out
  refine skip_ (w1 := ?_) (by rfl) rfl ?_ ?_
  rotate_left
  · go_simp
    rfl
  refine hK.out _ _ (((cell_far (p := ⟨gb412, _, none⟩) NB422_412.out _).trans (hHeld))) (fun hHeld => ?_)
  clear hK K
  refine pu 5 3 (tf 6 0) ?_
  refine done_ (by kernel_rfl) ?_
  try go_wp2
  refine bodyPost_ret (results_ct rfl _ _ gb412 26 #[.slice Ao9 t417.length co9] (0, 0) _ rfl bq Tryz.underlying26 rfl (by kernel_rfl)) rfl ?_
  exact ⟨_, by first | rfl | (simp [errW_none, errW_some] <;> rfl) | (simp [*, errW_none, errW_some] <;> rfl), by (with_reducible repeat (first | apply Kd.NF_alloc | apply Kd.NF_drewN | apply Kd.NF_drew)); exact Kd.NF_mono (Kd.NF_far (p := ⟨gb412, 0, none⟩) (Kd.NF_types HO419.out BK412.out (by decide)) (fun _ hk => hk.2) (.slice Ao9 t417.length co9)) (fun _ hk => trivial), by repeat (first | (with_reducible first | exact HB.out | apply below_alloc | apply pw_below_drewN | apply below_drew1 | refine below_set ?_ (IsS78.ge HI416.out) | refine below_set ?_ GE412.out | refine below_set ?_ GE422.out) | exact HB.out)⟩

/-! ### slices_Clone_int_int: function 45 -/
def slices_Clone_int_int.f (l0 : List Int) : Option (List Int) := if l0.length < 17592186044416 then some l0 else none
set_option maxHeartbeats 8000000 in
set_option maxRecDepth 100000 in
theorem slices_Clone_int_int.calls (A0 : Option Addr) (c0 : Nat) (l0 : List Int) (r : List Int) (w : World) (hr0 : Kd.C (Kd.int .i64) w A0 l0.length l0) (hc0 : l0.length ≤ c0) (h : slices_Clone_int_int.f l0 = some r) :
    Calls Tryz.prog 45 #[.slice A0 l0.length c0] w fun e w' => ∃ v0_ : Value, e = .returned (v0_) ∧ Kd.R (Kd.int .i64) 3 w' w.heap.size (fun _ => True) v0_ r ∧ Below w.heap.size w w' := by
  have hE : ∀ (w w' : World) base ok x cs, ((Kd.int .i64)).K w x cs → ((Kd.int .i64)).M w' base ok x cs := fun _ _ _ _ _ _ h => h
  have q := fun (w : World) (a : Option Addr) (n c n' c' : Nat) => Go.Lib.run_eql_slice_nil (P := Tryz.prog) w 47 3 a n c n' c' Tryz.underlying47
  obtain ⟨i0, hi, hzz⟩ := Option.map_eq_some_iff.1 info3
  simp only [Prod.mk.injEq] at hzz
  obtain ⟨hz0, hz1, hz2⟩ := hzz
  unfold slices_Clone_int_int.f at h
  by_cases hlen : l0.length < 17592186044416
  · rw [if_pos hlen] at h
    obtain rfl := Option.some.inj h
    clear h
    have HR := Aside0.mk hr0
    clear hr0
    rcases A0 with _ | ad
    · have hz : l0 = [] := by
        rcases Nat.eq_zero_or_pos l0.length with h0 | h0
        · exact List.eq_nil_of_length_eq_zero h0
        · obtain ⟨ad, e, _⟩ := HR.out.2.2 h0
          cases e
      subst hz
      clear HR hc0 hlen
      go_enter Tryz.func45, Tryz.ntmps45
      go_wp2
      go_ret
      exact ⟨_, rfl, Kd.R_nil _ _ _ _ _, Below.refl _ _⟩
    · obtain ⟨inner, hrep, hcell⟩ := ReadsRow.inner_ HR.out
      have h1 : ∀ u ∈ inner, u.oneCell' = true := by
        intro u hu
        obtain ⟨j, hj⟩ := List.mem_iff_getElem?.1 hu
        have hl := hrep.1
        have hjl : j < inner.length := (List.getElem?_eq_some_iff.1 hj).1
        have hs : ((Kd.int .i64)).sz = 1 := rfl
        rw [hs] at hl
        have hd : j / 1 < l0.length := by omega
        obtain ⟨p, hp⟩ : ∃ p, l0[j / 1]? = some p := ⟨_, List.getElem?_eq_getElem hd⟩
        refine ((Kd.int .i64)).K_one (hrep.2 _ p hp) u ?_
        refine List.mem_iff_getElem?.2 ⟨j % 1, ?_⟩
        rw [hs, List.getElem?_take, if_pos (by omega), List.getElem?_drop, ← hj]
        congr 1
        omega
      have HI := Aside0.mk hcell
      have HP := Aside0.mk hrep
      have HO := Aside0.mk h1
      clear hcell hrep h1
      have hlm : l0.length ≤ maxLen := by unfold maxLen; omega
      have hlb : l0.length * 8 ≤ 140737488355328 := by omega
      go_enter Tryz.func45, Tryz.ntmps45
      go_wp2_with (at_builtin; refine wpList_append_own _ rfl _ _ 47 rfl w.heap.size 3 i0 (.int .i64 0) 1 8 Tryz.underlying47 hi hz0 hz1 hz2 rfl (by decide) _ _ _ rfl (World.ownsRow_made w #[] 0 (Nat.le_refl _) (Nat.zero_le _) (by simp)) ad l0.length c0 inner rfl ?qc1 ?qc2 ?qc3 ?qc4 ?qc5 ?qc6 ?_)
      case qc1 => exact HP.out.1
      case qc2 =>
        intro j u hj
        exact Go.Lib.cell?_alloc_some _ (HI.out j u hj)
      case qc3 => exact HO.out
      case qc4 => rw [Nat.zero_add]; exact hlm
      case qc5 => rw [Nat.zero_add]; exact hlb
      case qc6 => simp
      intro v' w1 hown hgrow hnil
      go_wp2
      go_ret
      refine ⟨v', rfl, ⟨fun _ _ => trivial, inner, by have h2 := hown; (try simp only [Nat.zero_add, List.nil_append] at h2); exact h2, ?_⟩, ?_⟩
      · exact Reps.imp_ HP.out (fun _ _ hp => hE _ _ _ _ _ _ hp)
      · exact ((Below.refl _ w).alloc (Nat.le_refl _) _).grown hgrow (by simp) (by intro k hk; simp [Value.ownBlock] at hk; omega)
  · rw [if_neg hlen] at h
    cases h


/-! ### impl_ColumnOf: function 20 -/
def impl_ColumnOf.f (k : Nat) (l0_0 : List (S58)) (a1 : ByteArray) : Option (List Int × Bool) := (impl_FindColumn.f l0_0 a1).bind fun t430 => ((impl_IsTable.f k l0_0).bind fun t431 => (if t431 = true then (if t430 < 0 then (some (([] : List Int), false)) else (if 0 ≤ t430 then (if t430 < (l0_0.length : Int) then ((slices_Clone_int_int.f ((rd_T58 l0_0 t430).f1)).bind fun t433 => (some (t433, true))) else (none)) else (none))) else (some (([] : List Int), false))))
theorem impl_ColumnOf.mono : ∀ a0 a1 k, LeO (impl_ColumnOf.f k a0 a1) (impl_ColumnOf.f (k + 1) a0 a1) := by
  intro a0 a1 k
  unfold impl_ColumnOf.f
  exact mo
instance impl_ColumnOf.mi (a0 a1 k) : LeC (impl_ColumnOf.f k a0 a1) (impl_ColumnOf.f (k + 1) a0 a1) := ⟨impl_ColumnOf.mono a0 a1 k⟩
set_option maxHeartbeats 8000000 in
set_option maxRecDepth 100000 in
theorem impl_ColumnOf.calls (k : Nat) (A0_0 : Option Addr) (c0_0 : Nat) (l0_0 : List (S58)) (a1 : ByteArray) (r1 : List Int) (r2 : Bool) (w : World) (hr0_0 : Kd.C k58 w A0_0 l0_0.length l0_0) (hc0_0 : l0_0.length ≤ c0_0) (h : impl_ColumnOf.f k l0_0 a1 = some (r1, r2)) :
    Calls Tryz.prog 20 #[.agg #[.slice A0_0 l0_0.length c0_0], .string a1] w fun e w' => ∃ v0_ : Value, e = .returned (.tuple #[v0_, .bool r2]) ∧ Kd.R (Kd.int .i64) 3 w' w.heap.size (fun _ => True) v0_ r1 ∧ Below w.heap.size w w' := by
  have hu26 := Tryz.underlying26
  have HR0_0 := Aside0.mk hr0_0
  have HC0_0 := Aside0.mk hc0_0
  clear hr0_0 hc0_0
  have HB := Aside0.mk (Below.refl w.heap.size w)
  have H : ((impl_FindColumn.f l0_0 a1).bind fun t430 => ((impl_IsTable.f k l0_0).bind fun t431 => (if t431 = true then (if t430 < 0 then (some (([] : List Int), false)) else (if 0 ≤ t430 then (if t430 < (l0_0.length : Int) then ((slices_Clone_int_int.f ((rd_T58 l0_0 t430).f1)).bind fun t433 => (some (t433, true))) else (none)) else (none))) else (some (([] : List Int), false))))) = some (r1, r2) := h
  clear h
  revert H; refine bo ?_; rintro t430 A3 H
  revert H; refine bo ?_; rintro t431 A4 H
  by_cases c5 : t431 = true
  · subst c5
    rw [if_pos rfl] at H
    by_cases c6 : t430 < 0
    · rw [if_pos c6] at H
      have c6b0 : decide (t430 < 0) = true := decide_eq_true c6
      clear c6
      simp only [Option.some.injEq, Prod.mk.injEq] at H
      obtain ⟨rfl, rfl⟩ := H
      go_enter Tryz.func20, Tryz.ntmps20
      go_wp2_with (first | ((with_reducible refine gate_dst (N := 2) rfl ?_); refine bx 2 #[.slice A0_0 l0_0.length c0_0] 26 ?_; intro gb429 hg w7 hbox hb; have BK429 := mk hbox; have GW429 := wg hg; have GE429 := wg hg; replace HB := wh hb; clear hb hbox hg; obtain ⟨hcz8_0, hfz8_0⟩ := bz1 BK429) | ((with_reducible refine gate_callee (f := 26) rfl ?_); refine gl (some 9) rfl Tryz.func26 #[.agg #[.slice A0_0 l0_0.length c0_0], .string a1] ?_; (with_reducible refine (impl_FindColumn.calls _ _ l0_0 a1 t430 _ ?side1 ?side2 A3.out).mono ?_); (case side1 => exact uc (Kd.C_below HR0_0.out HB.out)); (case side2 => exact HC0_0.out); rintro e w9 ⟨rfl, hb⟩; refine ⟨_, rfl, ?_⟩; replace BK429 := wb BK429 hb; replace HB := wh hb; (try clear hb); (try clear hb2); (try clear hk); (try clear hi); obtain ⟨hcz10_0, hfz10_0⟩ := bz1 BK429) | ((with_reducible refine gate_callee (f := 30) rfl ?_); refine gl (some 11) rfl Tryz.func30 #[.agg #[.slice A0_0 l0_0.length c0_0]] ?_; (with_reducible refine (impl_IsTable.calls k _ _ l0_0 true _ ?side1 ?side2 A4.out).mono ?_); (case side1 => exact uc (Kd.C_below HR0_0.out HB.out)); (case side2 => exact HC0_0.out); rintro e w11 ⟨rfl, hb⟩; refine ⟨_, rfl, ?_⟩; replace BK429 := wb BK429 hb; replace HB := wh hb; (try clear hb); (try clear hb2); (try clear hk); (try clear hi)))
      go_ret2
      exact ⟨_, by first | rfl | (simp [errW_none, errW_some] <;> rfl) | (simp [*, errW_none, errW_some] <;> rfl), by first | exact Kd.R_nil _ _ _ _ _ | exact Kd.N_nil _ _ _ _ _ | exact Kd.V_nil _ _ _ _ _ | exact Kd.Q_nil _ _ _ _ _ | exact Kd.S_nil _ _ _ _ _, bl⟩
    · rw [if_neg c6] at H
      have c6b0 : decide (t430 < 0) = false := decide_eq_false c6
      clear c6
      by_cases c12 : 0 ≤ t430
      · rw [if_pos c12] at H
        have c12b0 : decide (0 ≤ t430) = true := decide_eq_true c12
        clear c12
        by_cases c13 : t430 < (l0_0.length : Int)
        · rw [if_pos c13] at H
          have c13b0 : decide (t430 < (l0_0.length : Int)) = true := decide_eq_true c13
          clear c13
          revert H; refine bo ?_; rintro t433 A14 H
          simp only [Option.some.injEq, Prod.mk.injEq] at H
          obtain ⟨rfl, rfl⟩ := H
          go_enter Tryz.func20, Tryz.ntmps20
          go_wp2_with (first | ((with_reducible refine gate_dst (N := 2) rfl ?_); refine bx 2 #[.slice A0_0 l0_0.length c0_0] 26 ?_; intro gb429 hg w15 hbox hb; have BK429 := mk hbox; have GW429 := wg hg; have GE429 := wg hg; replace HB := wh hb; clear hb hbox hg; obtain ⟨hcz16_0, hfz16_0⟩ := bz1 BK429) | ((with_reducible refine gate_callee (f := 26) rfl ?_); refine gl (some 9) rfl Tryz.func26 #[.agg #[.slice A0_0 l0_0.length c0_0], .string a1] ?_; (with_reducible refine (impl_FindColumn.calls _ _ l0_0 a1 t430 _ ?side1 ?side2 A3.out).mono ?_); (case side1 => exact uc (Kd.C_below HR0_0.out HB.out)); (case side2 => exact HC0_0.out); rintro e w17 ⟨rfl, hb⟩; refine ⟨_, rfl, ?_⟩; replace BK429 := wb BK429 hb; replace HB := wh hb; (try clear hb); (try clear hb2); (try clear hk); (try clear hi); obtain ⟨hcz18_0, hfz18_0⟩ := bz1 BK429) | ((with_reducible refine gate_callee (f := 30) rfl ?_); refine gl (some 11) rfl Tryz.func30 #[.agg #[.slice A0_0 l0_0.length c0_0]] ?_; (with_reducible refine (impl_IsTable.calls k _ _ l0_0 true _ ?side1 ?side2 A4.out).mono ?_); (case side1 => exact uc (Kd.C_below HR0_0.out HB.out)); (case side2 => exact HC0_0.out); rintro e w19 ⟨rfl, hb⟩; refine ⟨_, rfl, ?_⟩; replace BK429 := wb BK429 hb; replace HB := wh hb; (try clear hb); (try clear hb2); (try clear hk); (try clear hi); obtain ⟨hcz20_0, hfz20_0⟩ := bz1 BK429; have p432 : 0 ≤ (t430 : Int) := dt; have q432 : t430 < (l0_0.length : Int) := dt; obtain ⟨ad432, A432_1, c432_1, e432, hx432_0, hx432_1, hl432_1, hi432_1⟩ := at_T58 HR0_0.out t430 p432 q432; cases e432; replace hx432_0 := (HB.out.cell (World.block_lt_of_cell? w _ hx432_0)).trans hx432_0; replace hx432_1 := (HB.out.cell (World.block_lt_of_cell? w _ hx432_1)).trans hx432_1; have HR432_1 := Aside0.mk hi432_1; have HC432_1 := Aside0.mk hl432_1; clear hi432_1 hl432_1; replace p432 := eq_true p432; replace q432 := eq_true q432) | ((with_reducible refine gate_callee (f := 45) rfl ?_); refine gl (some 23) rfl Tryz.func45 #[.slice A432_1 ((rd_T58 l0_0 t430).f1).length c432_1] ?_; (with_reducible refine (slices_Clone_int_int.calls _ _ ((rd_T58 l0_0 t430).f1) t433 _ ?side1 ?side2 A14.out).mono ?_); (case side1 => exact uc (Kd.C_below HR432_1.out HB.out)); (case side2 => exact HC432_1.out); rintro e w21 ⟨v434, rfl, ho0, hb⟩; refine ⟨_, rfl, ?_⟩; have HO435 := mk (Kd.R_lower ho0 (below_size bl)); replace BK429 := wb BK429 hb; replace HB := wh hb; (try clear hb); (try clear hb2); (try clear hk); (try clear hi); (try clear ho0)))
          go_ret2
          exact ⟨_, by first | rfl | (simp [errW_none, errW_some] <;> rfl) | (simp [*, errW_none, errW_some] <;> rfl), up HO435.out, bl⟩
        · rw [if_neg c13] at H
          exact absurd H (by simp)
      · rw [if_neg c12] at H
        exact absurd H (by simp)
  · replace c5 := Bool.eq_false_iff.mpr c5
    subst c5
    rw [if_neg nf] at H
    simp only [Option.some.injEq, Prod.mk.injEq] at H
    obtain ⟨rfl, rfl⟩ := H
    go_enter Tryz.func20, Tryz.ntmps20
    go_wp2_with (first | ((with_reducible refine gate_dst (N := 2) rfl ?_); refine bx 2 #[.slice A0_0 l0_0.length c0_0] 26 ?_; intro gb429 hg w22 hbox hb; have BK429 := mk hbox; have GW429 := wg hg; have GE429 := wg hg; replace HB := wh hb; clear hb hbox hg; obtain ⟨hcz23_0, hfz23_0⟩ := bz1 BK429) | ((with_reducible refine gate_callee (f := 26) rfl ?_); refine gl (some 9) rfl Tryz.func26 #[.agg #[.slice A0_0 l0_0.length c0_0], .string a1] ?_; (with_reducible refine (impl_FindColumn.calls _ _ l0_0 a1 t430 _ ?side1 ?side2 A3.out).mono ?_); (case side1 => exact uc (Kd.C_below HR0_0.out HB.out)); (case side2 => exact HC0_0.out); rintro e w24 ⟨rfl, hb⟩; refine ⟨_, rfl, ?_⟩; replace BK429 := wb BK429 hb; replace HB := wh hb; (try clear hb); (try clear hb2); (try clear hk); (try clear hi); obtain ⟨hcz25_0, hfz25_0⟩ := bz1 BK429) | ((with_reducible refine gate_callee (f := 30) rfl ?_); refine gl (some 11) rfl Tryz.func30 #[.agg #[.slice A0_0 l0_0.length c0_0]] ?_; (with_reducible refine (impl_IsTable.calls k _ _ l0_0 false _ ?side1 ?side2 A4.out).mono ?_); (case side1 => exact uc (Kd.C_below HR0_0.out HB.out)); (case side2 => exact HC0_0.out); rintro e w26 ⟨rfl, hb⟩; refine ⟨_, rfl, ?_⟩; replace BK429 := wb BK429 hb; replace HB := wh hb; (try clear hb); (try clear hb2); (try clear hk); (try clear hi)))
    go_ret2
    exact ⟨_, by first | rfl | (simp [errW_none, errW_some] <;> rfl) | (simp [*, errW_none, errW_some] <;> rfl), by first | exact Kd.R_nil _ _ _ _ _ | exact Kd.N_nil _ _ _ _ _ | exact Kd.V_nil _ _ _ _ _ | exact Kd.Q_nil _ _ _ _ _ | exact Kd.S_nil _ _ _ _ _, bl⟩

/-! ### spec_FindColumn: function 27 -/
def spec_FindColumn.l0 : Nat → ByteArray → Int → List (S58) → Option (Int)
  | 0, _, _, _ => none
  | k + 1, x1, x5, x437000 => if x5 < (x437000.length : Int) then (if 0 ≤ x5 then (if ((rd_T58 x437000 x5).f0).toList = x1.toList then (some x5) else (spec_FindColumn.l0 k x1 (wrap64 (x5 + 1)) x437000)) else (none)) else (some (-1))
def spec_FindColumn.f (k : Nat) (l0_0 : List (S58)) (a1 : ByteArray) : Option (Int) := spec_FindColumn.l0 k a1 0 l0_0
theorem spec_FindColumn.mono_l : ∀ k, (∀ y0 y1 y2, LeO (spec_FindColumn.l0 k y0 y1 y2) (spec_FindColumn.l0 (k + 1) y0 y1 y2))
  | 0 => fun _ _ _ r h => by simp [spec_FindColumn.l0] at h
  | k + 1 => by
    have ih0 := spec_FindColumn.mono_l k
    · intro y0 y1 y2
      unfold spec_FindColumn.l0
      exact mo
theorem spec_FindColumn.mono : ∀ a0 a1 k, LeO (spec_FindColumn.f k a0 a1) (spec_FindColumn.f (k + 1) a0 a1) := by
  intro a0 a1 k
  have ih0 := spec_FindColumn.mono_l k
  unfold spec_FindColumn.f
  exact mo
instance spec_FindColumn.mi (a0 a1 k) : LeC (spec_FindColumn.f k a0 a1) (spec_FindColumn.f (k + 1) a0 a1) := ⟨spec_FindColumn.mono a0 a1 k⟩
set_option maxHeartbeats 8000000 in
set_option maxRecDepth 100000 in
theorem spec_FindColumn.calls (k : Nat) (A0_0 : Option Addr) (c0_0 : Nat) (l0_0 : List (S58)) (a1 : ByteArray) (r : Int) (w : World) (hr0_0 : Kd.C k58 w A0_0 l0_0.length l0_0) (hc0_0 : l0_0.length ≤ c0_0) (h : spec_FindColumn.f k l0_0 a1 = some r) :
    Calls Tryz.prog 27 #[.agg #[.slice A0_0 l0_0.length c0_0], .string a1] w fun e w' => e = .returned (.int .i64 r) ∧ Below w.heap.size w w' := by
  have hu26 := Tryz.underlying26
  have HR0_0 := Aside0.mk hr0_0
  have HC0_0 := Aside0.mk hc0_0
  clear hr0_0 hc0_0
  have HB := Aside0.mk (Below.refl w.heap.size w)
  have H : (spec_FindColumn.l0 k a1 0 l0_0) = some r := h
  clear h
  have H' := Aside0.mk H
  clear H
  go_enter Tryz.func27, Tryz.ntmps27
  go_wp2_with (first | ((with_reducible refine gate_dst (N := 2) rfl ?_); refine bx 2 #[.slice A0_0 l0_0.length c0_0] 26 ?_; intro gb436 hg w3 hbox hb; have BK436 := mk hbox; have GW436 := wg hg; have GE436 := wg hg; replace HB := wh hb; clear hb hbox hg))
  go_loopg [5] k (fun kq v5 w' => ∃ (x5_1 : Int), v5 = .int .i64 x5_1 ∧ Aside0 (spec_FindColumn.l0 kq a1 x5_1 l0_0 = some r) ∧ Aside0 (kq ≤ k) ∧ Aside0 (w'.heap[gb436]? = some (.cells #[(.slice A0_0 l0_0.length c0_0)] 26 (0, 0))) ∧ Aside0 (Below w.heap.size w w'))
  case atStart => exact ⟨(0), (by first | rfl | (simp; done) | (simp [*]; done)), H', ⟨Nat.le_refl _⟩, ⟨ub BK436.out⟩, ⟨bl⟩⟩
  case round =>
    clear H'
    try clear c2
    try clear p2
    obtain ⟨x5_1, rfl, HA, HK1, BK436, HB⟩ := hrel
    cases gk with
    | zero => exact absurd HA.out (by simp [spec_FindColumn.l0])
    | succ k1 =>
      have H := HA.out
      clear HA
      simp only [spec_FindColumn.l0] at H
      by_cases c4 : x5_1 < (l0_0.length : Int)
      · rw [if_pos c4] at H
        have c4b0 : decide (x5_1 < (l0_0.length : Int)) = true := decide_eq_true c4
        clear c4
        by_cases c5 : 0 ≤ x5_1
        · rw [if_pos c5] at H
          have c5b0 : decide (0 ≤ x5_1) = true := decide_eq_true c5
          clear c5
          by_cases c6 : ((rd_T58 l0_0 x5_1).f0).toList = a1.toList
          · rw [if_pos c6] at H
            have c6b0 : (((rd_T58 l0_0 x5_1).f0).toList == a1.toList) = true := beq_iff_eq.mpr c6
            have c6b1 : (((rd_T58 l0_0 x5_1).f0).toList != a1.toList) = false := bne_eq_false_iff_eq.mpr c6
            clear c6
            obtain rfl := Option.some.inj H
            obtain ⟨hcz7_0, hfz7_0⟩ := bz1 BK436
            have p437 : 0 ≤ (x5_1 : Int) := dt
            have q437 : x5_1 < (l0_0.length : Int) := dt
            obtain ⟨ad437, A437_1, c437_1, e437, hx437_0, hx437_1, hl437_1, hi437_1⟩ := at_T58 HR0_0.out x5_1 p437 q437
            cases e437
            replace hx437_0 := (HB.out.cell (World.block_lt_of_cell? w _ hx437_0)).trans hx437_0
            replace hx437_1 := (HB.out.cell (World.block_lt_of_cell? w _ hx437_1)).trans hx437_1
            have HR437_1 := Aside0.mk hi437_1
            have HC437_1 := Aside0.mk hl437_1
            clear hi437_1 hl437_1
            replace p437 := eq_true p437
            replace q437 := eq_true q437
            go_wp2
            go_ret
            exact ⟨by first | rfl | (simp [errW_none, errW_some] <;> rfl) | (simp [*, errW_none, errW_some] <;> rfl), bl⟩
          · rw [if_neg c6] at H
            have c6b0 : (((rd_T58 l0_0 x5_1).f0).toList == a1.toList) = false := beq_eq_false_iff_ne.mpr c6
            have c6b1 : (((rd_T58 l0_0 x5_1).f0).toList != a1.toList) = true := bne_iff_ne.mpr c6
            have H' := Aside0.mk H
            clear H
            obtain ⟨hcz8_0, hfz8_0⟩ := bz1 BK436
            have p437 : 0 ≤ (x5_1 : Int) := dt
            have q437 : x5_1 < (l0_0.length : Int) := dt
            obtain ⟨ad437, A437_1, c437_1, e437, hx437_0, hx437_1, hl437_1, hi437_1⟩ := at_T58 HR0_0.out x5_1 p437 q437
            cases e437
            replace hx437_0 := (HB.out.cell (World.block_lt_of_cell? w _ hx437_0)).trans hx437_0
            replace hx437_1 := (HB.out.cell (World.block_lt_of_cell? w _ hx437_1)).trans hx437_1
            have HR437_1 := Aside0.mk hi437_1
            have HC437_1 := Aside0.mk hl437_1
            clear hi437_1 hl437_1
            replace p437 := eq_true p437
            replace q437 := eq_true q437
            go_wp2
            go_roundg k1
            case measure => have := HK1.out; omega
            case rel => exact ⟨(wrap64 (x5_1 + 1)), (by first | rfl | (simp; done) | (simp [*]; done)), H', ⟨by have := HK1.out; omega⟩, ⟨ub BK436.out⟩, ⟨bl⟩⟩
        · rw [if_neg c5] at H
          exact absurd H (by simp)
      · rw [if_neg c4] at H
        have c4b0 : decide (x5_1 < (l0_0.length : Int)) = false := decide_eq_false c4
        clear c4
        obtain rfl := Option.some.inj H
        obtain ⟨hcz9_0, hfz9_0⟩ := bz1 BK436
        go_wp2
        go_ret
        exact ⟨by first | rfl | (simp [errW_none, errW_some] <;> rfl) | (simp [*, errW_none, errW_some] <;> rfl), bl⟩

/-! ### spec_ColumnOf: function 21 -/
def spec_ColumnOf.f (k : Nat) (l0_0 : List (S58)) (a1 : ByteArray) : Option (List Int × Bool) := (spec_FindColumn.f k l0_0 a1).bind fun t439 => ((spec_IsTable.f k l0_0).bind fun t440 => (if t440 = true then (if t439 < 0 then (some ((([] : List Int)), false)) else ((some (([] : List Int) : List Int)).bind fun y444 => (if 0 ≤ t439 then (if t439 < (l0_0.length : Int) then (if y444.length + ((rd_T58 l0_0 t439).f1).length < 17592186044416 then (some ((y444 ++ ((rd_T58 l0_0 t439).f1)), true)) else (none)) else (none)) else (none)))) else (some ((([] : List Int)), false))))
theorem spec_ColumnOf.mono : ∀ a0 a1 k, LeO (spec_ColumnOf.f k a0 a1) (spec_ColumnOf.f (k + 1) a0 a1) := by
  intro a0 a1 k
  unfold spec_ColumnOf.f
  exact mo
instance spec_ColumnOf.mi (a0 a1 k) : LeC (spec_ColumnOf.f k a0 a1) (spec_ColumnOf.f (k + 1) a0 a1) := ⟨spec_ColumnOf.mono a0 a1 k⟩
set_option maxHeartbeats 8000000 in
set_option maxRecDepth 100000 in
theorem spec_ColumnOf.calls (k : Nat) (A0_0 : Option Addr) (c0_0 : Nat) (l0_0 : List (S58)) (a1 : ByteArray) (r1 : List Int) (r2 : Bool) (w : World) (hr0_0 : Kd.C k58 w A0_0 l0_0.length l0_0) (hc0_0 : l0_0.length ≤ c0_0) (h : spec_ColumnOf.f k l0_0 a1 = some (r1, r2)) :
    Calls Tryz.prog 21 #[.agg #[.slice A0_0 l0_0.length c0_0], .string a1] w fun e w' => ∃ v0_ : Value, e = .returned (.tuple #[v0_, .bool r2]) ∧ Kd.R (Kd.int .i64) 3 w' w.heap.size (fun _ => True) v0_ r1 ∧ Below w.heap.size w w' := by
  have hu26 := Tryz.underlying26
  have HR0_0 := Aside0.mk hr0_0
  have HC0_0 := Aside0.mk hc0_0
  clear hr0_0 hc0_0
  have HB := Aside0.mk (Below.refl w.heap.size w)
  have H : ((spec_FindColumn.f k l0_0 a1).bind fun t439 => ((spec_IsTable.f k l0_0).bind fun t440 => (if t440 = true then (if t439 < 0 then (some ((([] : List Int)), false)) else ((some (([] : List Int) : List Int)).bind fun y444 => (if 0 ≤ t439 then (if t439 < (l0_0.length : Int) then (if y444.length + ((rd_T58 l0_0 t439).f1).length < 17592186044416 then (some ((y444 ++ ((rd_T58 l0_0 t439).f1)), true)) else (none)) else (none)) else (none)))) else (some ((([] : List Int)), false))))) = some (r1, r2) := h
  clear h
  revert H; refine bo ?_; rintro t439 A3 H
  revert H; refine bo ?_; rintro t440 A4 H
  by_cases c5 : t440 = true
  · subst c5
    rw [if_pos rfl] at H
    by_cases c6 : t439 < 0
    · rw [if_pos c6] at H
      have c6b0 : decide (t439 < 0) = true := decide_eq_true c6
      clear c6
      obtain ⟨y441, hy441⟩ : ∃ y_ : List Int, y_ = (([] : List Int)) := ⟨_, rfl⟩
      replace H : (some (y441, false)) = some (r1, r2) := by first | (rw [hy441]; with_reducible exact H) | (have H2_ := (Option.bind_some _ _).symm.trans H; rw [hy441]; with_reducible exact H2_) | (have H2_ := (Option.bind_some _ _).symm.trans H; with_reducible exact H2_) | with_reducible exact H | (rw [hy441]; exact H) | exact H
      have Ny441 := Aside0.mk hy441
      clear hy441
      simp only [Option.some.injEq, Prod.mk.injEq] at H
      obtain ⟨rfl, rfl⟩ := H
      go_enter Tryz.func21, Tryz.ntmps21
      go_wp2_with (first | ((with_reducible refine gate_dst (N := 2) rfl ?_); refine bx 2 #[.slice A0_0 l0_0.length c0_0] 26 ?_; intro gb438 hg w7 hbox hb; have BK438 := mk hbox; have GW438 := wg hg; have GE438 := wg hg; replace HB := wh hb; clear hb hbox hg; obtain ⟨hcz8_0, hfz8_0⟩ := bz1 BK438) | ((with_reducible refine gate_callee (f := 27) rfl ?_); refine gl (some 9) rfl Tryz.func27 #[.agg #[.slice A0_0 l0_0.length c0_0], .string a1] ?_; (with_reducible refine (spec_FindColumn.calls k _ _ l0_0 a1 t439 _ ?side1 ?side2 A3.out).mono ?_); (case side1 => exact uc (Kd.C_below HR0_0.out HB.out)); (case side2 => exact HC0_0.out); rintro e w9 ⟨rfl, hb⟩; refine ⟨_, rfl, ?_⟩; replace BK438 := wb BK438 hb; replace HB := wh hb; (try clear hb); (try clear hb2); (try clear hk); (try clear hi); obtain ⟨hcz10_0, hfz10_0⟩ := bz1 BK438) | ((with_reducible refine gate_callee (f := 12) rfl ?_); refine gl (some 11) rfl Tryz.func12 #[.agg #[.slice A0_0 l0_0.length c0_0]] ?_; (with_reducible refine (spec_IsTable.calls k _ _ l0_0 true _ ?side1 ?side2 A4.out).mono ?_); (case side1 => exact uc (Kd.C_below HR0_0.out HB.out)); (case side2 => exact HC0_0.out); rintro e w11 ⟨rfl, hb⟩; refine ⟨_, rfl, ?_⟩; replace BK438 := wb BK438 hb; replace HB := wh hb; (try clear hb); (try clear hb2); (try clear hk); (try clear hi)) | ((with_reducible refine gate_dst (N := 17) rfl ?_); refine Kd.R_lit (Kd.int .i64) _ 3 ?hg (N := 17) ?hd (xs := ([] : List Int)) (inner := []) (ok := fun _ => True) (okp := fun _ => True) ?hr ?hp (fun _ hk => hk) trivial (Below.refl _ _) (Nat.le_refl _) (by simp) ?_; (case hd => rfl); (case hg => rfl); (case hr => first | (go_simp; done) | (go_simp; rfl)); (case hp => exact (Reps.none _ _)); intro v442 w12 ho13 hb hg_ hnew_; clear hg_ hnew_; (first | rw [← Ny441.out] at ho13 | (simp only [Int.reduceToNat] at ho13; rw [← Ny441.out] at ho13)); have HO443 := mk (Kd.R_lower ho13 (below_size bl)); replace BK438 := wb BK438 hb; replace HB := wh hb; clear hb ho13))
      go_ret2
      exact ⟨_, by first | rfl | (simp [errW_none, errW_some] <;> rfl) | (simp [*, errW_none, errW_some] <;> rfl), up HO443.out, bl⟩
    · rw [if_neg c6] at H
      have c6b0 : decide (t439 < 0) = false := decide_eq_false c6
      clear c6
      obtain ⟨y444, hy444⟩ : ∃ y_ : List Int, y_ = (([] : List Int)) := ⟨_, rfl⟩
      replace H : (if 0 ≤ t439 then (if t439 < (l0_0.length : Int) then (if y444.length + ((rd_T58 l0_0 t439).f1).length < 17592186044416 then (some ((y444 ++ ((rd_T58 l0_0 t439).f1)), true)) else (none)) else (none)) else (none)) = some (r1, r2) := by first | (rw [hy444]; with_reducible exact H) | (have H2_ := (Option.bind_some _ _).symm.trans H; rw [hy444]; with_reducible exact H2_) | (have H2_ := (Option.bind_some _ _).symm.trans H; with_reducible exact H2_) | with_reducible exact H | (rw [hy444]; exact H) | exact H
      have Ny444 := Aside0.mk hy444
      clear hy444
      by_cases c14 : 0 ≤ t439
      · rw [if_pos c14] at H
        have c14b0 : decide (0 ≤ t439) = true := decide_eq_true c14
        clear c14
        by_cases c15 : t439 < (l0_0.length : Int)
        · rw [if_pos c15] at H
          have c15b0 : decide (t439 < (l0_0.length : Int)) = true := decide_eq_true c15
          clear c15
          by_cases c16 : y444.length + ((rd_T58 l0_0 t439).f1).length < 17592186044416
          · rw [if_pos c16] at H
            have LMc16 := Aside0.mk c16
            clear c16
            obtain ⟨y448, hy448⟩ : ∃ y_ : List Int, y_ = (y444 ++ ((rd_T58 l0_0 t439).f1)) := ⟨_, rfl⟩
            replace H : (some (y448, true)) = some (r1, r2) := by first | (rw [hy448]; with_reducible exact H) | (have H2_ := (Option.bind_some _ _).symm.trans H; rw [hy448]; with_reducible exact H2_) | (have H2_ := (Option.bind_some _ _).symm.trans H; with_reducible exact H2_) | with_reducible exact H | (rw [hy448]; exact H) | exact H
            have Ny448 := Aside0.mk hy448
            clear hy448
            simp only [Option.some.injEq, Prod.mk.injEq] at H
            obtain ⟨rfl, rfl⟩ := H
            go_enter Tryz.func21, Tryz.ntmps21
            go_wp2_with (first | ((with_reducible refine gate_dst (N := 2) rfl ?_); refine bx 2 #[.slice A0_0 l0_0.length c0_0] 26 ?_; intro gb438 hg w17 hbox hb; have BK438 := mk hbox; have GW438 := wg hg; have GE438 := wg hg; replace HB := wh hb; clear hb hbox hg; obtain ⟨hcz18_0, hfz18_0⟩ := bz1 BK438) | ((with_reducible refine gate_callee (f := 27) rfl ?_); refine gl (some 9) rfl Tryz.func27 #[.agg #[.slice A0_0 l0_0.length c0_0], .string a1] ?_; (with_reducible refine (spec_FindColumn.calls k _ _ l0_0 a1 t439 _ ?side1 ?side2 A3.out).mono ?_); (case side1 => exact uc (Kd.C_below HR0_0.out HB.out)); (case side2 => exact HC0_0.out); rintro e w19 ⟨rfl, hb⟩; refine ⟨_, rfl, ?_⟩; replace BK438 := wb BK438 hb; replace HB := wh hb; (try clear hb); (try clear hb2); (try clear hk); (try clear hi); obtain ⟨hcz20_0, hfz20_0⟩ := bz1 BK438) | ((with_reducible refine gate_callee (f := 12) rfl ?_); refine gl (some 11) rfl Tryz.func12 #[.agg #[.slice A0_0 l0_0.length c0_0]] ?_; (with_reducible refine (spec_IsTable.calls k _ _ l0_0 true _ ?side1 ?side2 A4.out).mono ?_); (case side1 => exact uc (Kd.C_below HR0_0.out HB.out)); (case side2 => exact HC0_0.out); rintro e w21 ⟨rfl, hb⟩; refine ⟨_, rfl, ?_⟩; replace BK438 := wb BK438 hb; replace HB := wh hb; (try clear hb); (try clear hb2); (try clear hk); (try clear hi)) | ((with_reducible refine gate_dst (N := 18) rfl ?_); refine Kd.R_lit (Kd.int .i64) _ 3 ?hg (N := 18) ?hd (xs := ([] : List Int)) (inner := []) (ok := fun _ => True) (okp := fun _ => True) ?hr ?hp (fun _ hk => hk) trivial (Below.refl _ _) (Nat.le_refl _) (by simp) ?_; (case hd => rfl); (case hg => rfl); (case hr => first | (go_simp; done) | (go_simp; rfl)); (case hp => exact (Reps.none _ _)); intro v445 w22 ho23 hb hg_ hnew_; clear hg_ hnew_; (first | rw [← Ny444.out] at ho23 | (simp only [Int.reduceToNat] at ho23; rw [← Ny444.out] at ho23)); have HO446 := mk (Kd.R_lower ho23 (below_size bl)); replace BK438 := wb BK438 hb; replace HB := wh hb; clear hb ho23; obtain ⟨hcz24_0, hfz24_0⟩ := bz1 BK438; have p447 : 0 ≤ (t439 : Int) := dt; have q447 : t439 < (l0_0.length : Int) := dt; obtain ⟨ad447, A447_1, c447_1, e447, hx447_0, hx447_1, hl447_1, hi447_1⟩ := at_T58 HR0_0.out t439 p447 q447; cases e447; replace hx447_0 := (HB.out.cell (World.block_lt_of_cell? w _ hx447_0)).trans hx447_0; replace hx447_1 := (HB.out.cell (World.block_lt_of_cell? w _ hx447_1)).trans hx447_1; have HR447_1 := Aside0.mk hi447_1; have HC447_1 := Aside0.mk hl447_1; clear hi447_1 hl447_1; replace p447 := eq_true p447; replace q447 := eq_true q447) | ((with_reducible refine gate_builtin (b := .append) (xs := #[.tmp 18, .tmp 24]) rfl ?_); at_builtin; refine Kd.R_append_rows (Kd.int .i64) (w0 := w) w.heap.size rfl (.tmp 18) (.tmp 24) 47 3 (.int .i64 0) 8 rfl Tryz.underlying47 info3 rfl (by decide) (by omega) v445 y444 ((rd_T58 l0_0 t439).f1) _ _ _ (fun _ => True) (fun _ => False) rfl rfl ?aO ?aR (fun _ _ h => h) (fun _ h => h.elim) ?aF ?aB ?aS ?aL ?_; (case aR => exact uc (Kd.C_below HR447_1.out HB.out)); (case aB => exact bl); (case aF => exact (fun _ _ => trivial)); (case aO => exact (up HO446.out)); (case aS => exact (below_size bl)); (case aL => have := LMc16.out; omega); intro v449 w25 ho hb hg hat; rw [← Ny448.out] at ho; replace BK438 := mk (blk_grown (g := gb438) (o := .cells #[.slice (some ad447) l0_0.length c0_0] 26 (0, 0)) (ub BK438.out) hg (Kd.R_ne HO446.out BK438.out (by decide))); replace HB := mk hb; have HO450 := mk ho; clear HO446; clear ho hb hg hat))
            go_ret2
            exact ⟨_, by first | rfl | (simp [errW_none, errW_some] <;> rfl) | (simp [*, errW_none, errW_some] <;> rfl), up HO450.out, bl⟩
          · rw [if_neg c16] at H
            exact absurd H (by simp)
        · rw [if_neg c15] at H
          exact absurd H (by simp)
      · rw [if_neg c14] at H
        exact absurd H (by simp)
  · replace c5 := Bool.eq_false_iff.mpr c5
    subst c5
    rw [if_neg nf] at H
    obtain ⟨y451, hy451⟩ : ∃ y_ : List Int, y_ = (([] : List Int)) := ⟨_, rfl⟩
    replace H : (some (y451, false)) = some (r1, r2) := by first | (rw [hy451]; with_reducible exact H) | (have H2_ := (Option.bind_some _ _).symm.trans H; rw [hy451]; with_reducible exact H2_) | (have H2_ := (Option.bind_some _ _).symm.trans H; with_reducible exact H2_) | with_reducible exact H | (rw [hy451]; exact H) | exact H
    have Ny451 := Aside0.mk hy451
    clear hy451
    simp only [Option.some.injEq, Prod.mk.injEq] at H
    obtain ⟨rfl, rfl⟩ := H
    go_enter Tryz.func21, Tryz.ntmps21
    go_wp2_with (first | ((with_reducible refine gate_dst (N := 2) rfl ?_); refine bx 2 #[.slice A0_0 l0_0.length c0_0] 26 ?_; intro gb438 hg w26 hbox hb; have BK438 := mk hbox; have GW438 := wg hg; have GE438 := wg hg; replace HB := wh hb; clear hb hbox hg; obtain ⟨hcz27_0, hfz27_0⟩ := bz1 BK438) | ((with_reducible refine gate_callee (f := 27) rfl ?_); refine gl (some 9) rfl Tryz.func27 #[.agg #[.slice A0_0 l0_0.length c0_0], .string a1] ?_; (with_reducible refine (spec_FindColumn.calls k _ _ l0_0 a1 t439 _ ?side1 ?side2 A3.out).mono ?_); (case side1 => exact uc (Kd.C_below HR0_0.out HB.out)); (case side2 => exact HC0_0.out); rintro e w28 ⟨rfl, hb⟩; refine ⟨_, rfl, ?_⟩; replace BK438 := wb BK438 hb; replace HB := wh hb; (try clear hb); (try clear hb2); (try clear hk); (try clear hi); obtain ⟨hcz29_0, hfz29_0⟩ := bz1 BK438) | ((with_reducible refine gate_callee (f := 12) rfl ?_); refine gl (some 11) rfl Tryz.func12 #[.agg #[.slice A0_0 l0_0.length c0_0]] ?_; (with_reducible refine (spec_IsTable.calls k _ _ l0_0 false _ ?side1 ?side2 A4.out).mono ?_); (case side1 => exact uc (Kd.C_below HR0_0.out HB.out)); (case side2 => exact HC0_0.out); rintro e w30 ⟨rfl, hb⟩; refine ⟨_, rfl, ?_⟩; replace BK438 := wb BK438 hb; replace HB := wh hb; (try clear hb); (try clear hb2); (try clear hk); (try clear hi)) | ((with_reducible refine gate_dst (N := 17) rfl ?_); refine Kd.R_lit (Kd.int .i64) _ 3 ?hg (N := 17) ?hd (xs := ([] : List Int)) (inner := []) (ok := fun _ => True) (okp := fun _ => True) ?hr ?hp (fun _ hk => hk) trivial (Below.refl _ _) (Nat.le_refl _) (by simp) ?_; (case hd => rfl); (case hg => rfl); (case hr => first | (go_simp; done) | (go_simp; rfl)); (case hp => exact (Reps.none _ _)); intro v452 w31 ho32 hb hg_ hnew_; clear hg_ hnew_; (first | rw [← Ny451.out] at ho32 | (simp only [Int.reduceToNat] at ho32; rw [← Ny451.out] at ho32)); have HO453 := mk (Kd.R_lower ho32 (below_size bl)); replace BK438 := wb BK438 hb; replace HB := wh hb; clear hb ho32))
    go_ret2
    exact ⟨_, by first | rfl | (simp [errW_none, errW_some] <;> rfl) | (simp [*, errW_none, errW_some] <;> rfl), up HO453.out, bl⟩

/-! ### spec_MeetRanges: function 22 -/
def spec_MeetRanges.f (a0_0 : Int) (a0_1 : Int) (a1_0 : Int) (a1_1 : Int) : Option (Int × Int) := (spec_IsRange.f a0_0 a0_1).bind fun t457 => (if t457 = true then ((spec_IsRange.f a1_0 a1_1).bind fun t458 => (if t458 = true then (some (mx a0_0 a1_0, mx (mx a0_0 a1_0) (mn a0_1 a1_1))) else (some (0, 0)))) else (some (0, 0)))
set_option maxHeartbeats 8000000 in
set_option maxRecDepth 100000 in
theorem spec_MeetRanges.calls (a0_0 : Int) (a0_1 : Int) (a1_0 : Int) (a1_1 : Int) (r1 : Int) (r2 : Int) (w : World) (h : spec_MeetRanges.f a0_0 a0_1 a1_0 a1_1 = some (r1, r2)) :
    Calls Tryz.prog 22 #[.agg #[.int .i64 a0_0, .int .i64 a0_1], .agg #[.int .i64 a1_0, .int .i64 a1_1]] w fun e w' => e = .returned (.agg #[.int .i64 r1, .int .i64 r2]) ∧ Below w.heap.size w w' := by
  have hu32 := Tryz.underlying32
  have HB := Aside0.mk (Below.refl w.heap.size w)
  have H : ((spec_IsRange.f a0_0 a0_1).bind fun t457 => (if t457 = true then ((spec_IsRange.f a1_0 a1_1).bind fun t458 => (if t458 = true then (some (mx a0_0 a1_0, mx (mx a0_0 a1_0) (mn a0_1 a1_1))) else (some (0, 0)))) else (some (0, 0)))) = some (r1, r2) := h
  clear h
  revert H; refine bo ?_; rintro t457 A3 H
  by_cases c4 : t457 = true
  · subst c4
    rw [if_pos rfl] at H
    revert H; refine bo ?_; rintro t458 A5 H
    by_cases c6 : t458 = true
    · subst c6
      rw [if_pos rfl] at H
      obtain ⟨ji7, hji7⟩ : ∃ j_ : Int, (mx a0_0 a1_0) = j_ := ⟨_, rfl⟩
      replace H : (some (ji7, mx (ji7) (mn a0_1 a1_1))) = some (r1, r2) := by first | (rw [hji7] at H; exact H) | (simp only [hji7] at H ⊢; exact H)
      (try rw [hji7] at A3)
      (try rw [hji7] at A5)
      have hji7_ : (if a0_0 < a1_0 then a1_0 else a0_0) = ji7 := hji7
      obtain ⟨ji8, hji8⟩ : ∃ j_ : Int, (mn a0_1 a1_1) = j_ := ⟨_, rfl⟩
      replace H : (some (ji7, mx (ji7) (ji8))) = some (r1, r2) := by first | (rw [hji8] at H; exact H) | (simp only [hji8] at H ⊢; exact H)
      (try rw [hji8] at A3)
      (try rw [hji8] at A5)
      have hji8_ : (if a1_1 < a0_1 then a1_1 else a0_1) = ji8 := hji8
      obtain ⟨ji9, hji9⟩ : ∃ j_ : Int, (mx (ji7) (ji8)) = j_ := ⟨_, rfl⟩
      replace H : (some (ji7, ji9)) = some (r1, r2) := by first | (rw [hji9] at H; exact H) | (simp only [hji9] at H ⊢; exact H)
      (try rw [hji9] at A3)
      (try rw [hji9] at A5)
      have hji9_ : (if (ji7) < (ji8) then (ji8) else (ji7)) = ji9 := hji9
      simp only [Option.some.injEq, Prod.mk.injEq] at H
      obtain ⟨rfl, rfl⟩ := H
      go_enter Tryz.func22, Tryz.ntmps22
      go_wp2_with (first | ((with_reducible refine gate_dst (N := 2) rfl ?_); refine bx 2 #[.int .i64 a0_0, .int .i64 a0_1] 32 ?_; intro gb454 hg w10 hbox hb; have BK454 := mk hbox; have GW454 := wg hg; have GE454 := wg hg; replace HB := wh hb; clear hb hbox hg) | ((with_reducible refine gate_dst (N := 3) rfl ?_); refine bx 3 #[.int .i64 a1_0, .int .i64 a1_1] 32 ?_; intro gb455 hg w11 hbox hb; have BK455 := mk hbox; have GW455 := wg hg; have GE455 := wg hg; replace HB := wh hb; have NB454_455 := nl BK454 hg; have NB455_454 := nr BK454 hg; replace BK454 := wb BK454 hb; clear hb hbox hg) | ((with_reducible refine gate_dst (N := 4) rfl ?_); refine bx 4 #[.int .i64 0, .int .i64 0] 32 ?_; intro gb456 hg w12 hbox hb; have BK456 := mk hbox; have GW456 := wg hg; have GE456 := wg hg; replace HB := wh hb; have NB454_456 := nl BK454 hg; have NB456_454 := nr BK454 hg; replace BK454 := wb BK454 hb; have NB455_456 := nl BK455 hg; have NB456_455 := nr BK455 hg; replace BK455 := wb BK455 hb; clear hb hbox hg; have hnb13 := NB454_455.out; have hnc13 := NB455_454.out; have hnb14 := NB454_456.out; have hnc14 := NB456_454.out; obtain ⟨hcz15_0, hcz15_1, hfz15_0, hfz15_1⟩ := bz2 BK454) | ((with_reducible refine gate_callee (f := 13) rfl ?_); refine gl (some 7) rfl Tryz.func13 #[.agg #[.int .i64 a0_0, .int .i64 a0_1]] ?_; (with_reducible refine (spec_IsRange.calls a0_0 a0_1 true _ A3.out).mono ?_); rintro e w16 ⟨rfl, hb⟩; refine ⟨_, rfl, ?_⟩; replace BK454 := wb BK454 hb; replace BK455 := wb BK455 hb; replace BK456 := wb BK456 hb; replace HB := wh hb; (try clear hb); (try clear hb2); (try clear hk); (try clear hi); have hnb17 := NB455_456.out; have hnc17 := NB456_455.out; obtain ⟨hcz18_0, hcz18_1, hfz18_0, hfz18_1⟩ := bz2 BK455) | (go_at_call 13; (with_reducible refine (spec_IsRange.calls a1_0 a1_1 true _ A5.out).mono ?_); rintro e w19 ⟨rfl, hb⟩; replace BK454 := wb BK454 hb; replace BK455 := wb BK455 hb; replace BK456 := wb BK456 hb; replace HB := wh hb; (try clear hb); (try clear hb2); (try clear hk); (try clear hi); obtain ⟨hcz20_0, hcz20_1, hfz20_0, hfz20_1⟩ := bz2 BK454; obtain ⟨hcz21_0, hcz21_1, hfz21_0, hfz21_1⟩ := bz2 BK455) | ((with_reducible refine gate_dst (N := 5) rfl ?_); refine bx 5 #[.int .i64 0, .int .i64 0] 32 ?_; intro gb459 hg w22 hbox hb; have BK459 := mk hbox; have GW459 := wg hg; have GE459 := wg hg; replace HB := wh hb; have NB454_459 := nl BK454 hg; have NB459_454 := nr BK454 hg; replace BK454 := wb BK454 hb; have NB455_459 := nl BK455 hg; have NB459_455 := nr BK455 hg; replace BK455 := wb BK455 hb; have NB456_459 := nl BK456 hg; have NB459_456 := nr BK456 hg; replace BK456 := wb BK456 hb; clear hb hbox hg; have hnb23 := NB459_454.out; have hnc23 := NB454_459.out; have hnb24 := NB459_455.out; have hnc24 := NB455_459.out; have hnb25 := NB459_456.out; have hnc25 := NB456_459.out; obtain ⟨hcz26_0, hcz26_1, hfz26_0, hfz26_1⟩ := bz2 BK459; obtain ⟨hcz27_0, hcz27_1, hfz27_0, hfz27_1⟩ := bz2 BK456))
      refine bodyPost_ret (results_cell_row rfl _ _ gb456 32 #[.int .i64 ji7, .int .i64 ji9] (0, 0) _ rfl bq Tryz.underlying32 rfl (by kernel_rfl)) rfl ?_
      exact ⟨by first | rfl | (simp [errW_none, errW_some] <;> rfl) | (simp only [← hji7, ← hji8, ← hji9]; first | rfl | (simp [errW_none, errW_some] <;> rfl)) | (simp [*, errW_none, errW_some] <;> rfl), bl⟩
    · replace c6 := Bool.eq_false_iff.mpr c6
      subst c6
      rw [if_neg nf] at H
      simp only [Option.some.injEq, Prod.mk.injEq] at H
      obtain ⟨rfl, rfl⟩ := H
      go_enter Tryz.func22, Tryz.ntmps22
      go_wp2_with (first | ((with_reducible refine gate_dst (N := 2) rfl ?_); refine bx 2 #[.int .i64 a0_0, .int .i64 a0_1] 32 ?_; intro gb454 hg w28 hbox hb; have BK454 := mk hbox; have GW454 := wg hg; have GE454 := wg hg; replace HB := wh hb; clear hb hbox hg) | ((with_reducible refine gate_dst (N := 3) rfl ?_); refine bx 3 #[.int .i64 a1_0, .int .i64 a1_1] 32 ?_; intro gb455 hg w29 hbox hb; have BK455 := mk hbox; have GW455 := wg hg; have GE455 := wg hg; replace HB := wh hb; have NB454_455 := nl BK454 hg; have NB455_454 := nr BK454 hg; replace BK454 := wb BK454 hb; clear hb hbox hg) | ((with_reducible refine gate_dst (N := 4) rfl ?_); refine bx 4 #[.int .i64 0, .int .i64 0] 32 ?_; intro gb456 hg w30 hbox hb; have BK456 := mk hbox; have GW456 := wg hg; have GE456 := wg hg; replace HB := wh hb; have NB454_456 := nl BK454 hg; have NB456_454 := nr BK454 hg; replace BK454 := wb BK454 hb; have NB455_456 := nl BK455 hg; have NB456_455 := nr BK455 hg; replace BK455 := wb BK455 hb; clear hb hbox hg; have hnb31 := NB454_455.out; have hnc31 := NB455_454.out; have hnb32 := NB454_456.out; have hnc32 := NB456_454.out; obtain ⟨hcz33_0, hcz33_1, hfz33_0, hfz33_1⟩ := bz2 BK454) | ((with_reducible refine gate_callee (f := 13) rfl ?_); refine gl (some 7) rfl Tryz.func13 #[.agg #[.int .i64 a0_0, .int .i64 a0_1]] ?_; (with_reducible refine (spec_IsRange.calls a0_0 a0_1 true _ A3.out).mono ?_); rintro e w34 ⟨rfl, hb⟩; refine ⟨_, rfl, ?_⟩; replace BK454 := wb BK454 hb; replace BK455 := wb BK455 hb; replace BK456 := wb BK456 hb; replace HB := wh hb; (try clear hb); (try clear hb2); (try clear hk); (try clear hi); have hnb35 := NB455_456.out; have hnc35 := NB456_455.out; obtain ⟨hcz36_0, hcz36_1, hfz36_0, hfz36_1⟩ := bz2 BK455) | (go_at_call 13; (with_reducible refine (spec_IsRange.calls a1_0 a1_1 false _ A5.out).mono ?_); rintro e w37 ⟨rfl, hb⟩; replace BK454 := wb BK454 hb; replace BK455 := wb BK455 hb; replace BK456 := wb BK456 hb; replace HB := wh hb; (try clear hb); (try clear hb2); (try clear hk); (try clear hi); obtain ⟨hcz38_0, hcz38_1, hfz38_0, hfz38_1⟩ := bz2 BK456))
      refine bodyPost_ret (results_cell_row rfl _ _ gb456 32 #[.int .i64 0, .int .i64 0] (0, 0) _ rfl bq Tryz.underlying32 rfl (by kernel_rfl)) rfl ?_
      exact ⟨by first | rfl | (simp [errW_none, errW_some] <;> rfl) | (simp [*, errW_none, errW_some] <;> rfl), bl⟩
  · replace c4 := Bool.eq_false_iff.mpr c4
    subst c4
    rw [if_neg nf] at H
    simp only [Option.some.injEq, Prod.mk.injEq] at H
    obtain ⟨rfl, rfl⟩ := H
    go_enter Tryz.func22, Tryz.ntmps22
    go_wp2_with (first | ((with_reducible refine gate_dst (N := 2) rfl ?_); refine bx 2 #[.int .i64 a0_0, .int .i64 a0_1] 32 ?_; intro gb454 hg w39 hbox hb; have BK454 := mk hbox; have GW454 := wg hg; have GE454 := wg hg; replace HB := wh hb; clear hb hbox hg) | ((with_reducible refine gate_dst (N := 3) rfl ?_); refine bx 3 #[.int .i64 a1_0, .int .i64 a1_1] 32 ?_; intro gb455 hg w40 hbox hb; have BK455 := mk hbox; have GW455 := wg hg; have GE455 := wg hg; replace HB := wh hb; have NB454_455 := nl BK454 hg; have NB455_454 := nr BK454 hg; replace BK454 := wb BK454 hb; clear hb hbox hg) | ((with_reducible refine gate_dst (N := 4) rfl ?_); refine bx 4 #[.int .i64 0, .int .i64 0] 32 ?_; intro gb456 hg w41 hbox hb; have BK456 := mk hbox; have GW456 := wg hg; have GE456 := wg hg; replace HB := wh hb; have NB454_456 := nl BK454 hg; have NB456_454 := nr BK454 hg; replace BK454 := wb BK454 hb; have NB455_456 := nl BK455 hg; have NB456_455 := nr BK455 hg; replace BK455 := wb BK455 hb; clear hb hbox hg; have hnb42 := NB454_455.out; have hnc42 := NB455_454.out; have hnb43 := NB454_456.out; have hnc43 := NB456_454.out; obtain ⟨hcz44_0, hcz44_1, hfz44_0, hfz44_1⟩ := bz2 BK454) | ((with_reducible refine gate_callee (f := 13) rfl ?_); refine gl (some 7) rfl Tryz.func13 #[.agg #[.int .i64 a0_0, .int .i64 a0_1]] ?_; (with_reducible refine (spec_IsRange.calls a0_0 a0_1 false _ A3.out).mono ?_); rintro e w45 ⟨rfl, hb⟩; refine ⟨_, rfl, ?_⟩; replace BK454 := wb BK454 hb; replace BK455 := wb BK455 hb; replace BK456 := wb BK456 hb; replace HB := wh hb; (try clear hb); (try clear hb2); (try clear hk); (try clear hi); have hnb46 := NB456_455.out; have hnc46 := NB455_456.out; obtain ⟨hcz47_0, hcz47_1, hfz47_0, hfz47_1⟩ := bz2 BK456))
    refine bodyPost_ret (results_cell_row rfl _ _ gb456 32 #[.int .i64 0, .int .i64 0] (0, 0) _ rfl bq Tryz.underlying32 rfl (by kernel_rfl)) rfl ?_
    exact ⟨by first | rfl | (simp [errW_none, errW_some] <;> rfl) | (simp [*, errW_none, errW_some] <;> rfl), bl⟩

end Go.Proofs.YtfjanffppobheaaGreatDoor.PFnTexts
