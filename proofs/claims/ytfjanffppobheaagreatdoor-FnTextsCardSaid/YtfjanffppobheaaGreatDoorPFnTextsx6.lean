-- printed by a program of this session, a turned copy of the print of the kit
import Derived.Test.YtfjanffppobheaaGreatDoorSq
import Derived.Test.YtfjanffppobheaaGreatDoorPFnTextsx0
import Derived.Test.YtfjanffppobheaaGreatDoorPFnTextsx5
namespace Go.Proofs.YtfjanffppobheaaGreatDoor.PFnTexts
open Go.RowKit Go.Proofs.YtfjanffppobheaaGreatDoorW.PrintWords Go.Proofs.YtfjanffppobheaaGreatDoorW.PrintLast Go.Proofs.YtfjanffppobheaaGreatDoorW.PrintMore Go.Proofs.YtfjanffppobheaaGreatDoor.Sq
attribute [local go_sem] max2_int min2_int max_two min_two max_three min_three max_four min_four Giv.cell_twice   -- for this text's walks alone
set_option linter.unusedVariables false
set_option linter.unusedSimpArgs false

/-! ### strings_Join: function 31 -/
def strings_Join.f (l0 : List ByteArray) (a1 : ByteArray) : Option (ByteArray) := if l0.length ≤ 140737488355328 ∧ (Go.Lib.join (l0.map (·.data.toList)) a1.data.toList).length ≤ 140737488355328 then some ⟨(Go.Lib.join (l0.map (·.data.toList)) a1.data.toList).toArray⟩ else none
set_option maxHeartbeats 8000000 in
set_option maxRecDepth 100000 in
theorem strings_Join.calls (A0 : Option Addr) (c0 : Nat) (l0 : List ByteArray) (a1 : ByteArray) (r : ByteArray) (w : World) (hr0 : Kd.C Kd.string w A0 l0.length l0) (hc0 : l0.length ≤ c0) (h : strings_Join.f l0 a1 = some r) :
    Calls Tryz.prog 31 #[.slice A0 l0.length c0, .string a1] w fun e w' => e = .returned (.string r) ∧ Below w.heap.size w w' := by
  unfold strings_Join.f at h
  by_cases hb : l0.length ≤ 140737488355328 ∧ (Go.Lib.join (l0.map (·.data.toList)) a1.data.toList).length ≤ 140737488355328
  · rw [if_pos hb] at h
    obtain rfl := Option.some.inj h
    clear h
    rcases Nat.eq_zero_or_pos l0.length with h0 | h0
    · have hz : l0 = [] := List.eq_nil_of_length_eq_zero h0
      subst hz
      refine (Go.Proofs.YtfjanffppobheaaGreatDoor.Sh.joinNone A0 c0 a1 w).mono ?_
      rintro e w' ⟨rfl, rfl⟩
      exact ⟨rfl, Below.refl _ _⟩
    · obtain ⟨ad, rfl, hx⟩ := Kd.at_string hr0 0 (by omega) (by omega)
      obtain ⟨bk, o, sp⟩ := ad
      have hlt : bk < w.heap.size := World.block_lt_of_cell? w _ hx
      have hsp : sp = none := by
        cases sp with
        | none => rfl
        | some q =>
          exfalso
          unfold World.cell? at hx
          split at hx
          · simp [Addr.add] at hx
          · cases hx
      subst hsp
      refine (Go.Proofs.YtfjanffppobheaaGreatDoor.Sh.join bk o c0 l0 a1 w ?_ hlt hb.1 hc0 hb.2).mono ?_
      · intro j y hy
        have hj : j < l0.length := (List.getElem?_eq_some_iff.1 hy).1
        obtain ⟨ad', e', hc⟩ := Kd.at_string hr0 (j : Int) (by omega) (by omega)
        cases e'
        have hv : rdOf ByteArray.empty l0 (j : Int) = y := by unfold rdOf; rw [Int.toNat_natCast, List.getD_eq_getElem?_getD, hy]; rfl
        rw [hv, Int.toNat_natCast] at hc
        have ea : (⟨bk, o, none⟩ : Addr).add j = ⟨bk, o + j, none⟩ := by
          unfold Addr.add
          by_cases hj0 : j = 0
          · rw [if_pos hj0, hj0]; rfl
          · rw [if_neg hj0]
        rw [ea] at hc
        exact hc
      · rintro e w' ⟨rfl, hb'⟩
        exact ⟨rfl, hb'⟩
  · rw [if_neg hb] at h
    exact absurd h (by simp)


/-! ### strconv_Itoa: function 59 -/
def strconv_Itoa.f (a0 : Int) : Option (ByteArray) := if -9223372036854775808 ≤ a0 ∧ a0 ≤ 9223372036854775807 then some ⟨(Go.Lib.itoa a0).toArray⟩ else none
set_option maxHeartbeats 8000000 in
set_option maxRecDepth 100000 in
theorem strconv_Itoa.calls (a0 : Int) (r : ByteArray) (w : World) (TB0 : Aside0 (TabOk w)) (h : strconv_Itoa.f a0 = some r) :
    Calls Tryz.prog 59 #[.int .i64 a0] w fun e w' => e = .returned (.string r) ∧ Below w.heap.size w w' := by
  unfold strconv_Itoa.f at h
  by_cases hb : -9223372036854775808 ≤ a0 ∧ a0 ≤ 9223372036854775807
  · rw [if_pos hb] at h
    obtain rfl := Option.some.inj h
    refine (Go.Proofs.YtfjanffppobheaaGreatDoor.Sh.itoa a0 hb.1 hb.2 w TB0.out).mono ?_
    rintro e w' ⟨rfl, hbel⟩
    exact ⟨rfl, hbel⟩
  · rw [if_neg hb] at h
    exact absurd h (by simp)


/-! ### impl_FormatInt: function 38 -/
def impl_FormatInt.f (a0 : Int) : Option (ByteArray) := (strconv_Itoa.f a0).bind fun t220 => (some t220)
set_option maxHeartbeats 8000000 in
set_option maxRecDepth 100000 in
theorem impl_FormatInt.calls (a0 : Int) (r : ByteArray) (w : World) (TB0 : Aside0 (TabOk w)) (h : impl_FormatInt.f a0 = some r) :
    Calls Tryz.prog 38 #[.int .i64 a0] w fun e w' => e = .returned (.string r) ∧ Below w.heap.size w w' := by
  have HB := Aside0.mk (Below.refl w.heap.size w)
  have H : ((strconv_Itoa.f a0).bind fun t220 => (some t220)) = some r := h
  clear h
  revert H; refine bo ?_; rintro t220 A2 H
  obtain rfl := Option.some.inj H
  go_enter Tryz.func38, Tryz.ntmps38
  go_wp2_with (first | ((with_reducible refine gate_callee (f := 59) rfl ?_); refine gl (some 4) rfl Tryz.func59 #[.int .i64 a0] ?_; (with_reducible refine (strconv_Itoa.calls a0 t220 _ ?side1 A2.out).mono ?_); (case side1 => exact ⟨TabOk.step TB0.out bl⟩); rintro e w3 ⟨rfl, hb⟩; refine ⟨_, rfl, ?_⟩; replace HB := wh hb; (try clear hb); (try clear hb2); (try clear hk); (try clear hi)))
  go_ret
  exact ⟨by first | rfl | (simp [errW_none, errW_some] <;> rfl) | (simp [*, errW_none, errW_some] <;> rfl), bl⟩

/-! ### impl_joined: function 32 -/
def impl_joined.l0 : Nat → ByteArray → List ByteArray → List Int → Int → Int → Option (ByteArray)
  | 0, _, _, _, _, _ => none
  | k + 1, x1, x5, x9, x10, x11 => if x11 < x10 then (if 0 ≤ x11 then (if x11 < (x9.length : Int) then ((impl_FormatInt.f (rd x9 x11)).bind fun t225 => (if x5.length < 8796093022208 then (impl_joined.l0 k x1 (x5 ++ [t225]) x9 x10 (wrap64 (x11 + 1))) else (none))) else (none)) else (none)) else ((strings_Join.f x5 x1).bind fun t229 => (some t229))
def impl_joined.f (k : Nat) (l0 : List Int) (a1 : ByteArray) : Option (ByteArray) := impl_joined.l0 k a1 (([] : List ByteArray)) l0 (l0.length : Int) 0
theorem impl_joined.mono_l : ∀ k, (∀ y0 y1 y2 y3 y4, LeO (impl_joined.l0 k y0 y1 y2 y3 y4) (impl_joined.l0 (k + 1) y0 y1 y2 y3 y4))
  | 0 => fun _ _ _ _ _ r h => by simp [impl_joined.l0] at h
  | k + 1 => by
    have ih0 := impl_joined.mono_l k
    · intro y0 y1 y2 y3 y4
      unfold impl_joined.l0
      exact mo
theorem impl_joined.mono : ∀ a0 a1 k, LeO (impl_joined.f k a0 a1) (impl_joined.f (k + 1) a0 a1) := by
  intro a0 a1 k
  have ih0 := impl_joined.mono_l k
  unfold impl_joined.f
  exact mo
instance impl_joined.mi (a0 a1 k) : LeC (impl_joined.f k a0 a1) (impl_joined.f (k + 1) a0 a1) := ⟨impl_joined.mono a0 a1 k⟩
set_option maxHeartbeats 8000000 in
set_option maxRecDepth 100000 in
theorem impl_joined.calls (k : Nat) (A0 : Option Addr) (c0 : Nat) (l0 : List Int) (a1 : ByteArray) (r : ByteArray) (w : World) (hr0 : Kd.C (Kd.int .i64) w A0 l0.length l0) (hc0 : l0.length ≤ c0) (TB0 : Aside0 (TabOk w)) (h : impl_joined.f k l0 a1 = some r) :
    Calls Tryz.prog 32 #[.slice A0 l0.length c0, .string a1] w fun e w' => e = .returned (.string r) ∧ Below w.heap.size w w' := by
  have HR0 := Aside0.mk hr0
  have HC0 := Aside0.mk hc0
  clear hr0 hc0
  have HB := Aside0.mk (Below.refl w.heap.size w)
  have H : (impl_joined.l0 k a1 (([] : List ByteArray)) l0 (l0.length : Int) 0) = some r := h
  clear h
  obtain ⟨y221, hy221⟩ : ∃ y_ : List ByteArray, y_ = (([] : List ByteArray)) := ⟨_, rfl⟩
  replace H : (impl_joined.l0 k a1 y221 l0 (l0.length : Int) 0) = some r := by first | (rw [hy221]; with_reducible exact H) | (have H2_ := (Option.bind_some _ _).symm.trans H; rw [hy221]; with_reducible exact H2_) | (have H2_ := (Option.bind_some _ _).symm.trans H; with_reducible exact H2_) | with_reducible exact H | (rw [hy221]; exact H) | exact H
  have Ny221 := Aside0.mk hy221
  clear hy221
  have H' := Aside0.mk H
  clear H
  go_enter Tryz.func32, Tryz.ntmps32
  go_wp2_with (first | ((with_reducible refine gate_dst (N := 8) rfl ?_); refine Kd.R_lit Kd.string _ 9 ?hg (N := 8) ?hd (xs := ([] : List ByteArray)) (inner := []) (ok := fun _ => True) (okp := fun _ => True) ?hr ?hp (fun _ hk => hk) trivial (Below.refl _ _) (Nat.le_refl _) (by simp) ?_; (case hd => rfl); (case hg => rfl); (case hr => first | (go_simp; done) | (go_simp; rfl)); (case hp => exact (Reps.none _ _)); intro v222 w3 ho4 hb hg_ hnew_; clear hg_ hnew_; (first | rw [← Ny221.out] at ho4 | (simp only [Int.reduceToNat] at ho4; rw [← Ny221.out] at ho4)); have HO223 := mk (Kd.R_lower ho4 (below_size bl)); replace HB := wh hb; clear hb ho4))
  go_loopg [5, 11] k (fun kq v5 v11 w' => ∃ (x5_1 : List ByteArray) (x11_1 : Int), v11 = .int .i64 x11_1 ∧ Aside0 (impl_joined.l0 kq a1 x5_1 l0 (l0.length : Int) x11_1 = some r) ∧ Aside0 (kq ≤ k) ∧ Aside0 (Kd.R Kd.string 9 w' w.heap.size (fun _ => True) v5 x5_1) ∧ Aside0 (Below w.heap.size w w'))
  case atStart => exact ⟨(y221), (0), (by first | rfl | (simp; done) | (simp [*]; done)), H', ⟨Nat.le_refl _⟩, ⟨up HO223.out⟩, ⟨bl⟩⟩
  case round =>
    clear H'
    try clear p2
    try clear c3
    obtain ⟨x5_1, x11_1, rfl, HA, HK1, HO_5, HB⟩ := hrel
    cases gk with
    | zero => exact absurd HA.out (by simp [impl_joined.l0])
    | succ k1 =>
      have H := HA.out
      clear HA
      simp only [impl_joined.l0] at H
      by_cases c5 : x11_1 < (l0.length : Int)
      · rw [if_pos c5] at H
        have c5b0 : decide (x11_1 < (l0.length : Int)) = true := decide_eq_true c5
        clear c5
        by_cases c6 : 0 ≤ x11_1
        · rw [if_pos c6] at H
          have c6b0 : decide (0 ≤ x11_1) = true := decide_eq_true c6
          clear c6
          by_cases c7 : x11_1 < (l0.length : Int)
          · rw [if_pos c7] at H
            have c7b0 : decide (x11_1 < (l0.length : Int)) = true := decide_eq_true c7
            clear c7
            revert H; refine bo ?_; rintro t225 A8 H
            by_cases c9 : x5_1.length < 8796093022208
            · rw [if_pos c9] at H
              have LMc9 := Aside0.mk c9
              clear c9
              obtain ⟨y226, hy226⟩ : ∃ y_ : List ByteArray, y_ = (x5_1 ++ [t225]) := ⟨_, rfl⟩
              replace H : (impl_joined.l0 k1 a1 y226 l0 (l0.length : Int) (wrap64 (x11_1 + 1))) = some r := by first | (rw [hy226]; with_reducible exact H) | (have H2_ := (Option.bind_some _ _).symm.trans H; rw [hy226]; with_reducible exact H2_) | (have H2_ := (Option.bind_some _ _).symm.trans H; with_reducible exact H2_) | with_reducible exact H | (rw [hy226]; exact H) | exact H
              have Ny226 := Aside0.mk hy226
              clear hy226
              have H' := Aside0.mk H
              clear H
              have p224 : 0 ≤ (x11_1 : Int) := dt
              have q224 : x11_1 < (l0.length : Int) := dt
              obtain ⟨ad224, e224, hx224_0⟩ := Kd.at_int HR0.out x11_1 p224 q224
              cases e224
              replace hx224_0 := (HB.out.cell (World.block_lt_of_cell? w _ hx224_0)).trans hx224_0
              replace p224 := eq_true p224
              replace q224 := eq_true q224
              go_wp2_with (first | ((with_reducible refine gate_callee (f := 38) rfl ?_); refine gl (some 17) rfl Tryz.func38 #[.int .i64 (rd l0 x11_1)] ?_; (with_reducible refine (impl_FormatInt.calls (rd l0 x11_1) t225 _ ?side1 A8.out).mono ?_); (case side1 => exact ⟨TabOk.step TB0.out bl⟩); rintro e w10 ⟨rfl, hb⟩; refine ⟨_, rfl, ?_⟩; replace HO_5 := mk (Kd.R_below (up HO_5.out) hb); replace HB := wh hb; (try clear hb); (try clear hb2); (try clear hk); (try clear hi)) | ((with_reducible refine gate_builtin (b := .append) (xs := #[.tmp 15, .tmp 18]) rfl ?_); at_builtin; refine Kd.R_append Kd.string (w0 := w) w.heap.size rfl (.tmp 15) (.tmp 18) 56 9 (.string ⟨#[]⟩) 16 rfl Tryz.underlying56 info9 rfl (by decide) (by omega) u5 x5_1 t225 [.string t225] (fun _ => True) (fun _ => False) rfl rfl ?aP (fun _ hk => hk.elim) ?aF ?aO ?aB ?aS ?aL ?_; (case aP => exact rfl); (case aB => exact bl); (case aF => exact (fun _ _ => trivial)); (case aO => exact (up HO_5.out)); (case aS => exact (below_size bl)); (case aL => have := LMc9.out; omega); intro v227 w11 ho hb hg hat; rw [← Ny226.out] at ho; replace HB := mk hb; have HO228 := mk ho; clear HO_5; clear ho hb hg hat))
              go_roundg k1
              case measure => have := HK1.out; omega
              case rel => exact ⟨(y226), (wrap64 (x11_1 + 1)), (by first | rfl | (simp; done) | (simp [*]; done)), H', ⟨by have := HK1.out; omega⟩, ⟨up HO228.out⟩, ⟨bl⟩⟩
            · rw [if_neg c9] at H
              exact absurd H (by simp)
          · rw [if_neg c7] at H
            exact absurd H (by simp)
        · rw [if_neg c6] at H
          exact absurd H (by simp)
      · rw [if_neg c5] at H
        have c5b0 : decide (x11_1 < (l0.length : Int)) = false := decide_eq_false c5
        clear c5
        revert H; refine bo ?_; rintro t229 A12 H
        obtain rfl := Option.some.inj H
        obtain ⟨Ao13, co13, eo13⟩ := Kd.R_slice HO_5.out
        subst eo13
        go_wp2_with (first | ((with_reducible refine gate_callee (f := 31) rfl ?_); refine gl (some 23) rfl Tryz.func31 #[.slice Ao13 x5_1.length co13, .string a1] ?_; (with_reducible refine (strings_Join.calls _ _ x5_1 a1 t229 _ ?side1 ?side2 A12.out).mono ?_); (case side1 => exact uc (Kd.R_reads' HO_5.out).2.2); (case side2 => exact (Kd.R_reads' HO_5.out).2.1); rintro e w14 ⟨rfl, hb⟩; refine ⟨_, rfl, ?_⟩; replace HO_5 := mk (Kd.R_below (up HO_5.out) hb); replace HB := wh hb; (try clear hb); (try clear hb2); (try clear hk); (try clear hi)))
        go_ret
        exact ⟨by first | rfl | (simp [errW_none, errW_some] <;> rfl) | (simp [*, errW_none, errW_some] <;> rfl), bl⟩

/-! ### impl_FormatTable: function 6 -/
mutual
def impl_FormatTable.l0 : Nat → List ByteArray → List (S58) → Int → Int → List (S58) → Option (ByteArray)
 | 0, _, _, _, _, _ => none
 | k + 1, x3, x16, x17, x18, x231000 => if x18 < x17 then (if 0 ≤ x18 then (if x18 < (x16.length : Int) then (if x3.length < 8796093022208 then (impl_FormatTable.l0 k (x3 ++ [(rd_T58 x16 x18).f0]) x16 x17 (wrap64 (x18 + 1)) x231000) else (none)) else (none)) else (none)) else ((strings_Join.f x3 (⟨#[32]⟩ : ByteArray)).bind fun t240 => (if t240.size + 1 ≤ 9223372036854775807 then (if 0 < (x231000.length : Int) then (impl_FormatTable.l1 k (t240 ++ (⟨#[10]⟩ : ByteArray)) (((rd_T58 x231000 0).f1).length : Int) 0 x231000) else (none)) else (none)))
def impl_FormatTable.l1 : Nat → ByteArray → Int → Int → List (S58) → Option (ByteArray)
 | 0, _, _, _, _ => none
 | k + 1, x6, x36, x37, x231000 => if x37 < x36 then (impl_FormatTable.l2 k x6 x37 (([] : List Int)) x36 x37 x231000 (x231000.length : Int) 0 x231000) else (some x6)
def impl_FormatTable.l2 : Nat → ByteArray → Int → List Int → Int → Int → List (S58) → Int → Int → List (S58) → Option (ByteArray)
 | 0, _, _, _, _, _, _, _, _, _ => none
 | k + 1, x6, x7, x8, x36, x37, x42, x43, x44, x231000 => if x44 < x43 then (if 0 ≤ x44 then (if x44 < (x42.length : Int) then (if 0 ≤ x7 then (if x7 < (((rd_T58 x42 x44).f1).length : Int) then (if x8.length < 17592186044416 then (impl_FormatTable.l2 k x6 x7 (x8 ++ [rd ((rd_T58 x42 x44).f1) x7]) x36 x37 x42 x43 (wrap64 (x44 + 1)) x231000) else (none)) else (none)) else (none)) else (none)) else (none)) else ((impl_joined.f k x8 (⟨#[32]⟩ : ByteArray)).bind fun t251 => (if t251.size + 1 ≤ 9223372036854775807 then (if x6.size + (t251 ++ (⟨#[10]⟩ : ByteArray)).size ≤ 9223372036854775807 then (impl_FormatTable.l1 k (x6 ++ (t251 ++ (⟨#[10]⟩ : ByteArray))) x36 (wrap64 (x37 + 1)) x231000) else (none)) else (none)))
end
def impl_FormatTable.f (k : Nat) (l0_0 : List (S58)) : Option (ByteArray) := (impl_IsTable.f k l0_0).bind fun t231 => (if t231 = true then (impl_FormatTable.l0 k (([] : List ByteArray)) l0_0 (l0_0.length : Int) 0 l0_0) else (some (⟨#[]⟩ : ByteArray)))
theorem impl_FormatTable.mono_l : ∀ k, (∀ y0 y1 y2 y3 y4, LeO (impl_FormatTable.l0 k y0 y1 y2 y3 y4) (impl_FormatTable.l0 (k + 1) y0 y1 y2 y3 y4)) ∧ (∀ y0 y1 y2 y3, LeO (impl_FormatTable.l1 k y0 y1 y2 y3) (impl_FormatTable.l1 (k + 1) y0 y1 y2 y3)) ∧ (∀ y0 y1 y2 y3 y4 y5 y6 y7 y8, LeO (impl_FormatTable.l2 k y0 y1 y2 y3 y4 y5 y6 y7 y8) (impl_FormatTable.l2 (k + 1) y0 y1 y2 y3 y4 y5 y6 y7 y8))
 | 0 => ⟨fun _ _ _ _ _ r h => by simp [impl_FormatTable.l0] at h, fun _ _ _ _ r h => by simp [impl_FormatTable.l1] at h, fun _ _ _ _ _ _ _ _ _ r h => by simp [impl_FormatTable.l2] at h⟩
 | k + 1 => by
  obtain ⟨ih0, ih1, ih2⟩ := impl_FormatTable.mono_l k
  refine ⟨?_, ?_, ?_⟩
  ·intro y0 y1 y2 y3 y4
   unfold impl_FormatTable.l0
   exact mo
  ·intro y0 y1 y2 y3
   unfold impl_FormatTable.l1
   exact mo
  ·intro y0 y1 y2 y3 y4 y5 y6 y7 y8
   unfold impl_FormatTable.l2
   exact mo
theorem impl_FormatTable.mono : ∀ a0 k, LeO (impl_FormatTable.f k a0) (impl_FormatTable.f (k + 1) a0) := by
 intro a0 k
 obtain ⟨ih0, ih1, ih2⟩ := impl_FormatTable.mono_l k
 unfold impl_FormatTable.f
 exact mo
instance impl_FormatTable.mi (a0 k) : LeC (impl_FormatTable.f k a0) (impl_FormatTable.f (k + 1) a0) := ⟨impl_FormatTable.mono a0 k⟩
set_option maxHeartbeats 8000000 in
set_option maxRecDepth 100000 in
theorem impl_FormatTable.calls (k : Nat) (A0_0 : Option Addr) (c0_0 : Nat) (l0_0 : List (S58)) (r : ByteArray) (w : World) (hr0_0 : Kd.C k58 w A0_0 l0_0.length l0_0) (hc0_0 : l0_0.length ≤ c0_0) (TB0 : Aside0 (TabOk w)) (h : impl_FormatTable.f k l0_0 = some r) :
  Calls Tryz.prog 6 #[.agg #[.slice A0_0 l0_0.length c0_0]] w fun e w' => e = .returned (.string r) ∧ Below w.heap.size w w' := by
 have hu26 := Tryz.underlying26
 have hu58 := Tryz.underlying58
 have HR0_0 := Aside0.mk hr0_0
 have HC0_0 := Aside0.mk hc0_0
 clear hr0_0 hc0_0
 have HB := Aside0.mk (Below.refl w.heap.size w)
 have H : ((impl_IsTable.f k l0_0).bind fun t231 => (if t231 = true then (impl_FormatTable.l0 k (([] : List ByteArray)) l0_0 (l0_0.length : Int) 0 l0_0) else (some (⟨#[]⟩ : ByteArray)))) = some r := h
 clear h
 revert H; refine bo ?_; rintro t231 A2 H
 by_cases c3 : t231 = true
 ·subst c3
  rw [if_pos rfl] at H
  obtain ⟨y232, hy232⟩ : ∃ y_ : List ByteArray, y_ = (([] : List ByteArray)) := ⟨_, rfl⟩
  replace H : (impl_FormatTable.l0 k y232 l0_0 (l0_0.length : Int) 0 l0_0) = some r := by first | (rw [hy232]; with_reducible exact H) | (have H2_ := (Option.bind_some _ _).symm.trans H; rw [hy232]; with_reducible exact H2_) | (have H2_ := (Option.bind_some _ _).symm.trans H; with_reducible exact H2_) | with_reducible exact H | (rw [hy232]; exact H) | exact H
  have Ny232 := Aside0.mk hy232
  clear hy232
  have H' := Aside0.mk H
  clear H
  go_enter Tryz.func6, Tryz.ntmps6
  go_wp2_with (first | ((with_reducible refine gate_dst (N := 1) rfl ?_); refine bx 1 #[.slice A0_0 l0_0.length c0_0] 26 ?_; intro gb230 hg w4 hbox hb; have BK230 := mk hbox; have GW230 := wg hg; have GE230 := wg hg; replace HB := wh hb; clear hb hbox hg; obtain ⟨hcz5_0, hfz5_0⟩ := bz1 BK230) | ((with_reducible refine gate_callee (f := 30) rfl ?_); refine gl (some 12) rfl Tryz.func30 #[.agg #[.slice A0_0 l0_0.length c0_0]] ?_; (with_reducible refine (impl_IsTable.calls k _ _ l0_0 true _ ?side1 ?side2 A2.out).mono ?_); (case side1 => exact uc (Kd.C_below HR0_0.out HB.out)); (case side2 => exact HC0_0.out); rintro e w6 ⟨rfl, hb⟩; refine ⟨_, rfl, ?_⟩; replace BK230 := wb BK230 hb; replace HB := wh hb; (try clear hb); (try clear hb2); (try clear hk); (try clear hi)) | ((with_reducible refine gate_dst (N := 14) rfl ?_); refine Kd.R_lit Kd.string _ 9 ?hg (N := 14) ?hd (xs := ([] : List ByteArray)) (inner := []) (ok := fun _ => True) (okp := fun _ => True) ?hr ?hp (fun _ hk => hk) trivial (Below.refl _ _) (Nat.le_refl _) (by simp) ?_; (case hd => rfl); (case hg => rfl); (case hr => first | (go_simp; done) | (go_simp; rfl)); (case hp => exact (Reps.none _ _)); intro v233 w7 ho8 hb hg_ hnew_; clear hg_ hnew_; (first | rw [← Ny232.out] at ho8 | (simp only [Int.reduceToNat] at ho8; rw [← Ny232.out] at ho8)); have HO234 := mk (Kd.R_lower ho8 (below_size bl)); replace BK230 := wb BK230 hb; replace HB := wh hb; clear hb ho8; obtain ⟨hcz9_0, hfz9_0⟩ := bz1 BK230))
  go_loopg [3, 18] k (fun kq v3 v18 w' => ∃ (x3_1 : List ByteArray) (x18_1 : Int), v18 = .int .i64 x18_1 ∧ Aside0 (impl_FormatTable.l0 kq x3_1 l0_0 (l0_0.length : Int) x18_1 l0_0 = some r) ∧ Aside0 (kq ≤ k) ∧ Aside0 (Kd.R Kd.string 9 w' w.heap.size (fun _ => True) v3 x3_1) ∧ Aside0 (w'.heap[gb230]? = some (.cells #[(.slice A0_0 l0_0.length c0_0)] 26 (0, 0))) ∧ Aside0 (Below w.heap.size w w'))
  case atStart => exact ⟨(y232), (0), (by first | rfl | (simp; done) | (simp [*]; done)), H', ⟨Nat.le_refl _⟩, ⟨up HO234.out⟩, ⟨ub BK230.out⟩, ⟨bl⟩⟩
  case round =>
   clear H'
   try clear p2
   try clear c3
   try clear c6
   try clear hcz5_0
   try clear hcz9_0
   try clear hfz5_0
   try clear hfz9_0
   obtain ⟨x3_1, x18_1, rfl, HA, HK1, HO_3, BK230, HB⟩ := hrel
   cases gk with
   | zero => exact absurd HA.out (by simp [impl_FormatTable.l0])
   | succ k1 =>
    have H := HA.out
    clear HA
    simp only [impl_FormatTable.l0] at H
    by_cases c10 : x18_1 < (l0_0.length : Int)
    ·rw [if_pos c10] at H
     have c10b0 : decide (x18_1 < (l0_0.length : Int)) = true := decide_eq_true c10
     clear c10
     by_cases c11 : 0 ≤ x18_1
     ·rw [if_pos c11] at H
      have c11b0 : decide (0 ≤ x18_1) = true := decide_eq_true c11
      clear c11
      by_cases c12 : x18_1 < (l0_0.length : Int)
      ·rw [if_pos c12] at H
       have c12b0 : decide (x18_1 < (l0_0.length : Int)) = true := decide_eq_true c12
       clear c12
       by_cases c13 : x3_1.length < 8796093022208
       ·rw [if_pos c13] at H
        have LMc13 := Aside0.mk c13
        clear c13
        obtain ⟨y237, hy237⟩ : ∃ y_ : List ByteArray, y_ = (x3_1 ++ [(rd_T58 l0_0 x18_1).f0]) := ⟨_, rfl⟩
        replace H : (impl_FormatTable.l0 k1 y237 l0_0 (l0_0.length : Int) (wrap64 (x18_1 + 1)) l0_0) = some r := by first | (rw [hy237]; with_reducible exact H) | (have H2_ := (Option.bind_some _ _).symm.trans H; rw [hy237]; with_reducible exact H2_) | (have H2_ := (Option.bind_some _ _).symm.trans H; with_reducible exact H2_) | with_reducible exact H | (rw [hy237]; exact H) | exact H
        have Ny237 := Aside0.mk hy237
        clear hy237
        have H' := Aside0.mk H
        clear H
        have p235 : 0 ≤ (x18_1 : Int) := dt
        have q235 : x18_1 < (l0_0.length : Int) := dt
        obtain ⟨ad235, A235_1, c235_1, e235, hx235_0, hx235_1, hl235_1, hi235_1⟩ := at_T58 HR0_0.out x18_1 p235 q235
        cases e235
        replace hx235_0 := (HB.out.cell (World.block_lt_of_cell? w _ hx235_0)).trans hx235_0
        replace hx235_1 := (HB.out.cell (World.block_lt_of_cell? w _ hx235_1)).trans hx235_1
        have HR235_1 := Aside0.mk hi235_1
        have HC235_1 := Aside0.mk hl235_1
        clear hi235_1 hl235_1
        replace p235 := eq_true p235
        replace q235 := eq_true q235
        go_wp2_with (first | ((with_reducible refine gate_dst (N := 5) rfl ?_); refine bx 5 #[.string (⟨#[]⟩ : ByteArray), .slice none 0 0] 58 ?_; intro gb236 hg w14 hbox hb; replace HO_3 := mk (Kd.R_below (up HO_3.out) hb); have BK236 := mk hbox; have GW236 := wg hg; have GE236 := wg hg; replace HB := wh hb; have NB230_236 := nl BK230 hg; have NB236_230 := nr BK230 hg; replace BK230 := wb BK230 hb; clear hb hbox hg; have hnb15 := NB236_230.out; have hnc15 := NB230_236.out; obtain ⟨hcz16_0, hcz16_1, hfz16_0, hfz16_1⟩ := bz2 BK236) | ((with_reducible refine gate_builtin (b := .append) (xs := #[.tmp 22, .tmp 25]) rfl ?_); at_builtin; refine Kd.R_append Kd.string (w0 := w) w.heap.size rfl (.tmp 22) (.tmp 25) 56 9 (.string ⟨#[]⟩) 16 rfl Tryz.underlying56 info9 rfl (by decide) (by omega) u3 x3_1 ((rd_T58 l0_0 x18_1).f0) [.string ((rd_T58 l0_0 x18_1).f0)] (fun _ => True) (fun _ => False) rfl (by first | (go_simp; done) | (go_simp; rfl)) ?aP (fun _ hk => hk.elim) ?aF ?aO ?aB ?aS ?aL ?_; (case aP => exact rfl); (case aB => exact bl); (case aF => exact (fun _ _ => trivial)); (case aO => exact (by exact rm (rs1 HO_3 BK236))); (case aS => exact (below_size bl)); (case aL => have := LMc13.out; omega); intro v238 w17 ho hb hg hat; rw [← Ny237.out] at ho; replace BK230 := mk (blk_grown (g := gb230) (o := .cells #[.slice (some ad235) l0_0.length c0_0] 26 (0, 0)) bq hg (Kd.R_ne HO_3.out BK230.out (by decide))); replace BK236 := mk (blk_grown (g := gb236) (o := .cells #[.string ((rd_T58 l0_0 x18_1).f0), .slice A235_1 ((rd_T58 l0_0 x18_1).f1).length c235_1] 58 (0, 0)) bq hg (Kd.R_ne HO_3.out BK236.out (by decide))); replace HB := mk hb; have HO239 := mk ho; clear HO_3; clear ho hb hg hat))
        go_roundg k1
        case measure => have := HK1.out; omega
        case rel => exact ⟨(y237), (wrap64 (x18_1 + 1)), (by first | rfl | (simp; done) | (simp [*]; done)), H', ⟨by have := HK1.out; omega⟩, ⟨up HO239.out⟩, ⟨ub BK230.out⟩, ⟨bl⟩⟩
       ·rw [if_neg c13] at H
        exact absurd H (by simp)
      ·rw [if_neg c12] at H
       exact absurd H (by simp)
     ·rw [if_neg c11] at H
      exact absurd H (by simp)
    ·rw [if_neg c10] at H
     have c10b0 : decide (x18_1 < (l0_0.length : Int)) = false := decide_eq_false c10
     clear c10
     revert H; refine bo ?_; rintro t240 A18 H
     by_cases c19 : t240.size + 1 ≤ 9223372036854775807
     ·rw [if_pos c19] at H
      have c19b0 := eq_true c19
      have c19b1 : decide (t240.size + 1 ≤ 9223372036854775807) = true := decide_eq_true c19
      try have c19b2 : (9223372036854775807 < t240.size + 1) = False := eq_false (Nat.not_lt.2 c19)
      by_cases c20 : 0 < (l0_0.length : Int)
      ·rw [if_pos c20] at H
       have c20b0 : decide (0 < (l0_0.length : Int)) = true := decide_eq_true c20
       have c20b1 : decide (0 < l0_0.length) = true := decide_eq_true (by omega)
       clear c20
       have H' := Aside0.mk H
       clear H
       obtain ⟨Ao21, co21, eo21⟩ := Kd.R_slice HO_3.out
       subst eo21
       go_wp2_with (first | ((with_reducible refine gate_callee (f := 31) rfl ?_); refine gl (some 29) rfl Tryz.func31 #[.slice Ao21 x3_1.length co21, .string (⟨#[32]⟩ : ByteArray)] ?_; (with_reducible refine (strings_Join.calls _ _ x3_1 (⟨#[32]⟩ : ByteArray) t240 _ ?side1 ?side2 A18.out).mono ?_); (case side1 => exact uc (Kd.R_reads' HO_3.out).2.2); (case side2 => exact (Kd.R_reads' HO_3.out).2.1); rintro e w22 ⟨rfl, hb⟩; refine ⟨_, rfl, ?_⟩; replace HO_3 := mk (Kd.R_below (up HO_3.out) hb); replace BK230 := wb BK230 hb; replace HB := wh hb; (try clear hb); (try clear hb2); (try clear hk); (try clear hi); obtain ⟨hcz23_0, hfz23_0⟩ := bz1 BK230; have p241 : 0 ≤ (0 : Int) := (by omega); have q241 : 0 < (l0_0.length : Int) := dt; obtain ⟨ad241, A241_1, c241_1, e241, hx241_0, hx241_1, hl241_1, hi241_1⟩ := at_T58 HR0_0.out 0 p241 q241; cases e241; have qi241 : (0 < l0_0.length) = True := eq_true (by omega); (try rw [show ((0 : Int)).toNat = 0 from rfl] at hx241_0); (try rw [show 0 * 2 = 0 from rfl] at hx241_0); (try rw [Addr.add_zero'] at hx241_0); (try rw [show ((0 : Int)).toNat = 0 from rfl] at hx241_1); (try rw [show 0 * 2 = 0 from rfl] at hx241_1); (try rw [Addr.add_zero'] at hx241_1); replace hx241_0 := (HB.out.cell (World.block_lt_of_cell? w _ hx241_0)).trans hx241_0; replace hx241_1 := (HB.out.cell (World.block_lt_of_cell? w _ hx241_1)).trans hx241_1; have HR241_1 := Aside0.mk hi241_1; have HC241_1 := Aside0.mk hl241_1; clear hi241_1 hl241_1; replace p241 := eq_true p241; replace q241 := eq_true q241))
       go_loopg [6, 37] k1 (fun kq v6 v37 w' => ∃ (x6_2 : ByteArray) (x37_2 : Int), v6 = .string x6_2 ∧ v37 = .int .i64 x37_2 ∧ Aside0 (impl_FormatTable.l1 kq x6_2 (((rd_T58 l0_0 0).f1).length : Int) x37_2 l0_0 = some r) ∧ Aside0 (kq ≤ k1) ∧ Aside0 (w'.heap[gb230]? = some (.cells #[(.slice (some ad241) l0_0.length c0_0)] 26 (0, 0))) ∧ Aside0 (Below w.heap.size w w'))
       case atStart => exact ⟨(t240 ++ (⟨#[10]⟩ : ByteArray)), (0), (by first | rfl | (simp; done) | (simp [*]; done)), (by first | rfl | (simp; done) | (simp [*]; done)), H', ⟨Nat.le_refl _⟩, ⟨ub BK230.out⟩, ⟨bl⟩⟩
       case round =>
        clear H'
        try clear c1
        try clear c2
        try clear p2
        try clear q2
        try clear hx2
        try clear qi2
        try clear c3
        try clear c6
        try clear p6
        try clear c10
        try clear c10b0
        try clear c11
        try clear c11b0
        try clear c12
        try clear c12b0
        try clear c13
        try clear c15
        try clear c19
        try clear c19b0
        try clear c19b1
        try clear c19b2
        try clear c20
        try clear c20b0
        try clear c20b1
        try clear c23
        try clear p23
        try clear q23
        try clear hx23
        try clear hcz16_0
        try clear hcz16_1
        try clear hcz23_0
        try clear hcz5_0
        try clear hcz9_0
        try clear hfz16_0
        try clear hfz16_1
        try clear hfz23_0
        try clear hfz5_0
        try clear hfz9_0
        try clear hx235_0
        try clear hx235_1
        try clear hx241_0
        try clear hx241_1
        try clear p2
        try clear p235
        try clear p241
        try clear q235
        try clear q241
        obtain ⟨x6_2, x37_2, rfl, rfl, HA, HK2, BK230, HB⟩ := hrel
        cases gk with
        | zero => exact absurd HA.out (by simp [impl_FormatTable.l1])
        | succ k2 =>
         have H := HA.out
         clear HA
         simp only [impl_FormatTable.l1] at H
         by_cases c24 : x37_2 < (((rd_T58 l0_0 0).f1).length : Int)
         ·rw [if_pos c24] at H
          have c24b0 : decide (x37_2 < (((rd_T58 l0_0 0).f1).length : Int)) = true := decide_eq_true c24
          clear c24
          obtain ⟨y242, hy242⟩ : ∃ y_ : List Int, y_ = (([] : List Int)) := ⟨_, rfl⟩
          replace H : (impl_FormatTable.l2 k2 x6_2 x37_2 y242 (((rd_T58 l0_0 0).f1).length : Int) x37_2 l0_0 (l0_0.length : Int) 0 l0_0) = some r := by first | (rw [hy242]; with_reducible exact H) | (have H2_ := (Option.bind_some _ _).symm.trans H; rw [hy242]; with_reducible exact H2_) | (have H2_ := (Option.bind_some _ _).symm.trans H; with_reducible exact H2_) | with_reducible exact H | (rw [hy242]; exact H) | exact H
          have Ny242 := Aside0.mk hy242
          clear hy242
          have H' := Aside0.mk H
          clear H
          go_wp2_with (first | ((with_reducible refine gate_dst (N := 40) rfl ?_); refine Kd.R_lit (Kd.int .i64) _ 3 ?hg (N := 40) ?hd (xs := ([] : List Int)) (inner := []) (ok := fun _ => True) (okp := fun _ => True) ?hr ?hp (fun _ hk => hk) trivial (Below.refl _ _) (Nat.le_refl _) (by simp) ?_; (case hd => rfl); (case hg => rfl); (case hr => first | (go_simp; done) | (go_simp; rfl)); (case hp => exact (Reps.none _ _)); intro v243 w25 ho26 hb hg_ hnew_; clear hg_ hnew_; (first | rw [← Ny242.out] at ho26 | (simp only [Int.reduceToNat] at ho26; rw [← Ny242.out] at ho26)); have HO244 := mk (Kd.R_lower ho26 (below_size bl)); replace BK230 := wb BK230 hb; replace HB := wh hb; clear hb ho26; obtain ⟨hcz27_0, hfz27_0⟩ := bz1 BK230))
          go_loopg [8, 44] k2 (fun kq v8 v44 w' => ∃ (x8_3 : List Int) (x44_3 : Int), v44 = .int .i64 x44_3 ∧ Aside0 (impl_FormatTable.l2 kq x6_2 x37_2 x8_3 (((rd_T58 l0_0 0).f1).length : Int) x37_2 l0_0 (l0_0.length : Int) x44_3 l0_0 = some r) ∧ Aside0 (kq ≤ k2) ∧ Aside0 (Kd.R (Kd.int .i64) 3 w' w.heap.size (fun _ => True) v8 x8_3) ∧ Aside0 (w'.heap[gb230]? = some (.cells #[(.slice (some ad241) l0_0.length c0_0)] 26 (0, 0))) ∧ Aside0 (Below w.heap.size w w'))
          case atStart => exact ⟨(y242), (0), (by first | rfl | (simp; done) | (simp [*]; done)), H', ⟨Nat.le_refl _⟩, ⟨up HO244.out⟩, ⟨ub BK230.out⟩, ⟨bl⟩⟩
          case round =>
           clear H'
           try clear c1
           try clear c2
           try clear p2
           try clear q2
           try clear hx2
           try clear qi2
           try clear c3
           try clear c6
           try clear p6
           try clear c10
           try clear c10b0
           try clear c11
           try clear c11b0
           try clear c12
           try clear c12b0
           try clear c13
           try clear c15
           try clear c19
           try clear c19b0
           try clear c19b1
           try clear c19b2
           try clear c20
           try clear c20b0
           try clear c20b1
           try clear c23
           try clear p23
           try clear q23
           try clear hx23
           try clear c24
           try clear c24b0
           try clear p24
           try clear q24
           try clear hx24
           try clear qi24
           try clear hcz16_0
           try clear hcz16_1
           try clear hcz23_0
           try clear hcz27_0
           try clear hcz5_0
           try clear hcz9_0
           try clear hfz16_0
           try clear hfz16_1
           try clear hfz23_0
           try clear hfz27_0
           try clear hfz5_0
           try clear hfz9_0
           try clear hx235_0
           try clear hx235_1
           try clear hx241_0
           try clear hx241_1
           try clear p2
           try clear p23
           try clear p235
           try clear p241
           try clear p6
           try clear q2
           try clear q23
           try clear q235
           try clear q241
           obtain ⟨x8_3, x44_3, rfl, HA, HK3, HO_8, BK230, HB⟩ := hrel
           cases gk with
           | zero => exact absurd HA.out (by simp [impl_FormatTable.l2])
           | succ k3 =>
            have H := HA.out
            clear HA
            simp only [impl_FormatTable.l2] at H
            by_cases c28 : x44_3 < (l0_0.length : Int)
            ·rw [if_pos c28] at H
             have c28b0 : decide (x44_3 < (l0_0.length : Int)) = true := decide_eq_true c28
             clear c28
             by_cases c29 : 0 ≤ x44_3
             ·rw [if_pos c29] at H
              have c29b0 : decide (0 ≤ x44_3) = true := decide_eq_true c29
              clear c29
              by_cases c30 : x44_3 < (l0_0.length : Int)
              ·rw [if_pos c30] at H
               have c30b0 : decide (x44_3 < (l0_0.length : Int)) = true := decide_eq_true c30
               clear c30
               by_cases c31 : 0 ≤ x37_2
               ·rw [if_pos c31] at H
                have c31b0 : decide (0 ≤ x37_2) = true := decide_eq_true c31
                clear c31
                by_cases c32 : x37_2 < (((rd_T58 l0_0 x44_3).f1).length : Int)
                ·rw [if_pos c32] at H
                 have c32b0 : decide (x37_2 < (((rd_T58 l0_0 x44_3).f1).length : Int)) = true := decide_eq_true c32
                 clear c32
                 by_cases c33 : x8_3.length < 17592186044416
                 ·rw [if_pos c33] at H
                  have LMc33 := Aside0.mk c33
                  clear c33
                  obtain ⟨y248, hy248⟩ : ∃ y_ : List Int, y_ = (x8_3 ++ [rd ((rd_T58 l0_0 x44_3).f1) x37_2]) := ⟨_, rfl⟩
                  replace H : (impl_FormatTable.l2 k3 x6_2 x37_2 y248 (((rd_T58 l0_0 0).f1).length : Int) x37_2 l0_0 (l0_0.length : Int) (wrap64 (x44_3 + 1)) l0_0) = some r := by first | (rw [hy248]; with_reducible exact H) | (have H2_ := (Option.bind_some _ _).symm.trans H; rw [hy248]; with_reducible exact H2_) | (have H2_ := (Option.bind_some _ _).symm.trans H; with_reducible exact H2_) | with_reducible exact H | (rw [hy248]; exact H) | exact H
                  have Ny248 := Aside0.mk hy248
                  clear hy248
                  have H' := Aside0.mk H
                  clear H
                  have p245 : 0 ≤ (x44_3 : Int) := dt
                  have q245 : x44_3 < (l0_0.length : Int) := dt
                  obtain ⟨ad245, A245_1, c245_1, e245, hx245_0, hx245_1, hl245_1, hi245_1⟩ := at_T58 HR0_0.out x44_3 p245 q245
                  obtain rfl : ad241 = ad245 := (by injection e245)
                  replace hx245_0 := (HB.out.cell (World.block_lt_of_cell? w _ hx245_0)).trans hx245_0
                  replace hx245_1 := (HB.out.cell (World.block_lt_of_cell? w _ hx245_1)).trans hx245_1
                  have HR245_1 := Aside0.mk hi245_1
                  have HC245_1 := Aside0.mk hl245_1
                  clear hi245_1 hl245_1
                  replace p245 := eq_true p245
                  replace q245 := eq_true q245
                  go_wp2_with (first | ((with_reducible refine gate_dst (N := 10) rfl ?_); refine bx 10 #[.string (⟨#[]⟩ : ByteArray), .slice none 0 0] 58 ?_; intro gb246 hg w34 hbox hb; replace HO_8 := mk (Kd.R_below (up HO_8.out) hb); have BK246 := mk hbox; have GW246 := wg hg; have GE246 := wg hg; replace HB := wh hb; have NB230_246 := nl BK230 hg; have NB246_230 := nr BK230 hg; replace BK230 := wb BK230 hb; clear hb hbox hg; have hnb35 := NB246_230.out; have hnc35 := NB230_246.out; obtain ⟨hcz36_0, hcz36_1, hfz36_0, hfz36_1⟩ := bz2 BK246; have p247 : 0 ≤ (x37_2 : Int) := dt; have q247 : x37_2 < (((rd_T58 l0_0 x44_3).f1).length : Int) := dt; obtain ⟨ad247, e247, hx247_0⟩ := Kd.at_int HR245_1.out x37_2 p247 q247; cases e247; have hn247_0 : ad247.block ≠ gb246 := Nat.ne_of_lt (Nat.lt_of_lt_of_le (by have := World.block_lt_of_cell? _ _ hx247_0; first | rwa [add_block] at this | exact this) GW246.out); have hn247_1 : ad247.block ≠ gb246 := Nat.ne_of_lt (Nat.lt_of_lt_of_le (by have := World.block_lt_of_cell? _ _ hx247_0; first | rwa [add_block] at this | exact this) GW246.out); replace hx247_0 := (HB.out.cell (World.block_lt_of_cell? w _ hx247_0)).trans hx247_0; replace hx247_0 := (cell_far (p := ⟨gb246, 0, none⟩) (by first | (rw [add_block]; exact hn247_0) | (show (Addr.add _ _).block ≠ _; rw [add_block]; exact hn247_0) | exact hn247_0) (.string ((rd_T58 l0_0 x44_3).f0))).trans hx247_0; replace hx247_0 := (cell_far (p := ⟨gb246, 1, none⟩) (by first | (rw [add_block]; exact hn247_1) | (show (Addr.add _ _).block ≠ _; rw [add_block]; exact hn247_1) | exact hn247_1) (.slice (some ad247) ((rd_T58 l0_0 x44_3).f1).length c245_1)).trans hx247_0; clear hn247_0; clear hn247_1; replace p247 := eq_true p247; replace q247 := eq_true q247) | ((with_reducible refine gate_builtin (b := .append) (xs := #[.tmp 48, .tmp 54]) rfl ?_); at_builtin; refine Kd.R_append (Kd.int .i64) (w0 := w) w.heap.size rfl (.tmp 48) (.tmp 54) 47 3 (.int .i64 0) 8 rfl Tryz.underlying47 info3 rfl (by decide) (by omega) u8 x8_3 (rd ((rd_T58 l0_0 x44_3).f1) x37_2) [.int .i64 (rd ((rd_T58 l0_0 x44_3).f1) x37_2)] (fun _ => True) (fun _ => False) rfl (by first | (go_simp; done) | (go_simp; rfl)) ?aP (fun _ hk => hk.elim) ?aF ?aO ?aB ?aS ?aL ?_; (case aP => exact rfl); (case aB => exact bl); (case aF => exact (fun _ _ => trivial)); (case aO => exact (by exact rm (rs1 HO_8 BK246))); (case aS => exact (below_size bl)); (case aL => have := LMc33.out; omega); intro v249 w37 ho hb hg hat; rw [← Ny248.out] at ho; replace BK230 := mk (blk_grown (g := gb230) (o := .cells #[.slice (some ad241) l0_0.length c0_0] 26 (0, 0)) bq hg (Kd.R_ne HO_8.out BK230.out (by decide))); replace BK246 := mk (blk_grown (g := gb246) (o := .cells #[.string ((rd_T58 l0_0 x44_3).f0), .slice (some ad247) ((rd_T58 l0_0 x44_3).f1).length c245_1] 58 (0, 0)) bq hg (Kd.R_ne HO_8.out BK246.out (by decide))); replace HB := mk hb; have HO250 := mk ho; clear HO_8; clear ho hb hg hat))
                  go_roundg k3
                  case measure => have := HK1.out; have := HK2.out; have := HK3.out; omega
                  case rel => exact ⟨(y248), (wrap64 (x44_3 + 1)), (by first | rfl | (simp; done) | (simp [*]; done)), H', ⟨by have := HK1.out; have := HK2.out; have := HK3.out; omega⟩, ⟨up HO250.out⟩, ⟨ub BK230.out⟩, ⟨bl⟩⟩
                 ·rw [if_neg c33] at H
                  exact absurd H (by simp)
                ·rw [if_neg c32] at H
                 exact absurd H (by simp)
               ·rw [if_neg c31] at H
                exact absurd H (by simp)
              ·rw [if_neg c30] at H
               exact absurd H (by simp)
             ·rw [if_neg c29] at H
              exact absurd H (by simp)
            ·rw [if_neg c28] at H
             have c28b0 : decide (x44_3 < (l0_0.length : Int)) = false := decide_eq_false c28
             clear c28
             revert H; refine bo ?_; rintro t251 A38 H
             by_cases c39 : t251.size + 1 ≤ 9223372036854775807
             ·rw [if_pos c39] at H
              have c39b0 := eq_true c39
              have c39b1 : decide (t251.size + 1 ≤ 9223372036854775807) = true := decide_eq_true c39
              try have c39b2 : (9223372036854775807 < t251.size + 1) = False := eq_false (Nat.not_lt.2 c39)
              by_cases c40 : x6_2.size + (t251 ++ (⟨#[10]⟩ : ByteArray)).size ≤ 9223372036854775807
              ·rw [if_pos c40] at H
               have c40b0 := eq_true c40
               have c40b1 : decide (x6_2.size + (t251 ++ (⟨#[10]⟩ : ByteArray)).size ≤ 9223372036854775807) = true := decide_eq_true c40
               try have c40b2 : (9223372036854775807 < x6_2.size + (t251 ++ (⟨#[10]⟩ : ByteArray)).size) = False := eq_false (Nat.not_lt.2 c40)
               have c40b4 : (9223372036854775807 < x6_2.size + t251.size + 1) = False := eq_false (by have h_ := c40; simp only [ByteArray.size_append, show (⟨#[10]⟩ : ByteArray).size = 1 from rfl] at h_; omega)
               have H' := Aside0.mk H
               clear H
               obtain ⟨Ao41, co41, eo41⟩ := Kd.R_slice HO_8.out
               subst eo41
               go_wp2_with (first | ((with_reducible refine gate_callee (f := 32) rfl ?_); refine gl (some 59) rfl Tryz.func32 #[.slice Ao41 x8_3.length co41, .string (⟨#[32]⟩ : ByteArray)] ?_; (with_reducible refine (impl_joined.calls k3 _ _ x8_3 (⟨#[32]⟩ : ByteArray) t251 _ ?side1 ?side2 ?side3 A38.out).mono ?_); (case side1 => exact uc (Kd.R_reads' HO_8.out).2.2); (case side2 => exact (Kd.R_reads' HO_8.out).2.1); (case side3 => exact ⟨TabOk.step TB0.out bl⟩); rintro e w42 ⟨rfl, hb⟩; refine ⟨_, rfl, ?_⟩; replace HO_8 := mk (Kd.R_below (up HO_8.out) hb); replace BK230 := wb BK230 hb; replace HB := wh hb; (try clear hb); (try clear hb2); (try clear hk); (try clear hi)))
               go_roundg k3
               case measure => have := HK1.out; have := HK2.out; have := HK3.out; omega
               case rel => exact ⟨(x6_2 ++ (t251 ++ (⟨#[10]⟩ : ByteArray))), (wrap64 (x37_2 + 1)), (by first | rfl | (simp; done) | (simp [*]; done)), (by first | rfl | (simp; done) | (simp [*]; done)), H', ⟨by have := HK1.out; have := HK2.out; have := HK3.out; omega⟩, ⟨ub BK230.out⟩, ⟨bl⟩⟩
              ·rw [if_neg c40] at H
               exact absurd H (by simp)
             ·rw [if_neg c39] at H
              exact absurd H (by simp)
         ·rw [if_neg c24] at H
          have c24b0 : decide (x37_2 < (((rd_T58 l0_0 0).f1).length : Int)) = false := decide_eq_false c24
          clear c24
          obtain rfl := Option.some.inj H
          go_wp2
          go_ret
          exact ⟨by first | rfl | (simp [errW_none, errW_some] <;> rfl) | (simp [*, errW_none, errW_some] <;> rfl), bl⟩
      ·rw [if_neg c20] at H
       exact absurd H (by simp)
     ·rw [if_neg c19] at H
      exact absurd H (by simp)
 ·replace c3 := Bool.eq_false_iff.mpr c3
  subst c3
  rw [if_neg nf] at H
  obtain rfl := Option.some.inj H
  go_enter Tryz.func6, Tryz.ntmps6
  go_wp2_with (first | ((with_reducible refine gate_dst (N := 1) rfl ?_); refine bx 1 #[.slice A0_0 l0_0.length c0_0] 26 ?_; intro gb230 hg w43 hbox hb; have BK230 := mk hbox; have GW230 := wg hg; have GE230 := wg hg; replace HB := wh hb; clear hb hbox hg; obtain ⟨hcz44_0, hfz44_0⟩ := bz1 BK230) | ((with_reducible refine gate_callee (f := 30) rfl ?_); refine gl (some 12) rfl Tryz.func30 #[.agg #[.slice A0_0 l0_0.length c0_0]] ?_; (with_reducible refine (impl_IsTable.calls k _ _ l0_0 false _ ?side1 ?side2 A2.out).mono ?_); (case side1 => exact uc (Kd.C_below HR0_0.out HB.out)); (case side2 => exact HC0_0.out); rintro e w45 ⟨rfl, hb⟩; refine ⟨_, rfl, ?_⟩; replace BK230 := wb BK230 hb; replace HB := wh hb; (try clear hb); (try clear hb2); (try clear hk); (try clear hi)))
  go_ret
  exact ⟨by first | rfl | (simp [errW_none, errW_some] <;> rfl) | (simp [*, errW_none, errW_some] <;> rfl), bl⟩

/-! ### strings_Split: function 33 -/
def strings_Split.f (a0 : ByteArray) (a1 : ByteArray) : Option (List ByteArray) := if a0.size < 4294967281 ∧ 1 ≤ a1.size then some (Go.Lib.splitB a1 0 (Go.Lib.countB a0 a1) a0) else none
set_option maxHeartbeats 8000000 in
set_option maxRecDepth 100000 in
theorem strings_Split.calls (a0 : ByteArray) (a1 : ByteArray) (r : List ByteArray) (w : World) (TB0 : Aside0 (TabOk w)) (h : strings_Split.f a0 a1 = some r) :
    Calls Tryz.prog 33 #[.string a0, .string a1] w fun e w' => ∃ v0_ : Value, e = .returned (v0_) ∧ Kd.R Kd.string 9 w' w.heap.size (fun _ => True) v0_ r ∧ Below w.heap.size w w' := by
  unfold strings_Split.f at h
  by_cases hb : a0.size < 4294967281 ∧ 1 ≤ a1.size
  · rw [if_pos hb] at h
    obtain rfl := Option.some.inj h
    clear h
    refine (Go.Proofs.YtfjanffppobheaaGreatDoor.Sh.split a0 a1 w TB0.out hb.1 hb.2).mono ?_
    rintro e w' ⟨rfl, rfl⟩
    have hl : (Go.Lib.splitB a1 0 (Go.Lib.countB a0 a1) a0).length = Go.Lib.countB a0 a1 + 1 := Go.Lib.splitB_all a1 hb.2 0 _ a0 rfl
    have hc : Go.Lib.countB a0 a1 + 1 ≤ 9223372036854775807 := by have := Go.Lib.countB_le a1 hb.2 a0.size a0 (Nat.le_refl _); omega
    have hr := OwnRow.lit (R := Kd.string.M (w.alloc (.cells ((Go.Lib.splitB a1 0 (Go.Lib.countB a0 a1) a0).map Value.string).toArray 9)) w.heap.size (fun k => True ∧ some k ≠ (.slice (some ⟨w.heap.size, 0, none⟩) (Go.Lib.countB a0 a1 + 1) (Go.Lib.countB a0 a1 + 1) : Value).ownBlock)) (e := 9) w w.heap.size (Kd.reps_scalar (enc := Value.string) (Go.Lib.splitB a1 0 (Go.Lib.countB a0 a1) a0)) (Nat.le_refl _) (by rw [hl]; exact hc)
    rw [hl] at hr
    exact ⟨_, rfl, ⟨fun _ _ => trivial, hr⟩, (Below.refl _ _).alloc (Nat.le_refl _) _⟩
  · rw [if_neg hb] at h
    exact absurd h (by simp)


/-! ### impl_ParseInt: function 34 -/
/-- What ParseInt answers, over the library's own reading of a numeral. -/
def impl_ParseInt.parse (l : List UInt8) : Int × Bool := match Go.Lib.atoiAll l with
  | .ok v => if Go.Lib.itoa v = l ∧ v ≤ 999999999 ∧ -999999999 ≤ v then (v, true) else (0, false)
  | _ => (0, false)
def impl_ParseInt.f (a0 : ByteArray) : Option (Int × Bool) := if a0.size ≤ 140737488351232 then some (impl_ParseInt.parse a0.data.toList) else none
set_option maxHeartbeats 8000000 in
set_option maxRecDepth 100000 in
theorem impl_ParseInt.calls (a0 : ByteArray) (r1 : Int) (r2 : Bool) (w : World) (TB0 : Aside0 (TabOk w)) (h : impl_ParseInt.f a0 = some (r1, r2)) :
    Calls Tryz.prog 34 #[.string a0] w fun e w' => e = .returned (.tuple #[.int .i64 r1, .bool r2]) ∧ Below w.heap.size w w' := by
  unfold impl_ParseInt.f at h
  by_cases hs : a0.size ≤ 140737488351232
  · rw [if_pos hs] at h
    replace h := Option.some.inj h
    unfold impl_ParseInt.parse at h
    rcases ha : Go.Lib.atoiAll a0.data.toList with v | _ | _
    · rw [ha] at h
      dsimp only at h
      have hv := Go.Lib.atoiAll_bounds ha
      have hat := Go.Proofs.YtfjanffppobheaaGreatDoor.Sh.atoiOk a0 hs v ha w
      obtain ⟨t, ht⟩ : ∃ t, t = (⟨(Go.Lib.itoa v).toArray⟩ : ByteArray) := ⟨_, rfl⟩
      have hf : impl_FormatInt.f v = some t := by unfold impl_FormatInt.f strconv_Itoa.f; rw [if_pos hv, ht]; rfl
      have he : (t.toList = a0.toList) ↔ (Go.Lib.itoa v = a0.data.toList) := by rw [Go.Lib.toList_data, Go.Lib.toList_data, ht]
      clear ht ha
      by_cases c : t.toList = a0.toList
      · have cb1 : (t.toList != a0.toList) = false := bne_eq_false_iff_eq.mpr c
        have hc := he.1 c
        clear he
        by_cases c2 : v > 999999999
        · have c2b0 := eq_true c2
          have c2b1 : decide (v > 999999999) = true := decide_eq_true c2
          rw [if_neg (by omega)] at h
          obtain ⟨rfl, rfl⟩ := Prod.mk.inj h
          clear h
          go_enter Tryz.func34, Tryz.ntmps34
          go_wp2_with (first | (go_at_call 56; refine hat.mono ?_; rintro e w1 ⟨rfl, hb1⟩) | (go_at_call 38; refine (impl_FormatInt.calls v t _ ⟨TabOk.step TB0.out hb1⟩ hf).mono ?_; rintro e w2 ⟨rfl, hb2⟩))
          all_goals (try first | contradiction | (exfalso; omega))
          go_ret2
          exact ⟨rfl, below_then hb1 hb1.size hb2⟩
        · have c2b0 := eq_false c2
          have c2b1 : decide (v > 999999999) = false := decide_eq_false c2
          by_cases c3 : v < -999999999
          · have c3b0 := eq_true c3
            have c3b1 : decide (v < -999999999) = true := decide_eq_true c3
            rw [if_neg (by omega)] at h
            obtain ⟨rfl, rfl⟩ := Prod.mk.inj h
            clear h
            go_enter Tryz.func34, Tryz.ntmps34
            go_wp2_with (first | (go_at_call 56; refine hat.mono ?_; rintro e w1 ⟨rfl, hb1⟩) | (go_at_call 38; refine (impl_FormatInt.calls v t _ ⟨TabOk.step TB0.out hb1⟩ hf).mono ?_; rintro e w2 ⟨rfl, hb2⟩))
            all_goals (try first | contradiction | (exfalso; omega))
            go_ret2
            exact ⟨rfl, below_then hb1 hb1.size hb2⟩
          · have c3b0 := eq_false c3
            have c3b1 : decide (v < -999999999) = false := decide_eq_false c3
            rw [if_pos ⟨hc, by omega, by omega⟩] at h
            obtain ⟨rfl, rfl⟩ := Prod.mk.inj h
            clear h
            go_enter Tryz.func34, Tryz.ntmps34
            go_wp2_with (first | (go_at_call 56; refine hat.mono ?_; rintro e w1 ⟨rfl, hb1⟩) | (go_at_call 38; refine (impl_FormatInt.calls v t _ ⟨TabOk.step TB0.out hb1⟩ hf).mono ?_; rintro e w2 ⟨rfl, hb2⟩))
            all_goals (try first | contradiction | (exfalso; omega))
            go_ret2
            exact ⟨rfl, below_then hb1 hb1.size hb2⟩
      · have cb1 : (t.toList != a0.toList) = true := bne_iff_ne.mpr c
        have hc := fun x => c (he.2 x)
        clear he
        rw [if_neg (fun x => hc x.1)] at h
        obtain ⟨rfl, rfl⟩ := Prod.mk.inj h
        clear h
        go_enter Tryz.func34, Tryz.ntmps34
        go_wp2_with (first | (go_at_call 56; refine hat.mono ?_; rintro e w1 ⟨rfl, hb1⟩) | (go_at_call 38; refine (impl_FormatInt.calls v t _ ⟨TabOk.step TB0.out hb1⟩ hf).mono ?_; rintro e w2 ⟨rfl, hb2⟩))
        all_goals (try first | contradiction | (exfalso; omega))
        go_ret2
        exact ⟨rfl, below_then hb1 hb1.size hb2⟩
    · rw [ha] at h
      obtain ⟨rfl, rfl⟩ := Prod.mk.inj h
      have hat := Go.Proofs.YtfjanffppobheaaGreatDoor.Sh.atoiFail a0 hs (by rw [ha]; intro v hv; cases hv) w TB0.out
      clear h ha
      go_enter Tryz.func34, Tryz.ntmps34
      go_wp2_with (go_at_call 56; refine hat.mono ?_; rintro e w1 ⟨z, t, p, rfl, hb1⟩)
      go_ret2
      exact ⟨rfl, hb1⟩
    · rw [ha] at h
      obtain ⟨rfl, rfl⟩ := Prod.mk.inj h
      have hat := Go.Proofs.YtfjanffppobheaaGreatDoor.Sh.atoiFail a0 hs (by rw [ha]; intro v hv; cases hv) w TB0.out
      clear h ha
      go_enter Tryz.func34, Tryz.ntmps34
      go_wp2_with (go_at_call 56; refine hat.mono ?_; rintro e w1 ⟨z, t, p, rfl, hb1⟩)
      go_ret2
      exact ⟨rfl, hb1⟩
  · rw [if_neg hs] at h
    exact absurd h (by simp)


end Go.Proofs.YtfjanffppobheaaGreatDoor.PFnTexts
