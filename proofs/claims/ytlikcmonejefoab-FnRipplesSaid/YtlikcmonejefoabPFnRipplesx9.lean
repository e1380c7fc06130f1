-- printed by a program of this session, a turned copy of the print of the kit
import Derived.Test.YtlikcmonejefoabSr
import Derived.Test.YtlikcmonejefoabPFnRipplesx0
import Derived.Test.YtlikcmonejefoabPFnRipplesx7
namespace Go.Proofs.Ytlikcmonejefoab.PFnRipples
open Go.RowKit Go.Proofs.YtlikcmonejefoabW.PrintWords Go.Proofs.YtlikcmonejefoabW.PrintLast Go.Proofs.YtlikcmonejefoabW.PrintMore Go.Proofs.Ytlikcmonejefoab.Sq
attribute [local go_sem] max2_int min2_int max_two min_two max_three min_three max_four min_four Giv.cell_twice   -- for this text's walks alone
set_option linter.unusedVariables false
set_option linter.unusedSimpArgs false

/-! ### impl_FindRow: function 24 -/
def impl_FindRow.f (k : Nat) (z0 : List Int) (o0 : List Int) (y0 : List (S50)) (a1 : Int) : Option (Int) := (slices_Index_int_int.f k o0 a1).bind fun y2 => (some y2)
theorem impl_FindRow.mono : ∀ a0 a1 a2 a3 k, LeO (impl_FindRow.f k a0 a1 a2 a3) (impl_FindRow.f (k + 1) a0 a1 a2 a3) := by
 intro a0 a1 a2 a3 k
 unfold impl_FindRow.f
 exact mo
instance impl_FindRow.mi (a0 a1 a2 a3 k) : LeC (impl_FindRow.f k a0 a1 a2 a3) (impl_FindRow.f (k + 1) a0 a1 a2 a3) := ⟨impl_FindRow.mono a0 a1 a2 a3 k⟩
set_option maxHeartbeats 8000000 in
set_option maxRecDepth 100000 in
theorem impl_FindRow.calls (k : Nat) (g2 : Option Addr) (z1 : Nat) (z0 : List Int) (s1 : Option Addr) (o1 : Nat) (o0 : List Int) (d2 : Option Addr) (y1 : Nat) (y0 : List (S50)) (a1 : Int) (r : Int) (w : World) (m1 : Kd.C (Kd.int .i64) w g2 z0.length z0) (hc0_0 : z0.length ≤ z1) (k1 : Kd.C (Kd.int .i64) w s1 o0.length o0) (hc0_1 : o0.length ≤ o1) (j1 : Kd.C k50 w d2 y0.length y0) (hc0_2 : y0.length ≤ y1) (h : impl_FindRow.f k z0 o0 y0 a1 = some r) :
  Calls Try.prog 24 #[.agg #[.slice g2 z0.length z1, .slice s1 o0.length o1, .slice d2 y0.length y1], .int .i64 a1] w fun e w' => e = .returned (.int .i64 r) ∧ Below w.heap.size w w' := by
 have hu29 := Try.underlying29
 have b3 := mk m1
 have j3 := mk hc0_0
 clear m1 hc0_0
 have k2 := mk k1
 have m2 := mk hc0_1
 clear k1 hc0_1
 have z2 := mk j1
 have g3 := mk hc0_2
 clear j1 hc0_2
 have HB := mk (Below.refl w.heap.size w)
 have H : ((slices_Index_int_int.f k o0 a1).bind fun y2 => (some y2)) = some r := h
 clear h
 revert H; refine bo ?_; rintro y2 A3 H
 obtain rfl := Option.some.inj H
 go_enter Try.func24, Try.ntmps24
 go_wp2_with (first | ((with_reducible refine gate_dst (N := 2) rfl ?_); refine bx 2 #[.slice g2 z0.length z1, .slice s1 o0.length o1, .slice d2 y0.length y1] 29 ?_; intro d4 hg w4 hbox hb; have k3 := mk hbox; have q4 := wg hg; replace HB := wh hb; clear hb hbox hg; obtain ⟨y3, v3, s3, q3, o3, m3⟩ := bz3 k3) | ((with_reducible refine gate_callee (f := 57) rfl ?_); refine gl (some 8) rfl Try.func57 #[.slice s1 o0.length o1, .int .i64 a1] ?_; (with_reducible refine (slices_Index_int_int.calls k _ _ o0 a1 y2 _ ?side1 ?side2 A3.out).mono ?_); (case side1 => exact cb k2 HB); (case side2 => exact m2.out); rintro e w' ⟨rfl, ⟨nd, rfl⟩⟩; refine ⟨_, rfl, ?_⟩))
 go_ret
 exact ⟨rx, bl⟩

/-! ### slices_Clone_int_int: function 59 -/
def slices_Clone_int_int.f (l0 : List Int) : Option (List Int) := if l0.length < 17592186044416 then some l0 else none
set_option maxHeartbeats 8000000 in
set_option maxRecDepth 100000 in
theorem slices_Clone_int_int.calls (A0 : Option Addr) (c0 : Nat) (l0 : List Int) (r : List Int) (w : World) (hr0 : Kd.C (Kd.int .i64) w A0 l0.length l0) (hc0 : l0.length ≤ c0) (h : slices_Clone_int_int.f l0 = some r) :
  Calls Try.prog 59 #[.slice A0 l0.length c0] w fun e w' => ∃ v0_ : Value, e = .returned (v0_) ∧ Kd.R (Kd.int .i64) 3 w' w.heap.size (fun _ => True) v0_ r ∧ Below w.heap.size w w' := by
 have hE : ∀ (w w' : World) base ok x cs, ((Kd.int .i64)).K w x cs → ((Kd.int .i64)).M w' base ok x cs := fun _ _ _ _ _ _ h => h
 have q := fun (w : World) (a : Option Addr) (n c n' c' : Nat) => Go.Lib.run_eql_slice_nil (P := Try.prog) w 22 3 a n c n' c' Try.underlying22
 obtain ⟨i0, hi, hzz⟩ := Option.map_eq_some_iff.1 info3
 simp only [Prod.mk.injEq] at hzz
 obtain ⟨hz0, hz1, hz2⟩ := hzz
 unfold slices_Clone_int_int.f at h
 by_cases hlen : l0.length < 17592186044416
 ·rw [if_pos hlen] at h
  obtain rfl := Option.some.inj h
  clear h
  have HR := mk hr0
  clear hr0
  rcases A0 with _ | ad
  ·have hz : l0 = [] := by
    rcases Nat.eq_zero_or_pos l0.length with h0 | h0
    ·exact List.eq_nil_of_length_eq_zero h0
    ·obtain ⟨ad, e, _⟩ := HR.out.2.2 h0
     cases e
   subst hz
   clear HR hc0 hlen
   go_enter Try.func59, Try.ntmps59
   go_wp2
   go_ret
   exact ⟨_, rfl, Kd.R_nil _ _ _ _ _, Below.refl _ _⟩
  ·obtain ⟨inner, hrep, hcell⟩ := ReadsRow.inner_ HR.out
   have h1 : ∀ u ∈ inner, u.oneCell' = true := by
    intro u hu
    obtain ⟨j, hj⟩ := List.mem_iff_getElem?.1 hu
    have hl := hrep.1
    have hjl : j < inner.length := (List.getElem?_eq_some_iff.1 hj).1
    have hs : ((Kd.int .i64)).sz = 1 := rfl
    rw [hs] at hl
    have hd : j / 1 < l0.length := by omega
    obtain ⟨p, hp⟩ : ∃ p, l0[j / 1]? = some p := ⟨_, List.getElem?_eq_getElem hd⟩
    refine ((Kd.int .i64)).K_one (hrep.2 _ p hp) u ?_
    refine List.mem_iff_getElem?.2 ⟨j % 1, ?_⟩
    rw [hs, List.getElem?_take, if_pos (by omega), List.getElem?_drop, ← hj]
    congr 1
    omega
   have HI := mk hcell
   have HP := mk hrep
   have HO := mk h1
   clear hcell hrep h1
   have hlm : l0.length ≤ maxLen := by unfold maxLen; omega
   have hlb : l0.length * 8 ≤ 140737488355328 := by omega
   go_enter Try.func59, Try.ntmps59
   go_wp2_with (at_builtin; refine wpList_append_own _ rfl _ _ 22 rfl w.heap.size 3 i0 (.int .i64 0) 1 8 Try.underlying22 hi hz0 hz1 hz2 rfl (by decide) _ _ _ rfl (World.ownsRow_made w #[] 0 (Nat.le_refl _) (Nat.zero_le _) (by simp)) ad l0.length c0 inner rfl ?qc1 ?qc2 ?qc3 ?qc4 ?qc5 ?qc6 ?_)
   case qc1 => exact HP.out.1
   case qc2 =>
    intro j u hj
    exact Go.Lib.cell?_alloc_some _ (HI.out j u hj)
   case qc3 => exact HO.out
   case qc4 => rw [Nat.zero_add]; exact hlm
   case qc5 => rw [Nat.zero_add]; exact hlb
   case qc6 => simp
   intro v' w1 hown hgrow hnil
   go_wp2
   go_ret
   refine ⟨v', rfl, ⟨fun _ _ => trivial, inner, by have h2 := hown; (try simp only [Nat.zero_add, List.nil_append] at h2); exact h2, ?_⟩, ?_⟩
   ·exact Reps.imp_ HP.out (fun _ _ hp => hE _ _ _ _ _ _ hp)
   ·exact ((Below.refl _ w).alloc (Nat.le_refl _) _).grown hgrow (by simp) (by intro k hk; simp [Value.ownBlock] at hk; omega)
 ·rw [if_neg hlen] at h
  cases h


/-! ### impl_Pivot: function 60 -/
def impl_Pivot.f (l0 : List (S50)) : Option ((List (S50))) := if l0.length < 8796093022208 then some l0 else none
set_option maxHeartbeats 8000000 in
set_option maxRecDepth 100000 in
theorem impl_Pivot.calls (A0 : Option Addr) (c0 : Nat) (l0 : List (S50)) (r : List (S50)) (w : World) (hr0 : Kd.C k50 w A0 l0.length l0) (hc0 : l0.length ≤ c0) (h : impl_Pivot.f l0 = some r) :
  Calls Try.prog 60 #[.slice A0 l0.length c0] w fun e w' => ∃ v0_ : Value, e = .returned (v0_) ∧ Kd.R k50 50 w' w.heap.size (fun _ => True) v0_ r ∧ Below w.heap.size w w' := by
 have hE : ∀ (w w' : World) base ok x cs, (k50).K w x cs → (k50).M w' base ok x cs := fun _ _ _ _ _ _ h => h
 have q := fun (w : World) (a : Option Addr) (n c n' c' : Nat) => Go.Lib.run_eql_slice_nil (P := Try.prog) w 27 50 a n c n' c' Try.underlying27
 obtain ⟨i0, hi, hzz⟩ := Option.map_eq_some_iff.1 info50
 simp only [Prod.mk.injEq] at hzz
 obtain ⟨hz0, hz1, hz2⟩ := hzz
 unfold impl_Pivot.f at h
 by_cases hlen : l0.length < 8796093022208
 ·rw [if_pos hlen] at h
  obtain rfl := Option.some.inj h
  clear h
  have HR := mk hr0
  clear hr0
  rcases A0 with _ | ad
  ·have hz : l0 = [] := by
    rcases Nat.eq_zero_or_pos l0.length with h0 | h0
    ·exact List.eq_nil_of_length_eq_zero h0
    ·obtain ⟨ad, e, _⟩ := HR.out.2.2 h0
     cases e
   subst hz
   clear HR hc0 hlen
   go_enter Try.func60, Try.ntmps60
   go_wp2
   go_ret
   exact ⟨_, rfl, Kd.R_nil _ _ _ _ _, Below.refl _ _⟩
  ·obtain ⟨inner, hrep, hcell⟩ := ReadsRow.inner_ HR.out
   have h1 : ∀ u ∈ inner, u.oneCell' = true := by
    intro u hu
    obtain ⟨j, hj⟩ := List.mem_iff_getElem?.1 hu
    have hl := hrep.1
    have hjl : j < inner.length := (List.getElem?_eq_some_iff.1 hj).1
    have hs : (k50).sz = 2 := rfl
    rw [hs] at hl
    have hd : j / 2 < l0.length := by omega
    obtain ⟨p, hp⟩ : ∃ p, l0[j / 2]? = some p := ⟨_, List.getElem?_eq_getElem hd⟩
    refine (k50).K_one (hrep.2 _ p hp) u ?_
    refine List.mem_iff_getElem?.2 ⟨j % 2, ?_⟩
    rw [hs, List.getElem?_take, if_pos (by omega), List.getElem?_drop, ← hj]
    congr 1
    omega
   have HI := mk hcell
   have HP := mk hrep
   have HO := mk h1
   clear hcell hrep h1
   have hlm : l0.length ≤ maxLen := by unfold maxLen; omega
   have hlb : l0.length * 16 ≤ 140737488355328 := by omega
   go_enter Try.func60, Try.ntmps60
   go_wp2_with (at_builtin; refine wpList_append_own _ rfl _ _ 27 rfl w.heap.size 50 i0 (.agg #[(.int .i64 0), (.int .i64 0)]) 2 16 Try.underlying27 hi hz0 hz1 hz2 rfl (by decide) _ _ _ rfl (World.ownsRow_made w #[] 0 (Nat.le_refl _) (Nat.zero_le _) (by simp)) ad l0.length c0 inner rfl ?qc1 ?qc2 ?qc3 ?qc4 ?qc5 ?qc6 ?_)
   case qc1 => exact HP.out.1
   case qc2 =>
    intro j u hj
    exact Go.Lib.cell?_alloc_some _ (HI.out j u hj)
   case qc3 => exact HO.out
   case qc4 => rw [Nat.zero_add]; exact hlm
   case qc5 => rw [Nat.zero_add]; exact hlb
   case qc6 => simp
   intro v' w1 hown hgrow hnil
   go_wp2
   go_ret
   refine ⟨v', rfl, ⟨fun _ _ => trivial, inner, by have h2 := hown; (try simp only [Nat.zero_add, List.nil_append] at h2); exact h2, ?_⟩, ?_⟩
   ·exact Reps.imp_ HP.out (fun _ _ hp => hE _ _ _ _ _ _ hp)
   ·exact ((Below.refl _ w).alloc (Nat.le_refl _) _).grown hgrow (by simp) (by intro k hk; simp [Value.ownBlock] at hk; omega)
 ·rw [if_neg hlen] at h
  cases h


/-! ### impl_copyCracker: function 32 -/
def impl_copyCracker.f (z0 : List Int) (o0 : List Int) (y0 : List (S50)) : Option (List Int × List Int × (List (S50))) := (slices_Clone_int_int.f z0).bind fun s2 => ((slices_Clone_int_int.f o0).bind fun q2 => ((impl_Pivot.f y0).bind fun o2 => (some (s2, q2, o2))))
def impl_copyCracker.T1 : Bool × List (List Nat × List Nat) := (true, [([], []), ([0], [0]), ([1], [1]), ([], []), ([3], [3]), ([4, 2], [4]), ([], []), ([6], [6]), ([7, 5], [7]), ([2, 5, 8], [2, 5, 8]), ([9, 8, 0, 1, 2, 3, 4, 5, 6, 7, 8, 9], [9])])
def impl_copyCracker.B1 : List Nat := [0, 1, 3, 0, 8, 31, 0, 64, 255, 511, 1023]
theorem impl_copyCracker.tab1 : rtab .any (opsOf Try.f32 1) = impl_copyCracker.T1 := by kernel_rfl
theorem impl_copyCracker.bits1 : waitsOk impl_copyCracker.T1.2 impl_copyCracker.B1 = true := by kernel_rfl
set_option maxHeartbeats 8000000 in
set_option maxRecDepth 100000 in
theorem impl_copyCracker.calls (g2 : Option Addr) (z1 : Nat) (z0 : List Int) (s1 : Option Addr) (o1 : Nat) (o0 : List Int) (d2 : Option Addr) (y1 : Nat) (y0 : List (S50)) (r1 : List Int) (r2 : List Int) (r3 : List (S50)) (w : World) (m1 : Kd.C (Kd.int .i64) w g2 z0.length z0) (hc0_0 : z0.length ≤ z1) (k1 : Kd.C (Kd.int .i64) w s1 o0.length o0) (hc0_1 : o0.length ≤ o1) (j1 : Kd.C k50 w d2 y0.length y0) (hc0_2 : y0.length ≤ y1) (h : impl_copyCracker.f z0 o0 y0 = some (r1, r2, r3)) :
  Calls Try.prog 32 #[.agg #[.slice g2 z0.length z1, .slice s1 o0.length o1, .slice d2 y0.length y1]] w fun e w' => ∃ v0_ v1_ v2_ : Value, e = .returned (.agg #[v0_, v1_, v2_]) ∧ Kd.R (Kd.int .i64) 3 w' w.heap.size (fun k_ => some k_ ≠ (v1_ : Value).ownBlock) v0_ r1 ∧ Kd.R (Kd.int .i64) 3 w' w.heap.size (fun k_ => some k_ ≠ (v0_ : Value).ownBlock) v1_ r2 ∧ Kd.R k50 50 w' w.heap.size (fun _ => True) v2_ r3 ∧ Below w.heap.size w w' := by
 have hu29 := Try.underlying29
 have b3 := mk m1
 have j3 := mk hc0_0
 clear m1 hc0_0
 have k2 := mk k1
 have m2 := mk hc0_1
 clear k1 hc0_1
 have z2 := mk j1
 have g3 := mk hc0_2
 clear j1 hc0_2
 have HB := mk (Below.refl w.heap.size w)
 have H : ((slices_Clone_int_int.f z0).bind fun s2 => ((slices_Clone_int_int.f o0).bind fun q2 => ((impl_Pivot.f y0).bind fun o2 => (some (s2, q2, o2))))) = some (r1, r2, r3) := h
 clear h
 revert H; refine bo ?_; rintro s2 A2 H
 revert H; refine bo ?_; rintro q2 A3 H
 revert H; refine bo ?_; rintro o2 A4 H
 simp only [Option.some.injEq, Prod.mk.injEq] at H
 obtain ⟨rfl, rfl, rfl⟩ := H
 go_enter Try.func32, Try.ntmps32
 try go_wp2_with (first | ((with_reducible refine gate_dst (N := 1) rfl ?_); refine bx 1 #[.slice g2 z0.length z1, .slice s1 o0.length o1, .slice d2 y0.length y1] 29 ?_; intro j2 hg w5 hbox hb; have j0 := mk hbox; have o4 := wg hg; replace HB := wh hb; clear hb hbox hg) | ((with_reducible refine gate_dst (N := 2) rfl ?_); refine bx 2 #[.slice none 0 0, .slice none 0 0, .slice none 0 0] 29 ?_; intro m0 hg w6 hbox hb; have k0 := mk hbox; have m4 := wg hg; replace HB := wh hb; have d0 := nl j0 hg; have s0 := nr j0 hg; replace j0 := wb j0 hb; clear hb hbox hg))
 replace j0 := wd j0
 replace k0 := wd k0
 replace HB := mk (below_drew1 HB.out)
 refine start_ (n := 11) (S := fun w' => w'.cell? ⟨j2, 0, none⟩ = some (.slice g2 z0.length z1) ∧ w'.cell? ⟨j2, 1, none⟩ = some (.slice s1 o0.length o1) ∧ w'.cell? ⟨j2, 2, none⟩ = some (.slice d2 y0.length y1)) (ds := []) #[false, false, false, false, false, false, false, false, false, false, false] (by kernel_rfl) rfl rfl ⟨bc j0 0, bc j0 1, bc j0 2⟩ (fun hHeld => ?_); refine with_tabW impl_copyCracker.tab1 impl_copyCracker.bits1 (fun HT_ HW_ => ?_)
 generalize w6.drew = w7 at j0 k0 HB hHeld ⊢
 refine pu 0 3 (tf 1 10) ?_
 refine pu 3 6 #[T_,F_,F_,T_,F_,F_,F_,F_,F_,F_,F_] ?_
 refine pu 6 9 #[T_,F_,F_,T_,F_,F_,T_,F_,F_,F_,F_] ?_
 refine tk 1 4 #[T_,T_,F_,T_,F_,F_,T_,F_,F_,F_,F_] hHeld ?_
 refine tk 4 7 #[T_,T_,F_,T_,T_,F_,T_,F_,F_,F_,F_] hHeld ?_
 refine tk 7 10 #[T_,T_,F_,T_,T_,F_,T_,T_,F_,F_,F_] hHeld ?_
 refine on 2 5 #[T_,T_,T_,T_,T_,F_,T_,T_,F_,F_,F_] (fun K hK => ?_)
 refine gs Try.func59 #[.slice g2 z0.length z1] ?_
 with_reducible refine (slices_Clone_int_int.calls _ _ z0 s2 _ ?side1 ?side2 A2.out).mono ?_
 (case side1 => exact cb b3 HB)
 (case side2 => exact j3.out)
 rintro e w8 ⟨b5, rfl, ho0, hb⟩
 refine ⟨_, rfl, ?_⟩
 have d1 := lo ho0
 replace j0 := wb j0 hb
 replace k0 := wb k0 hb
 replace HB := wh hb
 (try clear hb)
 (try clear hb2)
 (try clear hk)
 (try clear hi)
 (try clear ho0)
 refine hK.out _ _ ⟨bc j0 0, bc j0 1, bc j0 2⟩ (fun hHeld => ?_)
 clear hK K
 refine nm 5 ?_
 refine on 5 8 (tf 8 3) (fun K hK => ?_)
 refine gs Try.func59 #[.slice s1 o0.length o1] ?_
 with_reducible refine (slices_Clone_int_int.calls _ _ o0 q2 _ ?side1 ?side2 A3.out).mono ?_
 (case side1 => exact cb k2 HB)
 (case side2 => exact m2.out)
 rintro e w9 ⟨a5, rfl, ho0, hb⟩
 refine ⟨_, rfl, ?_⟩
 have b2 := lo (nw ho0 d1)
 replace d1 := el d1 ho0 hb
 replace j0 := wb j0 hb
 replace k0 := wb k0 hb
 replace HB := wh hb
 (try clear hb)
 (try clear hb2)
 (try clear hk)
 (try clear hi)
 (try clear ho0)
 refine hK.out _ _ ⟨bc j0 0, bc j0 1, bc j0 2⟩ (fun hHeld => ?_)
 clear hK K
 refine nm 8 ?_
 refine on 8 11 (tf 9 2) (fun K hK => ?_)
 refine gs Try.func60 #[.slice d2 y0.length y1] ?_
 with_reducible refine (impl_Pivot.calls _ _ y0 o2 _ ?side1 ?side2 A4.out).mono ?_
 (case side1 => exact cb z2 HB)
 (case side2 => exact g3.out)
 rintro e w10 ⟨z4, rfl, ho0, hb⟩
 refine ⟨_, rfl, ?_⟩
 replace d1 := ro d1 hb
 replace b2 := ro b2 hb
 have d3 := lo ho0
 replace j0 := wb j0 hb
 replace k0 := wb k0 hb
 replace HB := wh hb
 (try clear hb)
 (try clear hb2)
 (try clear hk)
 (try clear hi)
 (try clear ho0)
 obtain ⟨y4, k4, b4⟩ := Kd.R_slice d3.out
 (first | subst b4 | (injection b4 with f1_ f2_ f3_; have f4_ := f1_.symm; have f5_ := f3_.symm; clear f1_ f2_ f3_; subst f4_; subst f5_))
 obtain ⟨v4, j4, a4⟩ := Kd.R_slice b2.out
 (first | subst a4 | (injection a4 with f1_ f2_ f3_; have f4_ := f1_.symm; have f5_ := f3_.symm; clear f1_ f2_ f3_; subst f4_; subst f5_))
 obtain ⟨s4, g4, z3⟩ := Kd.R_slice d1.out
 (first | subst z3 | (injection z3 with f1_ f2_ f3_; have f4_ := f1_.symm; have f5_ := f3_.symm; clear f1_ f2_ f3_; subst f4_; subst f5_))
 refine hK.out _ _ ⟨bc j0 0, bc j0 1, bc j0 2⟩ (fun hHeld => ?_)
 clear hK K
 refine nm 11 ?_
 refine pu 9 12 (tf 10 1) ?_
 refine one_ (i := 10) (N := none) #[true, true, true, true, true, true, true, true, true, true, true] rfl rfl (one_of HT_.out (by kernel_rfl)) (by decide) (fun K hK => ?_)
 have hs14 : w10.cell? ⟨m0, 0, none⟩ = some (.slice none 0 0) := (blk_cell k0.out 0).trans rfl
 have hfs14 := blk_frozen k0.out 0
 have hns14_0 := d0.out
 have hms14_0 := s0.out
 have hs15 : w10.cell? ⟨m0, 1, none⟩ = some (.slice none 0 0) := (blk_cell k0.out 1).trans rfl
 have hfs15 := blk_frozen k0.out 1
 have hns15_0 := d0.out
 have hms15_0 := s0.out
 have hs16 : w10.cell? ⟨m0, 2, none⟩ = some (.slice none 0 0) := (blk_cell k0.out 2).trans rfl
 have hfs16 := blk_frozen k0.out 2
 have hns16_0 := d0.out
 have hms16_0 := s0.out
 refine skip_ (w1 := ?_) (by rfl) rfl ?_ ?_
 rotate_left
 ·go_simp
  rfl
 refine hK.out _ _ ⟨((cell_far (p := ⟨m0, _, none⟩) d0.out _).trans (((cell_far (p := ⟨m0, _, none⟩) d0.out _).trans (((cell_far (p := ⟨m0, _, none⟩) d0.out _).trans (hHeld.1)))))), ((cell_far (p := ⟨m0, _, none⟩) d0.out _).trans (((cell_far (p := ⟨m0, _, none⟩) d0.out _).trans (((cell_far (p := ⟨m0, _, none⟩) d0.out _).trans (hHeld.2.1)))))), ((cell_far (p := ⟨m0, _, none⟩) d0.out _).trans (((cell_far (p := ⟨m0, _, none⟩) d0.out _).trans (((cell_far (p := ⟨m0, _, none⟩) d0.out _).trans (hHeld.2.2))))))⟩ (fun hHeld => ?_)
 clear hK K
 refine done_ (done_of HT_.out (by kernel_rfl)) ?_
 try go_wp2
 refine bodyPost_ret (results_cell_row rfl _ _ m0 29 #[.slice s4 s2.length g4, .slice v4 q2.length j4, .slice y4 o2.length k4] (0, 0) _ rfl bq Try.underlying29 rfl (by kernel_rfl)) rfl ?_
 exact ⟨_, _, _, rx, (by exact rm (rs1 d1 k0)), (by exact rm (rs1 b2 k0)), (by exact rm (rs1 d3 k0)), bl⟩

/-! ### impl_Cracker_put: function 33 -/
def impl_Cracker_put.f (a0 : Int) (a1 : Int) : Option (Int) := some (if a0 = a1 then 0 else 1)
set_option maxHeartbeats 4000000 in
set_option maxRecDepth 1000000 in
theorem impl_Cracker_put.callsS {okP : Nat → Prop} (w0 W : World) (gb : Nat) (v0 v1 v2 : Value) (V R : List Int) (P : List (S50)) (a1 a2 r : Int) (hB : Below w0.heap.size w0 W) (h : Cs.CS okP k50 50 29 w0.heap.size W gb v0 v1 v2 V R P)
  (t0 : 0 ≤ a1) (t1 : a1 < (V.length : Int)) (t2 : a1 < (R.length : Int)) (f0 : 0 ≤ a2) (f1 : a2 < (V.length : Int)) (f2 : a2 < (R.length : Int)) (hr : impl_Cracker_put.f a1 a2 = some r) :
  Calls Try.prog 33 #[.pointer (some ⟨gb, 0, none⟩), .int .i64 a1, .int .i64 a2] W fun e w' => e = .returned (.int .i64 r) ∧
   (Cs.CS okP k50 50 29 w0.heap.size w' gb v0 v1 v2 (V.set a1.toNat (rd V a2)) (R.set a1.toNat (rd R a2)) P ∧ Below w0.heap.size w0 w' ∧ Cs.Far W w') := by
 have hu := Try.underlying29
 obtain rfl := Option.some.inj hr
 by_cases he : a1 = a2
 ·subst he
  have H := mk h
  have HB := mk hB
  have e1 := mk (Cs.set_self V a1 t0 t1)
  have e2 := mk (Cs.set_self R a1 t0 t2)
  clear h hB hr
  go_enter Try.func33, Try.ntmps33
  go_wp2
  go_ret
  exact ⟨by simp, by rw [e1.out, e2.out]; exact H.out, HB.out, Nat.le_refl _, fun _ _ _ _ h => h⟩
 ·obtain ⟨g0, c0, e0, b0, l0, q0⟩ := Kd.R_form h.r0 (by omega)
  obtain ⟨g1, c1, e1, b1, l1, q1⟩ := Kd.R_form h.r1 (by omega)
  subst e0 e1
  have hg : g0 ≠ g1 := fun e => h.r0.1 g0 rfl (by rw [e]; rfl)
  have hg' : g1 ≠ g0 := fun e => hg e.symm
  have n0 : gb ≠ g0 := fun e => Kd.R_ne h.r0 h.blk (by decide) (by rw [e]; rfl)
  have n1 : gb ≠ g1 := fun e => Kd.R_ne h.r1 h.blk (by decide) (by rw [e]; rfl)
  have n0' : g0 ≠ gb := fun e => n0 e.symm
  have n1' : g1 ≠ gb := fun e => n1 e.symm
  have hb0 : W.cell? ⟨gb, 0, none⟩ = some (.slice (some ⟨g0, 0, none⟩) V.length c0) := (blk_cell h.blk 0).trans rfl
  have hb1 : W.cell? ⟨gb, 1, none⟩ = some (.slice (some ⟨g1, 0, none⟩) R.length c1) := (blk_cell h.blk 1).trans rfl
  obtain ⟨ct0, ft0⟩ := Kd.R_celln 0 h.r0 a1 t0 t1
  obtain ⟨cf0, ff0⟩ := Kd.R_celln 0 h.r0 a2 f0 f1
  obtain ⟨ct1, ft1⟩ := Kd.R_celln 0 h.r1 a1 t0 t2
  obtain ⟨cf1, ff1⟩ := Kd.R_celln 0 h.r1 a2 f0 f2
  replace cf0 : W.cell? ⟨g0, a2.toNat, none⟩ = some (.int .i64 (rd V a2)) := cf0
  replace cf1 : W.cell? ⟨g1, a2.toNat, none⟩ = some (.int .i64 (rd R a2)) := cf1
  have HS := mk ((h.drew.setV (by decide) (by decide) a1 (rd V a2)).setR (by decide) (by decide) a1 (rd R a2))
  have HB := mk (below_set (j := a1.toNat) (v := .int .i64 (rd R a2)) (below_set (j := a1.toNat) (v := .int .i64 (rd V a2)) (below_drew1 hB) b0) b1)
  have HF := mk (show Cs.Far W ((W.drew.setCell ⟨g0, a1.toNat, none⟩ (.int .i64 (rd V a2))).setCell ⟨g1, a1.toNat, none⟩ (.int .i64 (rd R a2))) from
   ⟨by simp, fun g cs T hT hh => Cs.far3 (Kd.R_mono (h.drew.setV (by decide) (by decide) a1 (rd V a2)).r1 (fun _ hk => hk)) (Cs.far3 h.drew.r0 hh hT _ _) hT _ _⟩)
  have hv : (a1 == a2) = false := by simpa using he
  have he2 : ¬ a2 = a1 := fun e => he e.symm
  have hv2 : (a2 == a1) = false := by simpa using he2
  clear h hB q0 q1 b0 l0 b1 l1 ff0 ff1
  go_enter Try.func33, Try.ntmps33
  go_wp2
  go_region
  go_wp2
  go_ret
  exact ⟨rfl, HS.out, HB.out, HF.out⟩


end Go.Proofs.Ytlikcmonejefoab.PFnRipples
