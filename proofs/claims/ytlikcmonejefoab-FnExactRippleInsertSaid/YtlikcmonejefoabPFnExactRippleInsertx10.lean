-- printed by a program of this session, a turned copy of the print of the kit
import Derived.Test.YtlikcmonejefoabSq
import Derived.Test.YtlikcmonejefoabPFnExactRippleInsertx0
import Derived.Test.YtlikcmonejefoabPFnExactRippleInsertx8
namespace Go.Proofs.Ytlikcmonejefoab.PFnExactRippleInsert
open Go.RowKit Go.Proofs.YtlikcmonejefoabW.PrintWords Go.Proofs.YtlikcmonejefoabW.PrintLast Go.Proofs.YtlikcmonejefoabW.PrintMore Go.Proofs.Ytlikcmonejefoab.Sq
attribute [local go_sem] max2_int min2_int max_two min_two max_three min_three max_four min_four Giv.cell_twice   -- for this text's walks alone
set_option linter.unusedVariables false
set_option linter.unusedSimpArgs false

/-! ### impl_FindRow: function 24 -/
def impl_FindRow.f (k : Nat) (l0_0 : List Int) (l0_1 : List Int) (l0_2 : List (S50)) (a1 : Int) : Option (Int) := (slices_Index_int_int.f k l0_1 a1).bind fun t266 => (some t266)
theorem impl_FindRow.mono : ∀ a0 a1 a2 a3 k, LeO (impl_FindRow.f k a0 a1 a2 a3) (impl_FindRow.f (k + 1) a0 a1 a2 a3) := by
  intro a0 a1 a2 a3 k
  unfold impl_FindRow.f
  exact mo
instance impl_FindRow.mi (a0 a1 a2 a3 k) : LeC (impl_FindRow.f k a0 a1 a2 a3) (impl_FindRow.f (k + 1) a0 a1 a2 a3) := ⟨impl_FindRow.mono a0 a1 a2 a3 k⟩
set_option maxHeartbeats 8000000 in
set_option maxRecDepth 100000 in
theorem impl_FindRow.calls (k : Nat) (A0_0 : Option Addr) (c0_0 : Nat) (l0_0 : List Int) (A0_1 : Option Addr) (c0_1 : Nat) (l0_1 : List Int) (A0_2 : Option Addr) (c0_2 : Nat) (l0_2 : List (S50)) (a1 : Int) (r : Int) (w : World) (hr0_0 : Kd.C (Kd.int .i64) w A0_0 l0_0.length l0_0) (hc0_0 : l0_0.length ≤ c0_0) (hr0_1 : Kd.C (Kd.int .i64) w A0_1 l0_1.length l0_1) (hc0_1 : l0_1.length ≤ c0_1) (hr0_2 : Kd.C k50 w A0_2 l0_2.length l0_2) (hc0_2 : l0_2.length ≤ c0_2) (h : impl_FindRow.f k l0_0 l0_1 l0_2 a1 = some r) :
    Calls Try.prog 24 #[.agg #[.slice A0_0 l0_0.length c0_0, .slice A0_1 l0_1.length c0_1, .slice A0_2 l0_2.length c0_2], .int .i64 a1] w fun e w' => e = .returned (.int .i64 r) ∧ Below w.heap.size w w' := by
  have hu29 := Try.underlying29
  have HR0_0 := Aside0.mk hr0_0
  have HC0_0 := Aside0.mk hc0_0
  clear hr0_0 hc0_0
  have HR0_1 := Aside0.mk hr0_1
  have HC0_1 := Aside0.mk hc0_1
  clear hr0_1 hc0_1
  have HR0_2 := Aside0.mk hr0_2
  have HC0_2 := Aside0.mk hc0_2
  clear hr0_2 hc0_2
  have HB := Aside0.mk (Below.refl w.heap.size w)
  have H : ((slices_Index_int_int.f k l0_1 a1).bind fun t266 => (some t266)) = some r := h
  clear h
  revert H; refine bo ?_; rintro t266 A3 H
  obtain rfl := Option.some.inj H
  go_enter Try.func24, Try.ntmps24
  go_wp2_with (first | ((with_reducible refine gate_dst (N := 2) rfl ?_); refine bx 2 #[.slice A0_0 l0_0.length c0_0, .slice A0_1 l0_1.length c0_1, .slice A0_2 l0_2.length c0_2] 29 ?_; intro gb265 hg w4 hbox hb; have BK265 := mk hbox; have GW265 := wg hg; have GE265 := wg hg; replace HB := wh hb; clear hb hbox hg; obtain ⟨hcz5_0, hcz5_1, hcz5_2, hfz5_0, hfz5_1, hfz5_2⟩ := bz3 BK265) | ((with_reducible refine gate_callee (f := 57) rfl ?_); refine gl (some 8) rfl Try.func57 #[.slice A0_1 l0_1.length c0_1, .int .i64 a1] ?_; (with_reducible refine (slices_Index_int_int.calls k _ _ l0_1 a1 t266 _ ?side1 ?side2 A3.out).mono ?_); (case side1 => exact uc (Kd.C_below HR0_1.out HB.out)); (case side2 => exact HC0_1.out); rintro e w' ⟨rfl, ⟨nd, rfl⟩⟩; refine ⟨_, rfl, ?_⟩))
  go_ret
  exact ⟨by first | rfl | (simp [errW_none, errW_some] <;> rfl) | (simp [*, errW_none, errW_some] <;> rfl), bl⟩

/-! ### slices_Clone_int_int: function 59 -/
def slices_Clone_int_int.f (l0 : List Int) : Option (List Int) := if l0.length < 17592186044416 then some l0 else none
set_option maxHeartbeats 8000000 in
set_option maxRecDepth 100000 in
theorem slices_Clone_int_int.calls (A0 : Option Addr) (c0 : Nat) (l0 : List Int) (r : List Int) (w : World) (hr0 : Kd.C (Kd.int .i64) w A0 l0.length l0) (hc0 : l0.length ≤ c0) (h : slices_Clone_int_int.f l0 = some r) :
    Calls Try.prog 59 #[.slice A0 l0.length c0] w fun e w' => ∃ v0_ : Value, e = .returned (v0_) ∧ Kd.R (Kd.int .i64) 3 w' w.heap.size (fun _ => True) v0_ r ∧ Below w.heap.size w w' := by
  have hE : ∀ (w w' : World) base ok x cs, ((Kd.int .i64)).K w x cs → ((Kd.int .i64)).M w' base ok x cs := fun _ _ _ _ _ _ h => h
  have q := fun (w : World) (a : Option Addr) (n c n' c' : Nat) => Go.Lib.run_eql_slice_nil (P := Try.prog) w 22 3 a n c n' c' Try.underlying22
  obtain ⟨i0, hi, hzz⟩ := Option.map_eq_some_iff.1 info3
  simp only [Prod.mk.injEq] at hzz
  obtain ⟨hz0, hz1, hz2⟩ := hzz
  unfold slices_Clone_int_int.f at h
  by_cases hlen : l0.length < 17592186044416
  · rw [if_pos hlen] at h
    obtain rfl := Option.some.inj h
    clear h
    have HR := Aside0.mk hr0
    clear hr0
    rcases A0 with _ | ad
    · have hz : l0 = [] := by
        rcases Nat.eq_zero_or_pos l0.length with h0 | h0
        · exact List.eq_nil_of_length_eq_zero h0
        · obtain ⟨ad, e, _⟩ := HR.out.2.2 h0
          cases e
      subst hz
      clear HR hc0 hlen
      go_enter Try.func59, Try.ntmps59
      go_wp2
      go_ret
      exact ⟨_, rfl, Kd.R_nil _ _ _ _ _, Below.refl _ _⟩
    · obtain ⟨inner, hrep, hcell⟩ := ReadsRow.inner_ HR.out
      have h1 : ∀ u ∈ inner, u.oneCell' = true := by
        intro u hu
        obtain ⟨j, hj⟩ := List.mem_iff_getElem?.1 hu
        have hl := hrep.1
        have hjl : j < inner.length := (List.getElem?_eq_some_iff.1 hj).1
        have hs : ((Kd.int .i64)).sz = 1 := rfl
        rw [hs] at hl
        have hd : j / 1 < l0.length := by omega
        obtain ⟨p, hp⟩ : ∃ p, l0[j / 1]? = some p := ⟨_, List.getElem?_eq_getElem hd⟩
        refine ((Kd.int .i64)).K_one (hrep.2 _ p hp) u ?_
        refine List.mem_iff_getElem?.2 ⟨j % 1, ?_⟩
        rw [hs, List.getElem?_take, if_pos (by omega), List.getElem?_drop, ← hj]
        congr 1
        omega
      have HI := Aside0.mk hcell
      have HP := Aside0.mk hrep
      have HO := Aside0.mk h1
      clear hcell hrep h1
      have hlm : l0.length ≤ maxLen := by unfold maxLen; omega
      have hlb : l0.length * 8 ≤ 140737488355328 := by omega
      go_enter Try.func59, Try.ntmps59
      go_wp2_with (at_builtin; refine wpList_append_own _ rfl _ _ 22 rfl w.heap.size 3 i0 (.int .i64 0) 1 8 Try.underlying22 hi hz0 hz1 hz2 rfl (by decide) _ _ _ rfl (World.ownsRow_made w #[] 0 (Nat.le_refl _) (Nat.zero_le _) (by simp)) ad l0.length c0 inner rfl ?qc1 ?qc2 ?qc3 ?qc4 ?qc5 ?qc6 ?_)
      case qc1 => exact HP.out.1
      case qc2 =>
        intro j u hj
        exact Go.Lib.cell?_alloc_some _ (HI.out j u hj)
      case qc3 => exact HO.out
      case qc4 => rw [Nat.zero_add]; exact hlm
      case qc5 => rw [Nat.zero_add]; exact hlb
      case qc6 => simp
      intro v' w1 hown hgrow hnil
      go_wp2
      go_ret
      refine ⟨v', rfl, ⟨fun _ _ => trivial, inner, by have h2 := hown; (try simp only [Nat.zero_add, List.nil_append] at h2); exact h2, ?_⟩, ?_⟩
      · exact Reps.imp_ HP.out (fun _ _ hp => hE _ _ _ _ _ _ hp)
      · exact ((Below.refl _ w).alloc (Nat.le_refl _) _).grown hgrow (by simp) (by intro k hk; simp [Value.ownBlock] at hk; omega)
  · rw [if_neg hlen] at h
    cases h


/-! ### impl_Pivot: function 60 -/
def impl_Pivot.f (l0 : List (S50)) : Option ((List (S50))) := if l0.length < 8796093022208 then some l0 else none
set_option maxHeartbeats 8000000 in
set_option maxRecDepth 100000 in
theorem impl_Pivot.calls (A0 : Option Addr) (c0 : Nat) (l0 : List (S50)) (r : List (S50)) (w : World) (hr0 : Kd.C k50 w A0 l0.length l0) (hc0 : l0.length ≤ c0) (h : impl_Pivot.f l0 = some r) :
    Calls Try.prog 60 #[.slice A0 l0.length c0] w fun e w' => ∃ v0_ : Value, e = .returned (v0_) ∧ Kd.R k50 50 w' w.heap.size (fun _ => True) v0_ r ∧ Below w.heap.size w w' := by
  have hE : ∀ (w w' : World) base ok x cs, (k50).K w x cs → (k50).M w' base ok x cs := fun _ _ _ _ _ _ h => h
  have q := fun (w : World) (a : Option Addr) (n c n' c' : Nat) => Go.Lib.run_eql_slice_nil (P := Try.prog) w 27 50 a n c n' c' Try.underlying27
  obtain ⟨i0, hi, hzz⟩ := Option.map_eq_some_iff.1 info50
  simp only [Prod.mk.injEq] at hzz
  obtain ⟨hz0, hz1, hz2⟩ := hzz
  unfold impl_Pivot.f at h
  by_cases hlen : l0.length < 8796093022208
  · rw [if_pos hlen] at h
    obtain rfl := Option.some.inj h
    clear h
    have HR := Aside0.mk hr0
    clear hr0
    rcases A0 with _ | ad
    · have hz : l0 = [] := by
        rcases Nat.eq_zero_or_pos l0.length with h0 | h0
        · exact List.eq_nil_of_length_eq_zero h0
        · obtain ⟨ad, e, _⟩ := HR.out.2.2 h0
          cases e
      subst hz
      clear HR hc0 hlen
      go_enter Try.func60, Try.ntmps60
      go_wp2
      go_ret
      exact ⟨_, rfl, Kd.R_nil _ _ _ _ _, Below.refl _ _⟩
    · obtain ⟨inner, hrep, hcell⟩ := ReadsRow.inner_ HR.out
      have h1 : ∀ u ∈ inner, u.oneCell' = true := by
        intro u hu
        obtain ⟨j, hj⟩ := List.mem_iff_getElem?.1 hu
        have hl := hrep.1
        have hjl : j < inner.length := (List.getElem?_eq_some_iff.1 hj).1
        have hs : (k50).sz = 2 := rfl
        rw [hs] at hl
        have hd : j / 2 < l0.length := by omega
        obtain ⟨p, hp⟩ : ∃ p, l0[j / 2]? = some p := ⟨_, List.getElem?_eq_getElem hd⟩
        refine (k50).K_one (hrep.2 _ p hp) u ?_
        refine List.mem_iff_getElem?.2 ⟨j % 2, ?_⟩
        rw [hs, List.getElem?_take, if_pos (by omega), List.getElem?_drop, ← hj]
        congr 1
        omega
      have HI := Aside0.mk hcell
      have HP := Aside0.mk hrep
      have HO := Aside0.mk h1
      clear hcell hrep h1
      have hlm : l0.length ≤ maxLen := by unfold maxLen; omega
      have hlb : l0.length * 16 ≤ 140737488355328 := by omega
      go_enter Try.func60, Try.ntmps60
      go_wp2_with (at_builtin; refine wpList_append_own _ rfl _ _ 27 rfl w.heap.size 50 i0 (.agg #[(.int .i64 0), (.int .i64 0)]) 2 16 Try.underlying27 hi hz0 hz1 hz2 rfl (by decide) _ _ _ rfl (World.ownsRow_made w #[] 0 (Nat.le_refl _) (Nat.zero_le _) (by simp)) ad l0.length c0 inner rfl ?qc1 ?qc2 ?qc3 ?qc4 ?qc5 ?qc6 ?_)
      case qc1 => exact HP.out.1
      case qc2 =>
        intro j u hj
        exact Go.Lib.cell?_alloc_some _ (HI.out j u hj)
      case qc3 => exact HO.out
      case qc4 => rw [Nat.zero_add]; exact hlm
      case qc5 => rw [Nat.zero_add]; exact hlb
      case qc6 => simp
      intro v' w1 hown hgrow hnil
      go_wp2
      go_ret
      refine ⟨v', rfl, ⟨fun _ _ => trivial, inner, by have h2 := hown; (try simp only [Nat.zero_add, List.nil_append] at h2); exact h2, ?_⟩, ?_⟩
      · exact Reps.imp_ HP.out (fun _ _ hp => hE _ _ _ _ _ _ hp)
      · exact ((Below.refl _ w).alloc (Nat.le_refl _) _).grown hgrow (by simp) (by intro k hk; simp [Value.ownBlock] at hk; omega)
  · rw [if_neg hlen] at h
    cases h


/-! ### impl_copyCracker: function 32 -/
def impl_copyCracker.f (l0_0 : List Int) (l0_1 : List Int) (l0_2 : List (S50)) : Option (List Int × List Int × (List (S50))) := (slices_Clone_int_int.f l0_0).bind fun t269 => ((slices_Clone_int_int.f l0_1).bind fun t272 => ((impl_Pivot.f l0_2).bind fun t275 => (some (t269, t272, t275))))
def impl_copyCracker.T1 : Bool × List (List Nat × List Nat) := (true, [([], []), ([0], [0]), ([1], [1]), ([], []), ([3], [3]), ([4, 2], [4]), ([], []), ([6], [6]), ([7, 5], [7]), ([2, 5, 8], [2, 5, 8]), ([9, 8, 0, 1, 2, 3, 4, 5, 6, 7, 8, 9], [9])])
def impl_copyCracker.B1 : List Nat := [0, 1, 3, 0, 8, 31, 0, 64, 255, 511, 1023]
theorem impl_copyCracker.tab1 : rtab .any (opsOf Try.f32 1) = impl_copyCracker.T1 := by kernel_rfl
theorem impl_copyCracker.bits1 : waitsOk impl_copyCracker.T1.2 impl_copyCracker.B1 = true := by kernel_rfl
set_option maxHeartbeats 8000000 in
set_option maxRecDepth 100000 in
theorem impl_copyCracker.calls (A0_0 : Option Addr) (c0_0 : Nat) (l0_0 : List Int) (A0_1 : Option Addr) (c0_1 : Nat) (l0_1 : List Int) (A0_2 : Option Addr) (c0_2 : Nat) (l0_2 : List (S50)) (r1 : List Int) (r2 : List Int) (r3 : List (S50)) (w : World) (hr0_0 : Kd.C (Kd.int .i64) w A0_0 l0_0.length l0_0) (hc0_0 : l0_0.length ≤ c0_0) (hr0_1 : Kd.C (Kd.int .i64) w A0_1 l0_1.length l0_1) (hc0_1 : l0_1.length ≤ c0_1) (hr0_2 : Kd.C k50 w A0_2 l0_2.length l0_2) (hc0_2 : l0_2.length ≤ c0_2) (h : impl_copyCracker.f l0_0 l0_1 l0_2 = some (r1, r2, r3)) :
    Calls Try.prog 32 #[.agg #[.slice A0_0 l0_0.length c0_0, .slice A0_1 l0_1.length c0_1, .slice A0_2 l0_2.length c0_2]] w fun e w' => ∃ v0_ v1_ v2_ : Value, e = .returned (.agg #[v0_, v1_, v2_]) ∧ Kd.R (Kd.int .i64) 3 w' w.heap.size (fun k_ => some k_ ≠ (v1_ : Value).ownBlock) v0_ r1 ∧ Kd.R (Kd.int .i64) 3 w' w.heap.size (fun k_ => some k_ ≠ (v0_ : Value).ownBlock) v1_ r2 ∧ Kd.R k50 50 w' w.heap.size (fun _ => True) v2_ r3 ∧ Below w.heap.size w w' := by
  have hu29 := Try.underlying29
  have HR0_0 := Aside0.mk hr0_0
  have HC0_0 := Aside0.mk hc0_0
  clear hr0_0 hc0_0
  have HR0_1 := Aside0.mk hr0_1
  have HC0_1 := Aside0.mk hc0_1
  clear hr0_1 hc0_1
  have HR0_2 := Aside0.mk hr0_2
  have HC0_2 := Aside0.mk hc0_2
  clear hr0_2 hc0_2
  have HB := Aside0.mk (Below.refl w.heap.size w)
  have H : ((slices_Clone_int_int.f l0_0).bind fun t269 => ((slices_Clone_int_int.f l0_1).bind fun t272 => ((impl_Pivot.f l0_2).bind fun t275 => (some (t269, t272, t275))))) = some (r1, r2, r3) := h
  clear h
  revert H; refine bo ?_; rintro t269 A2 H
  revert H; refine bo ?_; rintro t272 A3 H
  revert H; refine bo ?_; rintro t275 A4 H
  simp only [Option.some.injEq, Prod.mk.injEq] at H
  obtain ⟨rfl, rfl, rfl⟩ := H
  go_enter Try.func32, Try.ntmps32
  try go_wp2_with (first | ((with_reducible refine gate_dst (N := 1) rfl ?_); refine bx 1 #[.slice A0_0 l0_0.length c0_0, .slice A0_1 l0_1.length c0_1, .slice A0_2 l0_2.length c0_2] 29 ?_; intro gb267 hg w5 hbox hb; have BK267 := mk hbox; have GW267 := wg hg; have GE267 := wg hg; replace HB := wh hb; clear hb hbox hg) | ((with_reducible refine gate_dst (N := 2) rfl ?_); refine bx 2 #[.slice none 0 0, .slice none 0 0, .slice none 0 0] 29 ?_; intro gb268 hg w6 hbox hb; have BK268 := mk hbox; have GW268 := wg hg; have GE268 := wg hg; replace HB := wh hb; have NB267_268 := nl BK267 hg; have NB268_267 := nr BK267 hg; replace BK267 := wb BK267 hb; clear hb hbox hg))
  replace BK267 := wd BK267
  replace BK268 := wd BK268
  replace HB := mk (below_drew1 HB.out)
  refine start_ (n := 11) (S := fun w' => w'.cell? ⟨gb267, 0, none⟩ = some (.slice A0_0 l0_0.length c0_0) ∧ w'.cell? ⟨gb267, 1, none⟩ = some (.slice A0_1 l0_1.length c0_1) ∧ w'.cell? ⟨gb267, 2, none⟩ = some (.slice A0_2 l0_2.length c0_2)) (ds := []) #[false, false, false, false, false, false, false, false, false, false, false] (by kernel_rfl) rfl rfl ⟨(blk_cell BK267.out 0).trans rfl, (blk_cell BK267.out 1).trans rfl, (blk_cell BK267.out 2).trans rfl⟩ (fun hHeld => ?_); refine with_tabW impl_copyCracker.tab1 impl_copyCracker.bits1 (fun HT_ HW_ => ?_)
  generalize w6.drew = w7 at BK267 BK268 HB hHeld ⊢
  refine pu 0 3 (tf 1 10) ?_
  refine pu 3 6 #[T_,F_,F_,T_,F_,F_,F_,F_,F_,F_,F_] ?_
  refine pu 6 9 #[T_,F_,F_,T_,F_,F_,T_,F_,F_,F_,F_] ?_
  refine tk 1 4 #[T_,T_,F_,T_,F_,F_,T_,F_,F_,F_,F_] hHeld ?_
  refine tk 4 7 #[T_,T_,F_,T_,T_,F_,T_,F_,F_,F_,F_] hHeld ?_
  refine tk 7 10 #[T_,T_,F_,T_,T_,F_,T_,T_,F_,F_,F_] hHeld ?_
  refine on 2 5 #[T_,T_,T_,T_,T_,F_,T_,T_,F_,F_,F_] (fun K hK => ?_)
  refine gs Try.func59 #[.slice A0_0 l0_0.length c0_0] ?_
  with_reducible refine (slices_Clone_int_int.calls _ _ l0_0 t269 _ ?side1 ?side2 A2.out).mono ?_
  (case side1 => exact uc (Kd.C_below HR0_0.out HB.out))
  (case side2 => exact HC0_0.out)
  rintro e w8 ⟨v270, rfl, ho0, hb⟩
  refine ⟨_, rfl, ?_⟩
  have HO271 := mk (Kd.R_lower ho0 (below_size bl))
  replace BK267 := wb BK267 hb
  replace BK268 := wb BK268 hb
  replace HB := wh hb
  (try clear hb)
  (try clear hb2)
  (try clear hk)
  (try clear hi)
  (try clear ho0)
  refine hK.out _ _ ⟨(blk_cell BK267.out 0).trans rfl, (blk_cell BK267.out 1).trans rfl, (blk_cell BK267.out 2).trans rfl⟩ (fun hHeld => ?_)
  clear hK K
  refine nm 5 ?_
  refine on 5 8 (tf 8 3) (fun K hK => ?_)
  refine gs Try.func59 #[.slice A0_1 l0_1.length c0_1] ?_
  with_reducible refine (slices_Clone_int_int.calls _ _ l0_1 t272 _ ?side1 ?side2 A3.out).mono ?_
  (case side1 => exact uc (Kd.C_below HR0_1.out HB.out))
  (case side2 => exact HC0_1.out)
  rintro e w9 ⟨v273, rfl, ho0, hb⟩
  refine ⟨_, rfl, ?_⟩
  have HO274 := mk (Kd.R_lower (Kd.R_new' ho0 (Kd.R_lt (up HO271.out))) (below_size bl))
  replace HO271 := mk (Kd.R_elder' (up HO271.out) (Kd.R_base ho0) hb)
  replace BK267 := wb BK267 hb
  replace BK268 := wb BK268 hb
  replace HB := wh hb
  (try clear hb)
  (try clear hb2)
  (try clear hk)
  (try clear hi)
  (try clear ho0)
  refine hK.out _ _ ⟨(blk_cell BK267.out 0).trans rfl, (blk_cell BK267.out 1).trans rfl, (blk_cell BK267.out 2).trans rfl⟩ (fun hHeld => ?_)
  clear hK K
  refine nm 8 ?_
  refine on 8 11 (tf 9 2) (fun K hK => ?_)
  refine gs Try.func60 #[.slice A0_2 l0_2.length c0_2] ?_
  with_reducible refine (impl_Pivot.calls _ _ l0_2 t275 _ ?side1 ?side2 A4.out).mono ?_
  (case side1 => exact uc (Kd.C_below HR0_2.out HB.out))
  (case side2 => exact HC0_2.out)
  rintro e w10 ⟨v276, rfl, ho0, hb⟩
  refine ⟨_, rfl, ?_⟩
  replace HO271 := mk (Kd.R_below (up HO271.out) hb)
  replace HO274 := mk (Kd.R_below (up HO274.out) hb)
  have HO277 := mk (Kd.R_lower ho0 (below_size bl))
  replace BK267 := wb BK267 hb
  replace BK268 := wb BK268 hb
  replace HB := wh hb
  (try clear hb)
  (try clear hb2)
  (try clear hk)
  (try clear hi)
  (try clear ho0)
  obtain ⟨Ao11, co11, eo11⟩ := Kd.R_slice HO277.out
  (first | subst eo11 | (injection eo11 with f1_ f2_ f3_; have f4_ := f1_.symm; have f5_ := f3_.symm; clear f1_ f2_ f3_; subst f4_; subst f5_))
  obtain ⟨Ao12, co12, eo12⟩ := Kd.R_slice HO274.out
  (first | subst eo12 | (injection eo12 with f1_ f2_ f3_; have f4_ := f1_.symm; have f5_ := f3_.symm; clear f1_ f2_ f3_; subst f4_; subst f5_))
  obtain ⟨Ao13, co13, eo13⟩ := Kd.R_slice HO271.out
  (first | subst eo13 | (injection eo13 with f1_ f2_ f3_; have f4_ := f1_.symm; have f5_ := f3_.symm; clear f1_ f2_ f3_; subst f4_; subst f5_))
  refine hK.out _ _ ⟨(blk_cell BK267.out 0).trans rfl, (blk_cell BK267.out 1).trans rfl, (blk_cell BK267.out 2).trans rfl⟩ (fun hHeld => ?_)
  clear hK K
  refine nm 11 ?_
  refine pu 9 12 (tf 10 1) ?_
  refine one_ (i := 10) (N := none) #[true, true, true, true, true, true, true, true, true, true, true] rfl rfl (one_of HT_.out (by kernel_rfl)) (by decide) (fun K hK => ?_)
  have hs14 : w10.cell? ⟨gb268, 0, none⟩ = some (.slice none 0 0) := (blk_cell BK268.out 0).trans rfl
  have hfs14 := blk_frozen BK268.out 0
  have hns14_0 := NB267_268.out
  have hms14_0 := NB268_267.out
  have hs15 : w10.cell? ⟨gb268, 1, none⟩ = some (.slice none 0 0) := (blk_cell BK268.out 1).trans rfl
  have hfs15 := blk_frozen BK268.out 1
  have hns15_0 := NB267_268.out
  have hms15_0 := NB268_267.out
  have hs16 : w10.cell? ⟨gb268, 2, none⟩ = some (.slice none 0 0) := (blk_cell BK268.out 2).trans rfl
  have hfs16 := blk_frozen BK268.out 2
  have hns16_0 := NB267_268.out
  have hms16_0 := NB268_267.out
  refine skip_ (w1 := ?_) (by rfl) rfl ?_ ?_
  rotate_left
  · go_simp
    rfl
  refine hK.out _ _ ⟨((cell_far (p := ⟨gb268, _, none⟩) NB267_268.out _).trans (((cell_far (p := ⟨gb268, _, none⟩) NB267_268.out _).trans (((cell_far (p := ⟨gb268, _, none⟩) NB267_268.out _).trans (hHeld.1)))))), ((cell_far (p := ⟨gb268, _, none⟩) NB267_268.out _).trans (((cell_far (p := ⟨gb268, _, none⟩) NB267_268.out _).trans (((cell_far (p := ⟨gb268, _, none⟩) NB267_268.out _).trans (hHeld.2.1)))))), ((cell_far (p := ⟨gb268, _, none⟩) NB267_268.out _).trans (((cell_far (p := ⟨gb268, _, none⟩) NB267_268.out _).trans (((cell_far (p := ⟨gb268, _, none⟩) NB267_268.out _).trans (hHeld.2.2))))))⟩ (fun hHeld => ?_)
  clear hK K
  refine done_ (done_of HT_.out (by kernel_rfl)) ?_
  try go_wp2
  refine bodyPost_ret (results_cell_row rfl _ _ gb268 29 #[.slice Ao13 t269.length co13, .slice Ao12 t272.length co12, .slice Ao11 t275.length co11] (0, 0) _ rfl bq Try.underlying29 rfl (by kernel_rfl)) rfl ?_
  exact ⟨_, _, _, by first | rfl | (simp [errW_none, errW_some] <;> rfl) | (simp [*, errW_none, errW_some] <;> rfl), (by exact rm (rs1 HO271 BK268)), (by exact rm (rs1 HO274 BK268)), (by exact rm (rs1 HO277 BK268)), bl⟩

/-! ### impl_Cracker_put: function 33 -/
def impl_Cracker_put.f (a0 : Int) (a1 : Int) : Option (Int) := some (if a0 = a1 then 0 else 1)
set_option maxHeartbeats 4000000 in
set_option maxRecDepth 1000000 in
theorem impl_Cracker_put.callsS {okP : Nat → Prop} (w0 W : World) (gb : Nat) (v0 v1 v2 : Value) (V R : List Int) (P : List (S50)) (a1 a2 r : Int) (hB : Below w0.heap.size w0 W) (h : Cs.CS okP k50 50 29 w0.heap.size W gb v0 v1 v2 V R P)
    (t0 : 0 ≤ a1) (t1 : a1 < (V.length : Int)) (t2 : a1 < (R.length : Int)) (f0 : 0 ≤ a2) (f1 : a2 < (V.length : Int)) (f2 : a2 < (R.length : Int)) (hr : impl_Cracker_put.f a1 a2 = some r) :
    Calls Try.prog 33 #[.pointer (some ⟨gb, 0, none⟩), .int .i64 a1, .int .i64 a2] W fun e w' => e = .returned (.int .i64 r) ∧
      (Cs.CS okP k50 50 29 w0.heap.size w' gb v0 v1 v2 (V.set a1.toNat (rd V a2)) (R.set a1.toNat (rd R a2)) P ∧ Below w0.heap.size w0 w' ∧ Cs.Far W w') := by
  have hu := Try.underlying29
  obtain rfl := Option.some.inj hr
  by_cases he : a1 = a2
  · subst he
    have H := Aside0.mk h
    have HB := Aside0.mk hB
    have e1 := Aside0.mk (Cs.set_self V a1 t0 t1)
    have e2 := Aside0.mk (Cs.set_self R a1 t0 t2)
    clear h hB hr
    go_enter Try.func33, Try.ntmps33
    go_wp2
    go_ret
    exact ⟨by simp, by rw [e1.out, e2.out]; exact H.out, HB.out, Nat.le_refl _, fun _ _ _ _ h => h⟩
  · obtain ⟨g0, c0, e0, b0, l0, q0⟩ := Kd.R_form h.r0 (by omega)
    obtain ⟨g1, c1, e1, b1, l1, q1⟩ := Kd.R_form h.r1 (by omega)
    subst e0 e1
    have hg : g0 ≠ g1 := fun e => h.r0.1 g0 rfl (by rw [e]; rfl)
    have hg' : g1 ≠ g0 := fun e => hg e.symm
    have n0 : gb ≠ g0 := fun e => Kd.R_ne h.r0 h.blk (by decide) (by rw [e]; rfl)
    have n1 : gb ≠ g1 := fun e => Kd.R_ne h.r1 h.blk (by decide) (by rw [e]; rfl)
    have n0' : g0 ≠ gb := fun e => n0 e.symm
    have n1' : g1 ≠ gb := fun e => n1 e.symm
    have hb0 : W.cell? ⟨gb, 0, none⟩ = some (.slice (some ⟨g0, 0, none⟩) V.length c0) := (blk_cell h.blk 0).trans rfl
    have hb1 : W.cell? ⟨gb, 1, none⟩ = some (.slice (some ⟨g1, 0, none⟩) R.length c1) := (blk_cell h.blk 1).trans rfl
    obtain ⟨ct0, ft0⟩ := Kd.R_celln 0 h.r0 a1 t0 t1
    obtain ⟨cf0, ff0⟩ := Kd.R_celln 0 h.r0 a2 f0 f1
    obtain ⟨ct1, ft1⟩ := Kd.R_celln 0 h.r1 a1 t0 t2
    obtain ⟨cf1, ff1⟩ := Kd.R_celln 0 h.r1 a2 f0 f2
    replace cf0 : W.cell? ⟨g0, a2.toNat, none⟩ = some (.int .i64 (rd V a2)) := cf0
    replace cf1 : W.cell? ⟨g1, a2.toNat, none⟩ = some (.int .i64 (rd R a2)) := cf1
    have HS := Aside0.mk ((h.drew.setV (by decide) (by decide) a1 (rd V a2)).setR (by decide) (by decide) a1 (rd R a2))
    have HB := Aside0.mk (below_set (j := a1.toNat) (v := .int .i64 (rd R a2)) (below_set (j := a1.toNat) (v := .int .i64 (rd V a2)) (below_drew1 hB) b0) b1)
    have HF := Aside0.mk (show Cs.Far W ((W.drew.setCell ⟨g0, a1.toNat, none⟩ (.int .i64 (rd V a2))).setCell ⟨g1, a1.toNat, none⟩ (.int .i64 (rd R a2))) from
      ⟨by simp, fun g cs T hT hh => Cs.far3 (Kd.R_mono (h.drew.setV (by decide) (by decide) a1 (rd V a2)).r1 (fun _ hk => hk)) (Cs.far3 h.drew.r0 hh hT _ _) hT _ _⟩)
    have hv : (a1 == a2) = false := by simpa using he
    have he2 : ¬ a2 = a1 := fun e => he e.symm
    have hv2 : (a2 == a1) = false := by simpa using he2
    clear h hB q0 q1 b0 l0 b1 l1 ff0 ff1
    go_enter Try.func33, Try.ntmps33
    go_wp2
    go_region
    go_wp2
    go_ret
    exact ⟨rfl, HS.out, HB.out, HF.out⟩


/-! ### impl_IsItem: function 41 -/
def impl_IsItem.f (a0_0 : Int) (a0_1 : Int) : Option (Bool) := if a0_0 ≥ (-999) then (if a0_0 ≤ 999 then (if a0_1 ≥ 0 then (some (decide (a0_1 ≤ 999))) else (some false)) else (some false)) else (some false)
set_option maxHeartbeats 8000000 in
set_option maxRecDepth 100000 in
theorem impl_IsItem.calls (a0_0 : Int) (a0_1 : Int) (r : Bool) (w : World) (h : impl_IsItem.f a0_0 a0_1 = some r) :
    Calls Try.prog 41 #[.agg #[.int .i64 a0_0, .int .i64 a0_1]] w fun e w' => e = .returned (.bool r) ∧ Below w.heap.size w w' := by
  have hu39 := Try.underlying39
  have HB := Aside0.mk (Below.refl w.heap.size w)
  have H : (if a0_0 ≥ (-999) then (if a0_0 ≤ 999 then (if a0_1 ≥ 0 then (some (decide (a0_1 ≤ 999))) else (some false)) else (some false)) else (some false)) = some r := h
  clear h
  by_cases c2 : a0_0 ≥ (-999)
  · rw [if_pos c2] at H
    have c2b0 : decide ((-999) ≤ a0_0) = true := decide_eq_true c2
    clear c2
    by_cases c3 : a0_0 ≤ 999
    · rw [if_pos c3] at H
      have c3b0 : decide (a0_0 ≤ 999) = true := decide_eq_true c3
      clear c3
      by_cases c4 : a0_1 ≥ 0
      · rw [if_pos c4] at H
        have c4b0 : decide (0 ≤ a0_1) = true := decide_eq_true c4
        clear c4
        obtain rfl := Option.some.inj H
        go_enter Try.func41, Try.ntmps41
        go_wp2_with (first | ((with_reducible refine gate_dst (N := 1) rfl ?_); refine bx 1 #[.int .i64 a0_0, .int .i64 a0_1] 39 ?_; intro gb278 hg w5 hbox hb; have BK278 := mk hbox; have GW278 := wg hg; have GE278 := wg hg; replace HB := wh hb; clear hb hbox hg; obtain ⟨hcz6_0, hcz6_1, hfz6_0, hfz6_1⟩ := bz2 BK278))
        go_ret
        exact ⟨by first | rfl | (simp [errW_none, errW_some] <;> rfl) | (simp [*, errW_none, errW_some] <;> rfl), bl⟩
      · rw [if_neg c4] at H
        have c4b0 : decide (0 ≤ a0_1) = false := decide_eq_false c4
        clear c4
        obtain rfl := Option.some.inj H
        go_enter Try.func41, Try.ntmps41
        go_wp2_with (first | ((with_reducible refine gate_dst (N := 1) rfl ?_); refine bx 1 #[.int .i64 a0_0, .int .i64 a0_1] 39 ?_; intro gb278 hg w7 hbox hb; have BK278 := mk hbox; have GW278 := wg hg; have GE278 := wg hg; replace HB := wh hb; clear hb hbox hg; obtain ⟨hcz8_0, hcz8_1, hfz8_0, hfz8_1⟩ := bz2 BK278))
        go_ret
        exact ⟨by first | rfl | (simp [errW_none, errW_some] <;> rfl) | (simp [*, errW_none, errW_some] <;> rfl), bl⟩
    · rw [if_neg c3] at H
      have c3b0 : decide (a0_0 ≤ 999) = false := decide_eq_false c3
      clear c3
      obtain rfl := Option.some.inj H
      go_enter Try.func41, Try.ntmps41
      go_wp2_with (first | ((with_reducible refine gate_dst (N := 1) rfl ?_); refine bx 1 #[.int .i64 a0_0, .int .i64 a0_1] 39 ?_; intro gb278 hg w9 hbox hb; have BK278 := mk hbox; have GW278 := wg hg; have GE278 := wg hg; replace HB := wh hb; clear hb hbox hg; obtain ⟨hcz10_0, hcz10_1, hfz10_0, hfz10_1⟩ := bz2 BK278))
      go_ret
      exact ⟨by first | rfl | (simp [errW_none, errW_some] <;> rfl) | (simp [*, errW_none, errW_some] <;> rfl), bl⟩
  · rw [if_neg c2] at H
    have c2b0 : decide ((-999) ≤ a0_0) = false := decide_eq_false c2
    clear c2
    obtain rfl := Option.some.inj H
    go_enter Try.func41, Try.ntmps41
    go_wp2_with (first | ((with_reducible refine gate_dst (N := 1) rfl ?_); refine bx 1 #[.int .i64 a0_0, .int .i64 a0_1] 39 ?_; intro gb278 hg w11 hbox hb; have BK278 := mk hbox; have GW278 := wg hg; have GE278 := wg hg; replace HB := wh hb; clear hb hbox hg; obtain ⟨hcz12_0, hcz12_1, hfz12_0, hfz12_1⟩ := bz2 BK278))
    go_ret
    exact ⟨by first | rfl | (simp [errW_none, errW_some] <;> rfl) | (simp [*, errW_none, errW_some] <;> rfl), bl⟩

end Go.Proofs.Ytlikcmonejefoab.PFnExactRippleInsert
