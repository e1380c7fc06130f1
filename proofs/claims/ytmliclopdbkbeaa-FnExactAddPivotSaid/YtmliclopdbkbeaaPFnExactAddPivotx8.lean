-- printed by a program of this session, a turned copy of the print of the kit
import Derived.Test.YtmliclopdbkbeaaSq
import Derived.Test.YtmliclopdbkbeaaPFnExactAddPivotx0
import Derived.Test.YtmliclopdbkbeaaPFnExactAddPivotx7
namespace Go.Proofs.Ytmliclopdbkbeaa.PFnExactAddPivot
open Go.RowKit Go.Proofs.YtmliclopdbkbeaaW.PrintWords Go.Proofs.YtmliclopdbkbeaaW.PrintLast Go.Proofs.YtmliclopdbkbeaaW.PrintMore Go.Proofs.Ytmliclopdbkbeaa.Sq
attribute [local go_sem] max2_int min2_int max_two min_two max_three min_three max_four min_four Giv.cell_twice   -- for this text's walks alone
set_option linter.unusedVariables false
set_option linter.unusedSimpArgs false

set_option maxHeartbeats 8000000 in
set_option maxRecDepth 100000 in
/-- slices.Insert of a pivot, over rows told by their elements. -/
theorem insR {w0 W : World} (base : Nat) (ok : Nat → Prop) (v : Value) (xs : List S35) (x : S35) (iv : Int) (i : Nat) (hi : iv = (i : Int) ∧ i ≤ xs.length) (HO : Kd.R k35 35 W base ok v xs) (HB : Below base w0 W) (hbase : base ≤ W.heap.size) (hl : xs.length < 8796093022208) :
    Calls Try.prog 33 #[v, .int .i64 iv, .slice (some ⟨W.heap.size, 0, none⟩) 1 1] (W.alloc (.cells #[.int .i64 x.f0, .int .i64 x.f1] 35)) fun e w' => ∃ v', e = .returned v' ∧ Kd.R k35 35 w' base (fun _ => True) v' (xs.take i ++ [x] ++ xs.drop i) ∧ Below base w0 w' ∧ W.grownBy w' v.ownBlock := by
  obtain ⟨rfl, hi⟩ := hi
  obtain ⟨hok, inner, hown, hrep⟩ := HO
  have hrl := hrep.1
  have hsz : (k35).sz = 2 := rfl
  rw [hsz] at hrl
  have h1 : ∀ u ∈ inner, u.oneCell' = true := by
    intro u hu
    obtain ⟨j, hj⟩ := List.mem_iff_getElem?.1 hu
    have hjl : j < inner.length := (List.getElem?_eq_some_iff.1 hj).1
    have hd : j / 2 < xs.length := by omega
    obtain ⟨p, hp⟩ : ∃ p, xs[j / 2]? = some p := ⟨_, List.getElem?_eq_getElem hd⟩
    have hm : u ∈ (inner.drop (j / 2 * 2)).take 2 := by
      refine List.mem_iff_getElem?.2 ⟨j % 2, ?_⟩
      rw [List.getElem?_take, if_pos (by omega), List.getElem?_drop, ← hj]
      congr 1
      omega
    have hk := hrep.2 _ p hp
    rw [hsz] at hk
    rw [k35_openM hk] at hm
    rcases List.mem_cons.1 hm with e | hm
    · rw [e]; rfl
    · rcases List.mem_cons.1 hm with e | hm
      · rw [e]; rfl
      · cases hm
  have hne : v.ownBlock ≠ some W.heap.size := fun e => by have := (hown.lt _ e).2; omega
  refine (Go.Proofs.Ytmliclopdbkbeaa.Ins.insert base xs.length i W.heap.size v inner (.int .i64 x.f0) (.int .i64 x.f1) _ (hown.alloc _) hi (by simp; omega) (by omega) (heap_alloc_new W _) hne h1 rfl rfl).mono ?_
  rintro e w' ⟨v', rfl, ho', hg'⟩
  have hrep' : Reps ((k35).M w' base (fun k => True ∧ some k ≠ v'.ownBlock)) 2 xs inner := hrep.imp_ (fun p c h => by rw [k35_openM h]; exact k35_mkM _ _ _ p)
  have hone : Reps ((k35).M w' base (fun k => True ∧ some k ≠ v'.ownBlock)) 2 [x] [.int .i64 x.f0, .int .i64 x.f1] := by
    have := Reps.snoc (Reps.none ((k35).M w' base (fun k => True ∧ some k ≠ v'.ownBlock)) 2) (k35_mkM w' base (fun k => True ∧ some k ≠ v'.ownBlock) x) rfl
    simpa using this
  have hlen : (xs.take i ++ [x] ++ xs.drop i).length = xs.length + 1 := by simp; omega
  refine ⟨v', rfl, ⟨fun _ _ => trivial, _, by rw [hlen]; exact ho', Kd.reps_append (Kd.reps_append (Kd.reps_take hrep' hi) hone) (Kd.reps_drop hrep')⟩, (HB.alloc hbase _).grown hg' (by simp; omega) (fun k hk => (hown.lt k hk).1), ⟨hg'.os, hg'.tape, hg'.output, by have := hg'.size; simp at this; omega, fun k hk hn => (hg'.block k (by simp; omega) hn).trans (heap_alloc_old W _ hk)⟩⟩

/-! ### impl_withPivot: function 18 -/
def impl_withPivot.f (l0_0 : List Int) (l0_1 : List Int) (l0_2 : List (S35)) (a1_0 : Int) (a1_1 : Int) : Option (List Int × List Int × (List (S35))) := (impl_copyCracker.f l0_0 l0_1 l0_2).bind fun bt239 => ((impl_Pivot_31.f bt239.2.2 a1_0).bind fun t249 => (if t249 < 0 then (if bt239.2.2.length < 8796093022208 then (some (bt239.1, bt239.2.1, (bt239.2.2 ++ [(⟨a1_0, a1_1⟩ : S35)]))) else (none)) else (if bt239.2.2.length < 8796093022208 then (some (bt239.1, bt239.2.1, (bt239.2.2.take (t249).toNat ++ [(⟨a1_0, a1_1⟩ : S35)] ++ bt239.2.2.drop (t249).toNat))) else (none))))
set_option maxHeartbeats 8000000 in
set_option maxRecDepth 100000 in
theorem impl_withPivot.calls (A0_0 : Option Addr) (c0_0 : Nat) (l0_0 : List Int) (A0_1 : Option Addr) (c0_1 : Nat) (l0_1 : List Int) (A0_2 : Option Addr) (c0_2 : Nat) (l0_2 : List (S35)) (a1_0 : Int) (a1_1 : Int) (r1 : List Int) (r2 : List Int) (r3 : List (S35)) (w : World) (hr0_0 : Kd.C (Kd.int .i64) w A0_0 l0_0.length l0_0) (hc0_0 : l0_0.length ≤ c0_0) (hr0_1 : Kd.C (Kd.int .i64) w A0_1 l0_1.length l0_1) (hc0_1 : l0_1.length ≤ c0_1) (hr0_2 : Kd.C k35 w A0_2 l0_2.length l0_2) (hc0_2 : l0_2.length ≤ c0_2) (h : impl_withPivot.f l0_0 l0_1 l0_2 a1_0 a1_1 = some (r1, r2, r3)) :
  Calls Try.prog 18 #[.agg #[.slice A0_0 l0_0.length c0_0, .slice A0_1 l0_1.length c0_1, .slice A0_2 l0_2.length c0_2], .agg #[.int .i64 a1_0, .int .i64 a1_1]] w fun e w' => ∃ v0_ v1_ v2_ : Value, e = .returned (.agg #[v0_, v1_, v2_]) ∧ Kd.R (Kd.int .i64) 3 w' w.heap.size (fun k_ => some k_ ≠ (v1_ : Value).ownBlock) v0_ r1 ∧ Kd.R (Kd.int .i64) 3 w' w.heap.size (fun k_ => some k_ ≠ (v0_ : Value).ownBlock) v1_ r2 ∧ Kd.R k35 35 w' w.heap.size (fun _ => True) v2_ r3 ∧ Below w.heap.size w w' := by
 have hu31 := Try.underlying31
 have hu35 := Try.underlying35
 have HR0_0 := Aside0.mk hr0_0
 have HC0_0 := Aside0.mk hc0_0
 clear hr0_0 hc0_0
 have HR0_1 := Aside0.mk hr0_1
 have HC0_1 := Aside0.mk hc0_1
 clear hr0_1 hc0_1
 have HR0_2 := Aside0.mk hr0_2
 have HC0_2 := Aside0.mk hc0_2
 clear hr0_2 hc0_2
 have HB := Aside0.mk (Below.refl w.heap.size w)
 have H : ((impl_copyCracker.f l0_0 l0_1 l0_2).bind fun bt239 => ((impl_Pivot_31.f bt239.2.2 a1_0).bind fun t249 => (if t249 < 0 then (if bt239.2.2.length < 8796093022208 then (some (bt239.1, bt239.2.1, (bt239.2.2 ++ [(⟨a1_0, a1_1⟩ : S35)]))) else (none)) else (if bt239.2.2.length < 8796093022208 then (some (bt239.1, bt239.2.1, (bt239.2.2.take (t249).toNat ++ [(⟨a1_0, a1_1⟩ : S35)] ++ bt239.2.2.drop (t249).toNat))) else (none))))) = some (r1, r2, r3) := h
 clear h
 revert H; refine bo ?_; rintro ⟨t239, t242, t245⟩ A3 H
 dsimp only at H
 revert H; refine bo ?_; rintro t249 A4 H
 by_cases c5 : t249 < 0
 ·rw [if_pos c5] at H
  have c5b0 : decide (t249 < 0) = true := decide_eq_true c5
  clear c5
  by_cases c6 : t245.length < 8796093022208
  ·rw [if_pos c6] at H
   have LMc6 := Aside0.mk c6
   clear c6
   obtain ⟨y250, hy250⟩ : ∃ y_ : List (S35), y_ = (t245 ++ [(⟨a1_0, a1_1⟩ : S35)]) := ⟨_, rfl⟩
   replace H : (some (t239, t242, y250)) = some (r1, r2, r3) := by first | (rw [hy250]; with_reducible exact H) | (have H2_ := (Option.bind_some _ _).symm.trans H; rw [hy250]; with_reducible exact H2_) | (have H2_ := (Option.bind_some _ _).symm.trans H; with_reducible exact H2_) | with_reducible exact H | (rw [hy250]; exact H) | exact H
   have Ny250 := Aside0.mk hy250
   clear hy250
   simp only [Option.some.injEq, Prod.mk.injEq] at H
   obtain ⟨rfl, rfl, rfl⟩ := H
   go_enter Try.func18, Try.ntmps18
   go_wp2_with (first | ((with_reducible refine gate_dst (N := 2) rfl ?_); refine bx 2 #[.slice A0_0 l0_0.length c0_0, .slice A0_1 l0_1.length c0_1, .slice A0_2 l0_2.length c0_2] 31 ?_; intro gb236 hg w7 hbox hb; have BK236 := mk hbox; have GW236 := wg hg; have GE236 := wg hg; replace HB := wh hb; clear hb hbox hg) | ((with_reducible refine gate_dst (N := 3) rfl ?_); refine bx 3 #[.int .i64 a1_0, .int .i64 a1_1] 35 ?_; intro gb237 hg w8 hbox hb; have BK237 := mk hbox; have GW237 := wg hg; have GE237 := wg hg; replace HB := wh hb; have NB236_237 := nl BK236 hg; have NB237_236 := nr BK236 hg; replace BK236 := wb BK236 hb; clear hb hbox hg) | ((with_reducible refine gate_dst (N := 4) rfl ?_); refine bx 4 #[.slice none 0 0, .slice none 0 0, .slice none 0 0] 31 ?_; intro gb238 hg w9 hbox hb; have BK238 := mk hbox; have GW238 := wg hg; have GE238 := wg hg; replace HB := wh hb; have NB236_238 := nl BK236 hg; have NB238_236 := nr BK236 hg; replace BK236 := wb BK236 hb; have NB237_238 := nl BK237 hg; have NB238_237 := nr BK237 hg; replace BK237 := wb BK237 hb; clear hb hbox hg; have hnb10 := NB236_237.out; have hnc10 := NB237_236.out; have hnb11 := NB236_238.out; have hnc11 := NB238_236.out; obtain ⟨hcz12_0, hcz12_1, hcz12_2, hfz12_0, hfz12_1, hfz12_2⟩ := bz3 BK236) | ((with_reducible refine gate_callee (f := 20) rfl ?_); refine gl (some 8) rfl Try.func20 #[.agg #[.slice A0_0 l0_0.length c0_0, .slice A0_1 l0_1.length c0_1, .slice A0_2 l0_2.length c0_2]] ?_; (with_reducible refine (impl_copyCracker.calls _ _ l0_0 _ _ l0_1 _ _ l0_2 t239 t242 t245 _ ?side1 ?side2 ?side3 ?side4 ?side5 ?side6 A3.out).mono ?_); (case side1 => exact uc (Kd.C_below HR0_0.out HB.out)); (case side2 => exact HC0_0.out); (case side3 => exact uc (Kd.C_below HR0_1.out HB.out)); (case side4 => exact HC0_1.out); (case side5 => exact uc (Kd.C_below HR0_2.out HB.out)); (case side6 => exact HC0_2.out); rintro e w13 ⟨v240, v243, v246, rfl, ho0, ho1, ho2, hb⟩; refine ⟨_, rfl, ?_⟩; have HO241 := mk (Kd.R_lower ho0 (below_size bl)); have HO244 := mk (Kd.R_lower ho1 (below_size bl)); have HO247 := mk (Kd.R_lower (Kd.R_newB ho2 (g := gb237) (o := .cells #[.int .i64 a1_0, .int .i64 a1_1] 35 (0, 0)) (ub BK237.out)) (below_size bl)); replace BK236 := wb BK236 hb; replace BK237 := wb BK237 hb; replace BK238 := wb BK238 hb; replace HB := wh hb; (try clear hb); (try clear hb2); (try clear hk); (try clear hi); (try clear ho0); (try clear ho1); (try clear ho2)) | ((with_reducible refine gate_dst (N := 5) rfl ?_); refine bx 5 #[.slice none 0 0, .slice none 0 0, .slice none 0 0] 31 ?_; intro gb248 hg w14 hbox hb; replace HO241 := mk (Kd.R_below (up HO241.out) hb); replace HO244 := mk (Kd.R_below (up HO244.out) hb); replace HO247 := mk (Kd.R_below (up HO247.out) hb); have BK248 := mk hbox; have GW248 := wg hg; have GE248 := wg hg; replace HB := wh hb; have NB236_248 := nl BK236 hg; have NB248_236 := nr BK236 hg; replace BK236 := wb BK236 hb; have NB237_248 := nl BK237 hg; have NB248_237 := nr BK237 hg; replace BK237 := wb BK237 hb; have NB238_248 := nl BK238 hg; have NB248_238 := nr BK238 hg; replace BK238 := wb BK238 hb; clear hb hbox hg; obtain ⟨Ao15, co15, eo15⟩ := Kd.R_slice HO241.out; subst eo15; have hnb16 := NB248_236.out; have hnc16 := NB236_248.out; have hnb17 := NB248_237.out; have hnc17 := NB237_248.out; have hnb18 := NB248_238.out; have hnc18 := NB238_248.out; obtain ⟨hcz19_0, hcz19_1, hcz19_2, hfz19_0, hfz19_1, hfz19_2⟩ := bz3 BK248; obtain ⟨Ao20, co20, eo20⟩ := Kd.R_slice HO244.out; subst eo20; obtain ⟨Ao21, co21, eo21⟩ := Kd.R_slice HO247.out; subst eo21) | ((with_reducible refine gate_callee (f := 31) rfl ?_); refine gl (some 12) rfl Try.func31 #[.slice Ao21 t245.length co21, .func (.func 32) #[] #[.pointer (some ⟨gb237, 0, none⟩)]] ?_; (with_reducible refine (impl_Pivot_31.callsF _ _ t245 a1_0 t249 _ _ ?side1 ?side2 A4.out).mono ?_); (case side1 => refine (Kd.R_reads' (e := 35) (base := w.heap.size) (ok := fun k_ => (True ∧ k_ ≠ gb237)) (n := t245.length) (c := co21) ?_).2.2; exact (by exact rs1 HO247 BK248)); (case side2 => exact (blk_cell (g := gb237) (t := 35) (cs := #[.int .i64 a1_0, .int .i64 a1_1]) bq 0).trans rfl); rintro e w22 ⟨rfl, hb⟩; refine ⟨_, rfl, ?_⟩; replace HO241 := mk (Kd.R_below (by exact rs1 HO241 BK248) hb); replace HO244 := mk (Kd.R_below (by exact rs1 HO244 BK248) hb); replace HO247 := mk (Kd.R_below (by exact rs1 HO247 BK248) hb); replace BK236 := wx BK236 hb; replace BK237 := wx BK237 hb; replace BK238 := wx BK238 hb; replace BK248 := mk (blk_below (g := gb248) (o := .cells #[.slice Ao15 t239.length co15, .slice Ao20 t242.length co20, .slice Ao21 t245.length co21] 31 (0, 0)) bq hb); replace HB := wh hb; (try clear hb); (try clear hb2); (try clear hk); (try clear hi); obtain ⟨hcz23_0, hcz23_1, hcz23_2, hfz23_0, hfz23_1, hfz23_2⟩ := bz3 BK248; have hnb24 := NB237_238.out; have hnc24 := NB238_237.out; obtain ⟨hcz25_0, hcz25_1, hfz25_0, hfz25_1⟩ := bz2 BK237) | ((with_reducible refine gate_callee (f := 33) rfl ?_); refine goesL_ (some 23) rfl rfl Try.func33 (by kernel_rfl) rfl #[.slice Ao21 t245.length co21, .int .i64 (t245.length : Int), .slice (some ⟨w22.heap.size, 0, none⟩) 1 1] rfl (by (try simp only [List.map_toArray, List.map_cons, List.map_nil]); first | done | rfl) ?_; (with_reducible refine (insR (w0 := w) (W := w22) w.heap.size (fun k_ => k_ ≠ gb237) _ t245 (⟨a1_0, a1_1⟩ : S35) _ (t245.length) (⟨rfl, Nat.le_refl _⟩) ?side1 ?side2 ?side3 ?side4).mono ?_); (case side1 => exact (by exact up (Kd.R_mono HO247.out (fun _ hk => hk.2)))); (case side2 => exact bl); (case side3 => exact (below_size bl)); (case side4 => have := LMc6.out; omega); rintro e w26 ⟨v251, rfl, ho, hb, hg⟩; refine ⟨_, rfl, ?_⟩; rw [List.take_length, List.drop_length, List.append_nil, ← Ny250.out] at ho; replace BK236 := mk (blk_grown (g := gb236) (o := .cells #[.slice A0_0 l0_0.length c0_0, .slice A0_1 l0_1.length c0_1, .slice A0_2 l0_2.length c0_2] 31 (0, 0)) (ub BK236.out) hg (Kd.R_ne HO247.out BK236.out (by decide))); replace BK237 := mk (blk_grown (g := gb237) (o := .cells #[.int .i64 a1_0, .int .i64 a1_1] 35 (0, 0)) (ub BK237.out) hg (Kd.R_away HO247.out (fun _ hk => hk.2))); replace BK238 := mk (blk_grown (g := gb238) (o := .cells #[.slice none 0 0, .slice none 0 0, .slice none 0 0] 31 (0, 0)) (ub BK238.out) hg (Kd.R_ne HO247.out BK238.out (by decide))); replace HO241 := mk (Kd.R_over' (up HO241.out) (Kd.R_typed (up HO247.out)) (by decide) hg); replace HO244 := mk (Kd.R_over' (up HO244.out) (Kd.R_typed (up HO247.out)) (by decide) hg); replace BK248 := mk (blk_grown (g := gb248) (o := .cells #[.slice Ao15 t239.length co15, .slice Ao20 t242.length co20, .slice Ao21 t245.length co21] 31 (0, 0)) (ub BK248.out) hg (Kd.R_ne HO247.out BK248.out (by decide))); replace HB := mk hb; have HO252 := mk ho; clear HO247; clear ho hb hg; obtain ⟨Ao27, co27, eo27⟩ := Kd.R_slice HO252.out; subst eo27; obtain ⟨hcz28_0, hcz28_1, hcz28_2, hfz28_0, hfz28_1, hfz28_2⟩ := bz3 BK248; obtain ⟨hcz29_0, hcz29_1, hcz29_2, hfz29_0, hfz29_1, hfz29_2⟩ := bz3 BK238))
   refine bodyPost_ret (results_cell_row rfl _ _ gb238 31 #[.slice Ao15 t239.length co15, .slice Ao20 t242.length co20, .slice Ao27 y250.length co27] (0, 0) _ rfl bq Try.underlying31 rfl (by kernel_rfl)) rfl ?_
   exact ⟨_, _, _, by first | rfl | (simp [errW_none, errW_some] <;> rfl) | (simp [*, errW_none, errW_some] <;> rfl), (by exact rm (rs2 HO241 BK248 BK238)), (by exact rm (rs2 HO244 BK248 BK238)), (by exact rm (rs2 HO252 BK248 BK238)), bl⟩
  ·rw [if_neg c6] at H
   exact absurd H (by simp)
 ·rw [if_neg c5] at H
  have c5b0 : decide (t249 < 0) = false := decide_eq_false c5
  clear c5
  by_cases c30 : t245.length < 8796093022208
  ·rw [if_pos c30] at H
   have LMc30 := Aside0.mk c30
   clear c30
   obtain ⟨y253, hy253⟩ : ∃ y_ : List (S35), y_ = (t245.take (t249).toNat ++ [(⟨a1_0, a1_1⟩ : S35)] ++ t245.drop (t249).toNat) := ⟨_, rfl⟩
   replace H : (some (t239, t242, y253)) = some (r1, r2, r3) := by first | (rw [hy253]; with_reducible exact H) | (have H2_ := (Option.bind_some _ _).symm.trans H; rw [hy253]; with_reducible exact H2_) | (have H2_ := (Option.bind_some _ _).symm.trans H; with_reducible exact H2_) | with_reducible exact H | (rw [hy253]; exact H) | exact H
   have Ny253 := Aside0.mk hy253
   clear hy253
   simp only [Option.some.injEq, Prod.mk.injEq] at H
   obtain ⟨rfl, rfl, rfl⟩ := H
   go_enter Try.func18, Try.ntmps18
   go_wp2_with (first | ((with_reducible refine gate_dst (N := 2) rfl ?_); refine bx 2 #[.slice A0_0 l0_0.length c0_0, .slice A0_1 l0_1.length c0_1, .slice A0_2 l0_2.length c0_2] 31 ?_; intro gb236 hg w31 hbox hb; have BK236 := mk hbox; have GW236 := wg hg; have GE236 := wg hg; replace HB := wh hb; clear hb hbox hg) | ((with_reducible refine gate_dst (N := 3) rfl ?_); refine bx 3 #[.int .i64 a1_0, .int .i64 a1_1] 35 ?_; intro gb237 hg w32 hbox hb; have BK237 := mk hbox; have GW237 := wg hg; have GE237 := wg hg; replace HB := wh hb; have NB236_237 := nl BK236 hg; have NB237_236 := nr BK236 hg; replace BK236 := wb BK236 hb; clear hb hbox hg) | ((with_reducible refine gate_dst (N := 4) rfl ?_); refine bx 4 #[.slice none 0 0, .slice none 0 0, .slice none 0 0] 31 ?_; intro gb238 hg w33 hbox hb; have BK238 := mk hbox; have GW238 := wg hg; have GE238 := wg hg; replace HB := wh hb; have NB236_238 := nl BK236 hg; have NB238_236 := nr BK236 hg; replace BK236 := wb BK236 hb; have NB237_238 := nl BK237 hg; have NB238_237 := nr BK237 hg; replace BK237 := wb BK237 hb; clear hb hbox hg; have hnb34 := NB236_237.out; have hnc34 := NB237_236.out; have hnb35 := NB236_238.out; have hnc35 := NB238_236.out; obtain ⟨hcz36_0, hcz36_1, hcz36_2, hfz36_0, hfz36_1, hfz36_2⟩ := bz3 BK236) | ((with_reducible refine gate_callee (f := 20) rfl ?_); refine gl (some 8) rfl Try.func20 #[.agg #[.slice A0_0 l0_0.length c0_0, .slice A0_1 l0_1.length c0_1, .slice A0_2 l0_2.length c0_2]] ?_; (with_reducible refine (impl_copyCracker.calls _ _ l0_0 _ _ l0_1 _ _ l0_2 t239 t242 t245 _ ?side1 ?side2 ?side3 ?side4 ?side5 ?side6 A3.out).mono ?_); (case side1 => exact uc (Kd.C_below HR0_0.out HB.out)); (case side2 => exact HC0_0.out); (case side3 => exact uc (Kd.C_below HR0_1.out HB.out)); (case side4 => exact HC0_1.out); (case side5 => exact uc (Kd.C_below HR0_2.out HB.out)); (case side6 => exact HC0_2.out); rintro e w37 ⟨v240, v243, v246, rfl, ho0, ho1, ho2, hb⟩; refine ⟨_, rfl, ?_⟩; have HO241 := mk (Kd.R_lower ho0 (below_size bl)); have HO244 := mk (Kd.R_lower ho1 (below_size bl)); have HO247 := mk (Kd.R_lower (Kd.R_newB ho2 (g := gb237) (o := .cells #[.int .i64 a1_0, .int .i64 a1_1] 35 (0, 0)) (ub BK237.out)) (below_size bl)); replace BK236 := wb BK236 hb; replace BK237 := wb BK237 hb; replace BK238 := wb BK238 hb; replace HB := wh hb; (try clear hb); (try clear hb2); (try clear hk); (try clear hi); (try clear ho0); (try clear ho1); (try clear ho2)) | ((with_reducible refine gate_dst (N := 5) rfl ?_); refine bx 5 #[.slice none 0 0, .slice none 0 0, .slice none 0 0] 31 ?_; intro gb248 hg w38 hbox hb; replace HO241 := mk (Kd.R_below (up HO241.out) hb); replace HO244 := mk (Kd.R_below (up HO244.out) hb); replace HO247 := mk (Kd.R_below (up HO247.out) hb); have BK248 := mk hbox; have GW248 := wg hg; have GE248 := wg hg; replace HB := wh hb; have NB236_248 := nl BK236 hg; have NB248_236 := nr BK236 hg; replace BK236 := wb BK236 hb; have NB237_248 := nl BK237 hg; have NB248_237 := nr BK237 hg; replace BK237 := wb BK237 hb; have NB238_248 := nl BK238 hg; have NB248_238 := nr BK238 hg; replace BK238 := wb BK238 hb; clear hb hbox hg; obtain ⟨Ao39, co39, eo39⟩ := Kd.R_slice HO241.out; subst eo39; have hnb40 := NB248_236.out; have hnc40 := NB236_248.out; have hnb41 := NB248_237.out; have hnc41 := NB237_248.out; have hnb42 := NB248_238.out; have hnc42 := NB238_248.out; obtain ⟨hcz43_0, hcz43_1, hcz43_2, hfz43_0, hfz43_1, hfz43_2⟩ := bz3 BK248; obtain ⟨Ao44, co44, eo44⟩ := Kd.R_slice HO244.out; subst eo44; obtain ⟨Ao45, co45, eo45⟩ := Kd.R_slice HO247.out; subst eo45) | ((with_reducible refine gate_callee (f := 31) rfl ?_); refine gl (some 12) rfl Try.func31 #[.slice Ao45 t245.length co45, .func (.func 32) #[] #[.pointer (some ⟨gb237, 0, none⟩)]] ?_; (with_reducible refine (impl_Pivot_31.callsF _ _ t245 a1_0 t249 _ _ ?side1 ?side2 A4.out).mono ?_); (case side1 => refine (Kd.R_reads' (e := 35) (base := w.heap.size) (ok := fun k_ => (True ∧ k_ ≠ gb237)) (n := t245.length) (c := co45) ?_).2.2; exact (by exact rs1 HO247 BK248)); (case side2 => exact (blk_cell (g := gb237) (t := 35) (cs := #[.int .i64 a1_0, .int .i64 a1_1]) bq 0).trans rfl); rintro e w46 ⟨rfl, hb⟩; refine ⟨_, rfl, ?_⟩; replace HO241 := mk (Kd.R_below (by exact rs1 HO241 BK248) hb); replace HO244 := mk (Kd.R_below (by exact rs1 HO244 BK248) hb); replace HO247 := mk (Kd.R_below (by exact rs1 HO247 BK248) hb); replace BK236 := wx BK236 hb; replace BK237 := wx BK237 hb; replace BK238 := wx BK238 hb; replace BK248 := mk (blk_below (g := gb248) (o := .cells #[.slice Ao39 t239.length co39, .slice Ao44 t242.length co44, .slice Ao45 t245.length co45] 31 (0, 0)) bq hb); replace HB := wh hb; (try clear hb); (try clear hb2); (try clear hk); (try clear hi); obtain ⟨hcz47_0, hcz47_1, hcz47_2, hfz47_0, hfz47_1, hfz47_2⟩ := bz3 BK248; have hnb48 := NB237_238.out; have hnc48 := NB238_237.out; obtain ⟨hcz49_0, hcz49_1, hfz49_0, hfz49_1⟩ := bz2 BK237) | ((with_reducible refine gate_callee (f := 33) rfl ?_); refine goesL_ (some 23) rfl rfl Try.func33 (by kernel_rfl) rfl #[.slice Ao45 t245.length co45, .int .i64 t249, .slice (some ⟨w46.heap.size, 0, none⟩) 1 1] rfl (by (try simp only [List.map_toArray, List.map_cons, List.map_nil]); first | done | rfl) ?_; (with_reducible refine (insR (w0 := w) (W := w46) w.heap.size (fun k_ => k_ ≠ gb237) _ t245 (⟨a1_0, a1_1⟩ : S35) _ (t249.toNat) (impl_Pivot_31.in_ A4.out c5b0) ?side1 ?side2 ?side3 ?side4).mono ?_); (case side1 => exact (by exact up (Kd.R_mono HO247.out (fun _ hk => hk.2)))); (case side2 => exact bl); (case side3 => exact (below_size bl)); (case side4 => have := LMc30.out; omega); rintro e w50 ⟨v254, rfl, ho, hb, hg⟩; refine ⟨_, rfl, ?_⟩; rw [← Ny253.out] at ho; replace BK236 := mk (blk_grown (g := gb236) (o := .cells #[.slice A0_0 l0_0.length c0_0, .slice A0_1 l0_1.length c0_1, .slice A0_2 l0_2.length c0_2] 31 (0, 0)) (ub BK236.out) hg (Kd.R_ne HO247.out BK236.out (by decide))); replace BK237 := mk (blk_grown (g := gb237) (o := .cells #[.int .i64 a1_0, .int .i64 a1_1] 35 (0, 0)) (ub BK237.out) hg (Kd.R_away HO247.out (fun _ hk => hk.2))); replace BK238 := mk (blk_grown (g := gb238) (o := .cells #[.slice none 0 0, .slice none 0 0, .slice none 0 0] 31 (0, 0)) (ub BK238.out) hg (Kd.R_ne HO247.out BK238.out (by decide))); replace HO241 := mk (Kd.R_over' (up HO241.out) (Kd.R_typed (up HO247.out)) (by decide) hg); replace HO244 := mk (Kd.R_over' (up HO244.out) (Kd.R_typed (up HO247.out)) (by decide) hg); replace BK248 := mk (blk_grown (g := gb248) (o := .cells #[.slice Ao39 t239.length co39, .slice Ao44 t242.length co44, .slice Ao45 t245.length co45] 31 (0, 0)) (ub BK248.out) hg (Kd.R_ne HO247.out BK248.out (by decide))); replace HB := mk hb; have HO255 := mk ho; clear HO247; clear ho hb hg; obtain ⟨Ao51, co51, eo51⟩ := Kd.R_slice HO255.out; subst eo51; obtain ⟨hcz52_0, hcz52_1, hcz52_2, hfz52_0, hfz52_1, hfz52_2⟩ := bz3 BK248; obtain ⟨hcz53_0, hcz53_1, hcz53_2, hfz53_0, hfz53_1, hfz53_2⟩ := bz3 BK238))
   refine bodyPost_ret (results_cell_row rfl _ _ gb238 31 #[.slice Ao39 t239.length co39, .slice Ao44 t242.length co44, .slice Ao51 y253.length co51] (0, 0) _ rfl bq Try.underlying31 rfl (by kernel_rfl)) rfl ?_
   exact ⟨_, _, _, by first | rfl | (simp [errW_none, errW_some] <;> rfl) | (simp [*, errW_none, errW_some] <;> rfl), (by exact rm (rs2 HO241 BK248 BK238)), (by exact rm (rs2 HO244 BK248 BK238)), (by exact rm (rs2 HO255 BK248 BK238)), bl⟩
  ·rw [if_neg c30] at H
   exact absurd H (by simp)

/-! ### impl_within: function 35 -/
/-- The predicate of within, as the machine's closure gives it. -/
theorem impl_within.pred (B1 B2 : Nat) (lo hi x : Int) (W : World) (h1 : W.cell? ⟨B1, 0, none⟩ = some (.int .i64 lo)) (h2 : W.cell? ⟨B2, 0, none⟩ = some (.int .i64 hi)) :
    Calls Try.prog 44 #[.int .i64 x, .pointer (some ⟨B1, 0, none⟩), .pointer (some ⟨B2, 0, none⟩)] W fun e w' => e = .returned (.bool (decide (x < lo) || decide (hi < x))) ∧ W = w' := by
  by_cases c1 : x < lo
  · have c : decide (x < lo) = true := decide_eq_true c1
    go_enter Try.func44, Try.ntmps44
    go_wp2
    go_ret
    exact ⟨by simp [c1], rfl⟩
  · have c : decide (x < lo) = false := decide_eq_false c1
    by_cases c2 : hi < x
    · have d : decide (hi < x) = true := decide_eq_true c2
      go_enter Try.func44, Try.ntmps44
      go_wp2
      go_ret
      exact ⟨by simp [c1, c2], rfl⟩
    · have d : decide (hi < x) = false := decide_eq_false c2
      go_enter Try.func44, Try.ntmps44
      go_wp2
      go_ret
      exact ⟨by simp [c1, c2], rfl⟩
set_option maxHeartbeats 2000000 in
set_option maxRecDepth 100000 in
theorem impl_within.idx (A0 : Option Addr) (c0 : Nat) (l0 : List Int) (B1 B2 : Nat) (lo hi : Int) (w : World) (hr0 : Kd.C (Kd.int .i64) w A0 l0.length l0) (h1 : w.cell? ⟨B1, 0, none⟩ = some (.int .i64 lo)) (h2 : w.cell? ⟨B2, 0, none⟩ = some (.int .i64 hi)) :
    Calls Try.prog 47 #[.slice A0 l0.length c0, .func (.func 44) #[] #[.pointer (some ⟨B1, 0, none⟩), .pointer (some ⟨B2, 0, none⟩)]] w fun e w' => e = .returned (.int .i64 (Giv.fidx (fun x => decide (x < lo) || decide (hi < x)) l0)) ∧ Drawn0 w w' := by
  have eg := Go.Proofs.enters_of Try.func44 (by kernel_rfl) rfl
  have hn : l0.length ≤ 9223372036854775807 := hr0.2.1
  have HR := Aside0.mk hr0
  clear hr0
  have C1 := Aside0.mk h1
  have C2 := Aside0.mk h2
  clear h1 h2
  go_enter Try.func47, Try.ntmps47
  go_wp2
  go_loopg [5, 8] l0.length (fun gg _ s8 wr => ∃ kk q : Nat, kk ≤ l0.length ∧ l0.length - kk ≤ gg ∧ s8 = .int .i64 kk ∧ wr = w.drewN q ∧ Aside0 (∀ j x, j < kk → l0[j]? = some x → (decide (x < lo) || decide (hi < x)) = false))
  case atStart => exact ⟨0, 0, Nat.zero_le _, by omega, rfl, rfl, ⟨fun j x hj => absurd hj (Nat.not_lt_zero _)⟩⟩
  case round =>
    obtain ⟨kk, q, hkk, hg, rfl, rfl, AH⟩ := hrel
    by_cases hlt : kk < l0.length
    · have hltz : (kk : Int) < (l0.length : Int) := by omega
      obtain ⟨ad, e, hcell⟩ := Kd.at_int HR.out (kk : Int) (by omega) (by omega)
      subst e
      obtain ⟨y, hy⟩ : ∃ y, l0[kk]? = some y := ⟨_, List.getElem?_eq_getElem hlt⟩
      have hy2 : rd l0 (kk : Int) = y := by unfold rd; rw [List.getD_eq_getElem?_getD, Int.toNat_natCast, hy]; rfl
      rw [hy2, Int.toNat_natCast] at hcell
      have HY := Aside0.mk hy
      clear hy hy2
      have hcall := fun W a b => impl_within.pred B1 B2 lo hi y W a b
      cases hq : (decide (y < lo) || decide (hi < y)) with
      | true =>
        rw [hq] at hcall
        have HQ := Aside0.mk hq
        clear hq
        go_wp2_with fail
        refine (hcall _ (by simpa using C1.out) (by simpa using C2.out)).mono ?_
        rintro e w' ⟨rfl, rfl⟩
        go_wp2_with fail
        go_ret
        refine ⟨?_, ⟨_, rfl⟩⟩
        rw [Giv.fidx_hit HY.out HQ.out AH.out]
        rfl
      | false =>
        rw [hq] at hcall
        have HQ := Aside0.mk hq
        clear hq
        go_wp2_with fail
        refine (hcall _ (by simpa using C1.out) (by simpa using C2.out)).mono ?_
        rintro e w' ⟨rfl, rfl⟩
        go_wp2_with fail
        go_roundg (l0.length - (kk + 1))
        case measure => omega
        case rel =>
          refine ⟨kk + 1, _, by omega, by omega, by go_num, rfl, ⟨fun j x hj hx => ?_⟩⟩
          by_cases e : j = kk
          · subst e
            rw [HY.out] at hx
            obtain rfl := Option.some.inj hx
            exact HQ.out
          · exact AH.out j x (by omega) hx
    · have hltz : ¬ (kk : Int) < (l0.length : Int) := by omega
      have hkn := Aside0.mk (show kk = l0.length by omega)
      go_wp2
      go_ret
      refine ⟨?_, ⟨_, rfl⟩⟩
      have hm := AH.out
      rw [hkn.out] at hm
      rw [Giv.fidx_miss hm]
      rfl
set_option maxHeartbeats 2000000 in
set_option maxRecDepth 100000 in
theorem impl_within.has (A0 : Option Addr) (c0 : Nat) (l0 : List Int) (B1 B2 : Nat) (lo hi : Int) (w : World) (hr0 : Kd.C (Kd.int .i64) w A0 l0.length l0) (h1 : w.cell? ⟨B1, 0, none⟩ = some (.int .i64 lo)) (h2 : w.cell? ⟨B2, 0, none⟩ = some (.int .i64 hi)) :
    Calls Try.prog 43 #[.slice A0 l0.length c0, .func (.func 44) #[] #[.pointer (some ⟨B1, 0, none⟩), .pointer (some ⟨B2, 0, none⟩)]] w fun e w' => e = .returned (.bool (l0.any fun x => decide (x < lo) || decide (hi < x))) ∧ Drawn0 w w' := by
  have hcall := impl_within.idx A0 c0 l0 B1 B2 lo hi w hr0 h1 h2
  have HA := Aside0.mk (Giv.fidx_any (fun x => decide (x < lo) || decide (hi < x)) l0)
  generalize Giv.fidx (fun x => decide (x < lo) || decide (hi < x)) l0 = y at hcall HA
  clear hr0 h1 h2
  go_enter Try.func43, Try.ntmps43
  go_wp2_with (go_at_call 47; refine hcall.mono ?_; rintro e w' ⟨rfl, hd⟩)
  go_ret
  exact ⟨by rw [← HA.out]; rfl, hd⟩
def impl_within.f (l0 : List Int) (a1 : Int) (a2 : Int) : Option (Bool) := some (!(l0.any fun x => decide (x < a1) || decide (a2 < x)))
set_option maxHeartbeats 8000000 in
set_option maxRecDepth 100000 in
theorem impl_within.calls (A0 : Option Addr) (c0 : Nat) (l0 : List Int) (a1 : Int) (a2 : Int) (r : Bool) (w : World) (hr0 : Kd.C (Kd.int .i64) w A0 l0.length l0) (hc0 : l0.length ≤ c0) (h : impl_within.f l0 a1 a2 = some r) :
    Calls Try.prog 35 #[.slice A0 l0.length c0, .int .i64 a1, .int .i64 a2] w fun e w' => e = .returned (.bool r) ∧ Below w.heap.size w w' := by
  unfold impl_within.f at h
  obtain rfl := Option.some.inj h
  clear h
  have hcall := fun (W : World) hr a b => impl_within.has A0 c0 l0 w.heap.size (w.heap.size + 1) a1 a2 W hr a b
  have HR := Aside0.mk hr0
  clear hr0
  go_enter Try.func35, Try.ntmps35
  go_wp2_with (go_at_call 43; refine (hcall _ (by repeat (first | exact HR.out | (refine Kd.C_alloc ?_ _) | (refine Kd.C_drew ?_))) (by simp) (by simp)).mono ?_; rintro e w' ⟨rfl, hd⟩)
  go_ret
  exact ⟨rfl, below_then (((Below.refl _ _).alloc (Nat.le_refl _) _).alloc (by simp) _) (by simp; omega) hd.below⟩


/-! ### impl_AreValues: function 34 -/
def impl_AreValues.f (l0 : List Int) : Option (Bool) := if (l0.length : Int) ≤ 64 then ((impl_within.f l0 (-999) 999).bind fun t256 => (some t256)) else (some false)
set_option maxHeartbeats 8000000 in
set_option maxRecDepth 100000 in
theorem impl_AreValues.calls (A0 : Option Addr) (c0 : Nat) (l0 : List Int) (r : Bool) (w : World) (hr0 : Kd.C (Kd.int .i64) w A0 l0.length l0) (hc0 : l0.length ≤ c0) (h : impl_AreValues.f l0 = some r) :
    Calls Try.prog 34 #[.slice A0 l0.length c0] w fun e w' => e = .returned (.bool r) ∧ Below w.heap.size w w' := by
  have HR0 := Aside0.mk hr0
  have HC0 := Aside0.mk hc0
  clear hr0 hc0
  have HB := Aside0.mk (Below.refl w.heap.size w)
  have H : (if (l0.length : Int) ≤ 64 then ((impl_within.f l0 (-999) 999).bind fun t256 => (some t256)) else (some false)) = some r := h
  clear h
  by_cases c2 : (l0.length : Int) ≤ 64
  · rw [if_pos c2] at H
    have c2b0 : decide ((l0.length : Int) ≤ 64) = true := decide_eq_true c2
    have c2b1 : decide (l0.length ≤ 64) = true := decide_eq_true (by omega)
    clear c2
    revert H; refine bo ?_; rintro t256 A3 H
    obtain rfl := Option.some.inj H
    go_enter Try.func34, Try.ntmps34
    go_wp2_with (first | (go_at_call 35; (with_reducible refine (impl_within.calls _ _ l0 (-999) 999 t256 _ ?side1 ?side2 A3.out).mono ?_); (case side1 => exact uc HR0.out); (case side2 => exact HC0.out); rintro e w4 ⟨rfl, hb⟩; replace HB := wh hb; (try clear hb); (try clear hb2); (try clear hk); (try clear hi)))
    go_ret
    exact ⟨by first | rfl | (simp [errW_none, errW_some] <;> rfl) | (simp [*, errW_none, errW_some] <;> rfl), bl⟩
  · rw [if_neg c2] at H
    have c2b0 : decide ((l0.length : Int) ≤ 64) = false := decide_eq_false c2
    have c2b1 : decide (l0.length ≤ 64) = false := decide_eq_false (by omega)
    clear c2
    obtain rfl := Option.some.inj H
    go_enter Try.func34, Try.ntmps34
    go_wp2
    go_ret
    exact ⟨by first | rfl | (simp [errW_none, errW_some] <;> rfl) | (simp [*, errW_none, errW_some] <;> rfl), bl⟩

/-! ### slices_Index_int_int: function 45 -/
def slices_Index_int_int.l0 : Nat → List Int → Int → Int → Int → Option (Int)
  | 0, _, _, _, _ => none
  | k + 1, x0, x1, x7, x8 => if x8 < x7 then (if 0 ≤ x8 then (if x8 < (x0.length : Int) then (if x1 = (rd x0 x8) then (some x8) else (slices_Index_int_int.l0 k x0 x1 x7 (wrap64 (x8 + 1)))) else (none)) else (none)) else (some (-1))
def slices_Index_int_int.f (k : Nat) (l0 : List Int) (a1 : Int) : Option (Int) := slices_Index_int_int.l0 k l0 a1 (l0.length : Int) 0
theorem slices_Index_int_int.mono_l : ∀ k, (∀ y0 y1 y2 y3, LeO (slices_Index_int_int.l0 k y0 y1 y2 y3) (slices_Index_int_int.l0 (k + 1) y0 y1 y2 y3))
  | 0 => fun _ _ _ _ r h => by simp [slices_Index_int_int.l0] at h
  | k + 1 => by
    have ih0 := slices_Index_int_int.mono_l k
    · intro y0 y1 y2 y3
      unfold slices_Index_int_int.l0
      exact mo
theorem slices_Index_int_int.mono : ∀ a0 a1 k, LeO (slices_Index_int_int.f k a0 a1) (slices_Index_int_int.f (k + 1) a0 a1) := by
  intro a0 a1 k
  have ih0 := slices_Index_int_int.mono_l k
  unfold slices_Index_int_int.f
  exact mo
instance slices_Index_int_int.mi (a0 a1 k) : LeC (slices_Index_int_int.f k a0 a1) (slices_Index_int_int.f (k + 1) a0 a1) := ⟨slices_Index_int_int.mono a0 a1 k⟩
set_option maxHeartbeats 8000000 in
set_option maxRecDepth 100000 in
theorem slices_Index_int_int.calls (k : Nat) (A0 : Option Addr) (c0 : Nat) (l0 : List Int) (a1 : Int) (r : Int) (w : World) (hr0 : Kd.C (Kd.int .i64) w A0 l0.length l0) (hc0 : l0.length ≤ c0) (h : slices_Index_int_int.f k l0 a1 = some r) :
    Calls Try.prog 45 #[.slice A0 l0.length c0, .int .i64 a1] w fun e w' => e = .returned (.int .i64 r) ∧ Drawn0 w w' := by
  have HR0 := Aside0.mk hr0
  have HC0 := Aside0.mk hc0
  clear hr0 hc0
  have H : (slices_Index_int_int.l0 k l0 a1 (l0.length : Int) 0) = some r := h
  clear h
  have H' := Aside0.mk H
  clear H
  go_enter Try.func45, Try.ntmps45
  go_wp2
  go_loopg [8] k (fun kq v8 w' => ∃ (x8_1 : Int), v8 = .int .i64 x8_1 ∧ Aside0 (slices_Index_int_int.l0 kq l0 a1 (l0.length : Int) x8_1 = some r) ∧ Aside0 (kq ≤ k) ∧ Drawn0 w w')
  case atStart => exact ⟨(0), (by first | rfl | (simp; done) | (simp [*]; done)), H', ⟨Nat.le_refl _⟩, by repeat (first | exact Drawn0.refl _ | apply Drawn0.step)⟩
  case round =>
    clear H'
    try clear p2
    obtain ⟨x8_1, rfl, HA, HK1, ⟨m1, rfl⟩⟩ := hrel
    cases gk with
    | zero => exact absurd HA.out (by simp [slices_Index_int_int.l0])
    | succ k1 =>
      have H := HA.out
      clear HA
      simp only [slices_Index_int_int.l0] at H
      by_cases c3 : x8_1 < (l0.length : Int)
      · rw [if_pos c3] at H
        have c3b0 : decide (x8_1 < (l0.length : Int)) = true := decide_eq_true c3
        clear c3
        by_cases c4 : 0 ≤ x8_1
        · rw [if_pos c4] at H
          have c4b0 : decide (0 ≤ x8_1) = true := decide_eq_true c4
          clear c4
          by_cases c5 : x8_1 < (l0.length : Int)
          · rw [if_pos c5] at H
            have c5b0 : decide (x8_1 < (l0.length : Int)) = true := decide_eq_true c5
            clear c5
            by_cases c6 : a1 = (rd l0 x8_1)
            · rw [if_pos c6] at H
              have c6b0 : (a1 == (rd l0 x8_1)) = true := beq_iff_eq.mpr c6
              have c6b1 : (a1 != (rd l0 x8_1)) = false := bne_eq_false_iff_eq.mpr c6
              clear c6
              obtain rfl := Option.some.inj H
              have p257 : 0 ≤ (x8_1 : Int) := dt
              have q257 : x8_1 < (l0.length : Int) := dt
              obtain ⟨ad257, e257, hx257_0⟩ := Kd.at_int HR0.out x8_1 p257 q257
              cases e257
              replace p257 := eq_true p257
              replace q257 := eq_true q257
              go_wp2
              go_ret
              exact ⟨by first | rfl | (simp; done) | (simp [*]; done), by repeat (first | exact Drawn0.refl _ | apply Drawn0.step)⟩
            · rw [if_neg c6] at H
              have c6b0 : (a1 == (rd l0 x8_1)) = false := beq_eq_false_iff_ne.mpr c6
              have c6b1 : (a1 != (rd l0 x8_1)) = true := bne_iff_ne.mpr c6
              have H' := Aside0.mk H
              clear H
              have p257 : 0 ≤ (x8_1 : Int) := dt
              have q257 : x8_1 < (l0.length : Int) := dt
              obtain ⟨ad257, e257, hx257_0⟩ := Kd.at_int HR0.out x8_1 p257 q257
              cases e257
              replace p257 := eq_true p257
              replace q257 := eq_true q257
              go_wp2
              go_roundg k1
              case measure => have := HK1.out; omega
              case rel => exact ⟨(wrap64 (x8_1 + 1)), (by first | rfl | (simp; done) | (simp [*]; done)), H', ⟨by have := HK1.out; omega⟩, by repeat (first | exact Drawn0.refl _ | apply Drawn0.step)⟩
          · rw [if_neg c5] at H
            exact absurd H (by simp)
        · rw [if_neg c4] at H
          exact absurd H (by simp)
      · rw [if_neg c3] at H
        have c3b0 : decide (x8_1 < (l0.length : Int)) = false := decide_eq_false c3
        clear c3
        obtain rfl := Option.some.inj H
        go_wp2
        go_ret
        exact ⟨by first | rfl | (simp; done) | (simp [*]; done), by repeat (first | exact Drawn0.refl _ | apply Drawn0.step)⟩

/-! ### slices_Contains_int_int: function 36 -/
def slices_Contains_int_int.f (k : Nat) (l0 : List Int) (a1 : Int) : Option (Bool) := (slices_Index_int_int.f k l0 a1).bind fun t258 => (some (decide (t258 ≥ 0)))
theorem slices_Contains_int_int.mono : ∀ a0 a1 k, LeO (slices_Contains_int_int.f k a0 a1) (slices_Contains_int_int.f (k + 1) a0 a1) := by
  intro a0 a1 k
  unfold slices_Contains_int_int.f
  exact mo
instance slices_Contains_int_int.mi (a0 a1 k) : LeC (slices_Contains_int_int.f k a0 a1) (slices_Contains_int_int.f (k + 1) a0 a1) := ⟨slices_Contains_int_int.mono a0 a1 k⟩
set_option maxHeartbeats 8000000 in
set_option maxRecDepth 100000 in
theorem slices_Contains_int_int.calls (k : Nat) (A0 : Option Addr) (c0 : Nat) (l0 : List Int) (a1 : Int) (r : Bool) (w : World) (hr0 : Kd.C (Kd.int .i64) w A0 l0.length l0) (hc0 : l0.length ≤ c0) (h : slices_Contains_int_int.f k l0 a1 = some r) :
    Calls Try.prog 36 #[.slice A0 l0.length c0, .int .i64 a1] w fun e w' => e = .returned (.bool r) ∧ Drawn0 w w' := by
  have HR0 := Aside0.mk hr0
  have HC0 := Aside0.mk hc0
  clear hr0 hc0
  have H : ((slices_Index_int_int.f k l0 a1).bind fun t258 => (some (decide (t258 ≥ 0)))) = some r := h
  clear h
  revert H; refine bo ?_; rintro t258 A3 H
  obtain rfl := Option.some.inj H
  go_enter Try.func36, Try.ntmps36
  go_wp2_with (first | ((with_reducible refine gate_callee (f := 45) rfl ?_); refine gl (some 7) rfl Try.func45 #[.slice A0 l0.length c0, .int .i64 a1] ?_; (with_reducible refine (slices_Index_int_int.calls k _ _ l0 a1 t258 _ ?side1 ?side2 A3.out).mono ?_); (case side1 => exact uc HR0.out); (case side2 => exact HC0.out); rintro e w' ⟨rfl, ⟨nd, rfl⟩⟩; refine ⟨_, rfl, ?_⟩))
  go_ret
  exact ⟨by first | rfl | (simp; done) | (simp [*]; done), by repeat (first | exact Drawn0.refl _ | apply Drawn0.step)⟩

/-! ### impl_bound: function 37 -/
def impl_bound.f (a0 : Int) : Option (Bool) := if a0 ≥ (-1000) then (some (decide (a0 ≤ 1000))) else (some false)
set_option maxHeartbeats 8000000 in
set_option maxRecDepth 100000 in
theorem impl_bound.calls (a0 : Int) (r : Bool) (w : World) (h : impl_bound.f a0 = some r) :
    Calls Try.prog 37 #[.int .i64 a0] w fun e w' => e = .returned (.bool r) ∧ Drawn0 w w' := by
  have H : (if a0 ≥ (-1000) then (some (decide (a0 ≤ 1000))) else (some false)) = some r := h
  clear h
  by_cases c2 : a0 ≥ (-1000)
  · rw [if_pos c2] at H
    have c2b0 : decide ((-1000) ≤ a0) = true := decide_eq_true c2
    clear c2
    obtain rfl := Option.some.inj H
    go_enter Try.func37, Try.ntmps37
    go_wp2
    go_ret
    exact ⟨by first | rfl | (simp; done) | (simp [*]; done), by repeat (first | exact Drawn0.refl _ | apply Drawn0.step)⟩
  · rw [if_neg c2] at H
    have c2b0 : decide ((-1000) ≤ a0) = false := decide_eq_false c2
    clear c2
    obtain rfl := Option.some.inj H
    go_enter Try.func37, Try.ntmps37
    go_wp2
    go_ret
    exact ⟨by first | rfl | (simp; done) | (simp [*]; done), by repeat (first | exact Drawn0.refl _ | apply Drawn0.step)⟩

end Go.Proofs.Ytmliclopdbkbeaa.PFnExactAddPivot
