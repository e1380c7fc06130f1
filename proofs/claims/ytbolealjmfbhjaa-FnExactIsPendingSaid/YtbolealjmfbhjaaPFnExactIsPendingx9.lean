-- printed by a program of this session, a turned copy of the print of the kit
import Derived.Test.YtbolealjmfbhjaaSq
import Derived.Test.YtbolealjmfbhjaaPFnExactIsPendingx0
import Derived.Test.YtbolealjmfbhjaaPFnExactIsPendingx6
import Derived.Test.YtbolealjmfbhjaaPFnExactIsPendingx7
import Derived.Test.YtbolealjmfbhjaaPFnExactIsPendingx8
namespace Go.Proofs.Ytbolealjmfbhjaa.PFnExactIsPending
open Go.RowKit Go.Proofs.YtbolealjmfbhjaaW.PrintWords Go.Proofs.YtbolealjmfbhjaaW.PrintLast Go.Proofs.YtbolealjmfbhjaaW.PrintMore Go.Proofs.Ytbolealjmfbhjaa.Sq
attribute [local go_sem] max2_int min2_int max_two min_two max_three min_three max_four min_four Giv.cell_twice   -- for this text's walks alone
set_option linter.unusedVariables false
set_option linter.unusedSimpArgs false

/-! ### impl_IsPending: function 39 -/
mutual
def impl_IsPending.j0 : Nat → Bool → List Int → List Int → List (S69) → List (S96) → List Int → Option (Bool)
 | 0, _, _, _, _, _, _ => none
 | k + 1, x33, x223000, x223001, x223002, x224000, x224001 => if x33 = true then (some false) else (impl_IsPending.l0 k x224000 (x224000.length : Int) 0 x223000 x223001 x223002 x224000 x224001)
def impl_IsPending.l0 : Nat → List (S96) → Int → Int → List Int → List Int → List (S69) → List (S96) → List Int → Option (Bool)
 | 0, _, _, _, _, _, _, _, _ => none
 | k + 1, x35, x36, x37, x223000, x223001, x223002, x224000, x224001 => if x37 < x36 then (if 0 ≤ x37 then (if x37 < (x35.length : Int) then ((impl_IsItem.f ((rd_T96 x35 x37).f0) ((rd_T96 x35 x37).f1)).bind fun t227 => (if t227 = true then ((impl_FindRow.f k x223000 x223001 x223002 ((rd_T96 x35 x37).f1)).bind fun t228 => (if t228 ≥ 0 then (some false) else (if x37 ≤ (x224000.length : Int) then ((impl_Item.f (x224000.take (x37 : Int).toNat) ((rd_T96 x35 x37).f1)).bind fun t233 => (if t233 = true then (some false) else (impl_IsPending.l0 k x35 x36 (wrap64 (x37 + 1)) x223000 x223001 x223002 x224000 x224001))) else (none)))) else (some false))) else (none)) else (none)) else (impl_IsPending.l1 k x224001 (x224001.length : Int) 0 x223000 x223001 x223002 x224000 x224001)
def impl_IsPending.l1 : Nat → List Int → Int → Int → List Int → List Int → List (S69) → List (S96) → List Int → Option (Bool)
 | 0, _, _, _, _, _, _, _, _ => none
 | k + 1, x62, x63, x64, x223000, x223001, x223002, x224000, x224001 => if x64 < x63 then (if 0 ≤ x64 then (if x64 < (x62.length : Int) then ((impl_FindRow.f k x223000 x223001 x223002 (rd x62 x64)).bind fun t235 => (if t235 < 0 then (some false) else (if x64 ≤ (x224001.length : Int) then ((slices_Contains_int_int.f k (x224001.take (x64 : Int).toNat) (rd x62 x64)).bind fun t237 => (if t237 = true then (some false) else (impl_IsPending.l1 k x62 x63 (wrap64 (x64 + 1)) x223000 x223001 x223002 x224000 x224001))) else (none)))) else (none)) else (none)) else (some true)
end
def impl_IsPending.f (k : Nat) (l0_0 : List Int) (l0_1 : List Int) (l0_2 : List (S69)) (l1_0 : List (S96)) (l1_1 : List Int) : Option (Bool) := (impl_IsCracker.f k l0_0 l0_1 l0_2).bind fun t224 => (if t224 = true then (if (l1_0.length : Int) > 20 then (impl_IsPending.j0 k true l0_0 l0_1 l0_2 l1_0 l1_1) else (if (l1_1.length : Int) > 20 then (impl_IsPending.j0 k true l0_0 l0_1 l0_2 l1_0 l1_1) else (impl_IsPending.j0 k (decide ((wrap64 ((l0_0.length : Int) + (l1_0.length : Int))) > 64)) l0_0 l0_1 l0_2 l1_0 l1_1))) else (impl_IsPending.j0 k true l0_0 l0_1 l0_2 l1_0 l1_1))
theorem impl_IsPending.mono_l : ∀ k, (∀ y0 y1 y2 y3 y4 y5, LeO (impl_IsPending.j0 k y0 y1 y2 y3 y4 y5) (impl_IsPending.j0 (k + 1) y0 y1 y2 y3 y4 y5)) ∧ (∀ y0 y1 y2 y3 y4 y5 y6 y7, LeO (impl_IsPending.l0 k y0 y1 y2 y3 y4 y5 y6 y7) (impl_IsPending.l0 (k + 1) y0 y1 y2 y3 y4 y5 y6 y7)) ∧ (∀ y0 y1 y2 y3 y4 y5 y6 y7, LeO (impl_IsPending.l1 k y0 y1 y2 y3 y4 y5 y6 y7) (impl_IsPending.l1 (k + 1) y0 y1 y2 y3 y4 y5 y6 y7))
 | 0 => ⟨fun _ _ _ _ _ _ r h => by simp [impl_IsPending.j0] at h, fun _ _ _ _ _ _ _ _ r h => by simp [impl_IsPending.l0] at h, fun _ _ _ _ _ _ _ _ r h => by simp [impl_IsPending.l1] at h⟩
 | k + 1 => by
  obtain ⟨ih0, ih1, ih2⟩ := impl_IsPending.mono_l k
  refine ⟨?_, ?_, ?_⟩
  ·intro y0 y1 y2 y3 y4 y5
   unfold impl_IsPending.j0
   repeat' first
   | (with_reducible exact ih0 _ _ _ _ _ _)
   | (with_reducible exact ih1 _ _ _ _ _ _ _ _)
   | (with_reducible exact ih2 _ _ _ _ _ _ _ _)
   | (with_reducible exact impl_FindRow.mono _ _ _ _ _)
   | (with_reducible exact impl_IsCracker.mono _ _ _ _)
   | (with_reducible exact slices_Contains_int_int.mono _ _ _)
   | (with_reducible exact LeO.refl _)
   | (with_reducible exact LeO.none _)
   | (with_reducible refine LeO.ite ?_ ?_)
   | (with_reducible refine LeO.bind ?_ (fun _ => ?_))
   | exact ih0 _ _ _ _ _ _
   | exact ih1 _ _ _ _ _ _ _ _
   | exact ih2 _ _ _ _ _ _ _ _
   | exact impl_FindRow.mono _ _ _ _ _
   | exact impl_IsCracker.mono _ _ _ _
   | exact slices_Contains_int_int.mono _ _ _
   | exact LeO.none _
   | refine LeO.ite ?_ ?_
   | refine LeO.bind ?_ (fun _ => ?_)
  ·intro y0 y1 y2 y3 y4 y5 y6 y7
   unfold impl_IsPending.l0
   repeat' first
   | (with_reducible exact ih0 _ _ _ _ _ _)
   | (with_reducible exact ih1 _ _ _ _ _ _ _ _)
   | (with_reducible exact ih2 _ _ _ _ _ _ _ _)
   | (with_reducible exact impl_FindRow.mono _ _ _ _ _)
   | (with_reducible exact impl_IsCracker.mono _ _ _ _)
   | (with_reducible exact slices_Contains_int_int.mono _ _ _)
   | (with_reducible exact LeO.refl _)
   | (with_reducible exact LeO.none _)
   | (with_reducible refine LeO.ite ?_ ?_)
   | (with_reducible refine LeO.bind ?_ (fun _ => ?_))
   | exact ih0 _ _ _ _ _ _
   | exact ih1 _ _ _ _ _ _ _ _
   | exact ih2 _ _ _ _ _ _ _ _
   | exact impl_FindRow.mono _ _ _ _ _
   | exact impl_IsCracker.mono _ _ _ _
   | exact slices_Contains_int_int.mono _ _ _
   | exact LeO.none _
   | refine LeO.ite ?_ ?_
   | refine LeO.bind ?_ (fun _ => ?_)
  ·intro y0 y1 y2 y3 y4 y5 y6 y7
   unfold impl_IsPending.l1
   repeat' first
   | (with_reducible exact ih0 _ _ _ _ _ _)
   | (with_reducible exact ih1 _ _ _ _ _ _ _ _)
   | (with_reducible exact ih2 _ _ _ _ _ _ _ _)
   | (with_reducible exact impl_FindRow.mono _ _ _ _ _)
   | (with_reducible exact impl_IsCracker.mono _ _ _ _)
   | (with_reducible exact slices_Contains_int_int.mono _ _ _)
   | (with_reducible exact LeO.refl _)
   | (with_reducible exact LeO.none _)
   | (with_reducible refine LeO.ite ?_ ?_)
   | (with_reducible refine LeO.bind ?_ (fun _ => ?_))
   | exact ih0 _ _ _ _ _ _
   | exact ih1 _ _ _ _ _ _ _ _
   | exact ih2 _ _ _ _ _ _ _ _
   | exact impl_FindRow.mono _ _ _ _ _
   | exact impl_IsCracker.mono _ _ _ _
   | exact slices_Contains_int_int.mono _ _ _
   | exact LeO.none _
   | refine LeO.ite ?_ ?_
   | refine LeO.bind ?_ (fun _ => ?_)
theorem impl_IsPending.mono : ∀ a0 a1 a2 a3 a4 k, LeO (impl_IsPending.f k a0 a1 a2 a3 a4) (impl_IsPending.f (k + 1) a0 a1 a2 a3 a4) := by
 intro a0 a1 a2 a3 a4 k
 obtain ⟨ih0,ih1,ih2⟩:= impl_IsPending.mono_l k
 unfold impl_IsPending.f
 repeat' first
  |(with_reducible exact ih0 _ _ _ _ _ _)
  |(with_reducible exact ih1 _ _ _ _ _ _ _ _)
  |(with_reducible exact ih2 _ _ _ _ _ _ _ _)
  |(with_reducible exact impl_FindRow.mono _ _ _ _ _)
  |(with_reducible exact impl_IsCracker.mono _ _ _ _)
  |(with_reducible exact slices_Contains_int_int.mono _ _ _)
  |(with_reducible exact LeO.refl _)
  |(with_reducible exact LeO.none _)
  |(with_reducible refine LeO.ite ?_ ?_)
  |(with_reducible refine LeO.bind ?_ (fun _ => ?_))
  |exact ih0 _ _ _ _ _ _
  |exact ih1 _ _ _ _ _ _ _ _
  |exact ih2 _ _ _ _ _ _ _ _
  |exact impl_FindRow.mono _ _ _ _ _
  |exact impl_IsCracker.mono _ _ _ _
  |exact slices_Contains_int_int.mono _ _ _
  |exact LeO.none _
  |refine LeO.ite ?_ ?_
  |refine LeO.bind ?_ (fun _ => ?_)
set_option maxHeartbeats 8000000 in
set_option maxRecDepth 100000 in
theorem impl_IsPending.calls (k : Nat) (A0_0 : Option Addr) (c0_0 : Nat) (l0_0 : List Int) (A0_1 : Option Addr) (c0_1 : Nat) (l0_1 : List Int) (A0_2 : Option Addr) (c0_2 : Nat) (l0_2 : List (S69)) (A1_0 : Option Addr) (c1_0 : Nat) (l1_0 : List (S96)) (A1_1 : Option Addr) (c1_1 : Nat) (l1_1 : List Int) (r : Bool) (w : World) (hr0_0 : Kd.C (Kd.int .i64) w A0_0 l0_0.length l0_0) (hc0_0 : l0_0.length ≤ c0_0) (hr0_1 : Kd.C (Kd.int .i64) w A0_1 l0_1.length l0_1) (hc0_1 : l0_1.length ≤ c0_1) (hr0_2 : Kd.C k69 w A0_2 l0_2.length l0_2) (hc0_2 : l0_2.length ≤ c0_2) (hr1_0 : Kd.C k96 w A1_0 l1_0.length l1_0) (hc1_0 : l1_0.length ≤ c1_0) (hr1_1 : Kd.C (Kd.int .i64) w A1_1 l1_1.length l1_1) (hc1_1 : l1_1.length ≤ c1_1) (h : impl_IsPending.f k l0_0 l0_1 l0_2 l1_0 l1_1 = some r) :
  Calls Try.prog 39 #[.agg #[.slice A0_0 l0_0.length c0_0, .slice A0_1 l0_1.length c0_1, .slice A0_2 l0_2.length c0_2], .agg #[.slice A1_0 l1_0.length c1_0, .slice A1_1 l1_1.length c1_1]] w fun e w' => e = .returned (.bool r) ∧ Below w.heap.size w w' := by
 have hu30:= Try.underlying30
 have hu61:= Try.underlying61
 have hu96:= Try.underlying96
 have HR0_0:= mk hr0_0
 have HC0_0:= mk hc0_0
 clear hr0_0 hc0_0
 have HR0_1:= mk hr0_1
 have HC0_1:= mk hc0_1
 clear hr0_1 hc0_1
 have HR0_2:= mk hr0_2
 have HC0_2:= mk hc0_2
 clear hr0_2 hc0_2
 have HR1_0:= mk hr1_0
 have HC1_0:= mk hc1_0
 clear hr1_0 hc1_0
 have HR1_1:= mk hr1_1
 have HC1_1:= mk hc1_1
 clear hr1_1 hc1_1
 have HB:= mk (Below.refl w.heap.size w)
 have H : ((impl_IsCracker.f k l0_0 l0_1 l0_2).bind fun t224 => (if t224 = true then (if (l1_0.length : Int) > 20 then (impl_IsPending.j0 k true l0_0 l0_1 l0_2 l1_0 l1_1) else (if (l1_1.length : Int) > 20 then (impl_IsPending.j0 k true l0_0 l0_1 l0_2 l1_0 l1_1) else (impl_IsPending.j0 k (decide ((wrap64 ((l0_0.length : Int) + (l1_0.length : Int))) > 64)) l0_0 l0_1 l0_2 l1_0 l1_1))) else (impl_IsPending.j0 k true l0_0 l0_1 l0_2 l1_0 l1_1))) = some r:= h
 clear h
 have HC3:= mk H
 clear H
 go_enter Try.func39,Try.ntmps39
 go_upto_region 1 with (first|((with_reducible refine gate_dst (N:= 2) rfl ?_);(try (refine gate_guard (by rfl) ?_;dsimp only));refine box_event ?hg (N:= 2) ?hd (cs:= #[.slice A0_0 l0_0.length c0_0,.slice A0_1 l0_1.length c0_1,.slice A0_2 l0_2.length c0_2]) (t:= 30) ?hr ?_;(case hd => rfl);(case hg => rfl);(case hr => first|(go_simp;done)|(go_simp;rfl));intro gb222 hg w4 hbox hb;have n0_:= mk (below_step (by repeat (first|(with_reducible first|exact HB.out|apply below_alloc|apply pw_below_drewN|apply below_drew1)|exact HB.out)) hb);have n1_:= mk (hbox);have n2_:= mk ((by rw [hg];exact (below_size (by repeat (first|(with_reducible first|exact HB.out|apply below_alloc|apply pw_below_drewN|apply below_drew1)|exact HB.out))) : w.heap.size ≤ gb222));have n3_:= mk ((by rw [hg];exact (below_size (by repeat (first|(with_reducible first|exact HB.out|apply below_alloc|apply pw_below_drewN|apply below_drew1)|exact HB.out))) : w.heap.size ≤ gb222));clear HB;have HB:= n0_;have BK222:= n1_;have GW222:= n2_;have GE222:= n3_;clear n0_ n1_ n2_ n3_;clear hb hbox hg)|((with_reducible refine gate_dst (N:= 3) rfl ?_);(try (refine gate_guard (by rfl) ?_;dsimp only));refine box_event ?hg (N:= 3) ?hd (cs:= #[.slice A1_0 l1_0.length c1_0,.slice A1_1 l1_1.length c1_1]) (t:= 61) ?hr ?_;(case hd => rfl);(case hg => rfl);(case hr => first|(go_simp;done)|(go_simp;rfl));intro gb223 hg w5 hbox hb;have n0_:= mk (blk_below (g:= gb222) (o:= .cells #[.slice A0_0 l0_0.length c0_0,.slice A0_1 l0_1.length c0_1,.slice A0_2 l0_2.length c0_2] 30 (0,0)) (ub BK222.out) hb);have n1_:= mk (below_step (by repeat (first|(with_reducible first|exact HB.out|apply below_alloc|apply pw_below_drewN|apply below_drew1|refine below_set ?_ GE222.out)|exact HB.out)) hb);have n2_:= mk (hbox);have n3_:= mk ((by rw [hg];exact (below_size (by repeat (first|(with_reducible first|exact HB.out|apply below_alloc|apply pw_below_drewN|apply below_drew1|refine below_set ?_ GE222.out)|exact HB.out))) : w.heap.size ≤ gb223));have n4_:= mk ((by rw [hg];exact (below_size (by repeat (first|(with_reducible first|exact HB.out|apply below_alloc|apply pw_below_drewN|apply below_drew1|refine below_set ?_ GE222.out)|exact HB.out))) : w.heap.size ≤ gb223));have n5_:= mk ((by rw [hg];exact Nat.ne_of_lt (blk_lt (g:= gb222) (o:= .cells #[.slice A0_0 l0_0.length c0_0,.slice A0_1 l0_1.length c0_1,.slice A0_2 l0_2.length c0_2] 30 (0,0)) (ub BK222.out)) : gb222 ≠ gb223));have n6_:= mk ((by rw [hg];exact Nat.ne_of_gt (blk_lt (g:= gb222) (o:= .cells #[.slice A0_0 l0_0.length c0_0,.slice A0_1 l0_1.length c0_1,.slice A0_2 l0_2.length c0_2] 30 (0,0)) (ub BK222.out)) : gb223 ≠ gb222));clear BK222;clear HB;have BK222:= n0_;have HB:= n1_;have BK223:= n2_;have GW223:= n3_;have GE223:= n4_;have NB222_223:= n5_;have NB223_222:= n6_;clear n0_ n1_ n2_ n3_ n4_ n5_ n6_;clear hb hbox hg))
 (try simp only [Act.put,List.setIfInBounds_toArray,List.set_cons_zero,List.set_cons_succ])
 go_cut [33] (fun v33 wc => ∃ (kq : Nat) (x33_2 : Bool),v33 = .bool x33_2 ∧ Aside0 (impl_IsPending.j0 kq x33_2 l0_0 l0_1 l0_2 l1_0 l1_1 = some r) ∧ Aside0 (kq ≤ k) ∧ Aside0 (wc.heap[gb222]? = some (.cells #[(.slice A0_0 l0_0.length c0_0),(.slice A0_1 l0_1.length c0_1),(.slice A0_2 l0_2.length c0_2)] 30 (0,0))) ∧ Aside0 (wc.heap[gb223]? = some (.cells #[(.slice A1_0 l1_0.length c1_0),(.slice A1_1 l1_1.length c1_1)] 61 (0,0))) ∧ Aside0 (Below w.heap.size w wc))
 case first =>
  have H:= HC3.out
  clear HC3
  replace H:= Option.bind_eq_some_iff.mp H
  obtain ⟨t224,A60,H⟩:= H
  replace H : (if t224 = true then (if (l1_0.length : Int) > 20 then (impl_IsPending.j0 k true l0_0 l0_1 l0_2 l1_0 l1_1) else (if (l1_1.length : Int) > 20 then (impl_IsPending.j0 k true l0_0 l0_1 l0_2 l1_0 l1_1) else (impl_IsPending.j0 k (decide ((wrap64 ((l0_0.length : Int) + (l1_0.length : Int))) > 64)) l0_0 l0_1 l0_2 l1_0 l1_1))) else (impl_IsPending.j0 k true l0_0 l0_1 l0_2 l1_0 l1_1)) = some r:= H
  have A6:= mk A60
  clear A60
  by_cases c7 : t224 = true
  ·subst c7
   have H1 : (if (l1_0.length : Int) > 20 then (impl_IsPending.j0 k true l0_0 l0_1 l0_2 l1_0 l1_1) else (if (l1_1.length : Int) > 20 then (impl_IsPending.j0 k true l0_0 l0_1 l0_2 l1_0 l1_1) else (impl_IsPending.j0 k (decide ((wrap64 ((l0_0.length : Int) + (l1_0.length : Int))) > 64)) l0_0 l0_1 l0_2 l1_0 l1_1))) = some r:= by rw [if_pos rfl] at H;exact H
   clear H
   have H:= H1
   clear H1
   by_cases c8 : (l1_0.length : Int) > 20
   ·rw [if_pos c8] at H
    have c8b0 : decide (20 < (l1_0.length : Int)) = true:= decide_eq_true c8
    have c8b1 : decide (20 < l1_0.length) = true:= decide_eq_true (by omega)
    clear c8
    (first|rw [c8b0]|(simp only [i64_w,i32_w];rw [c8b0])|skip)
    have H':= mk H
    clear H
    have hnb9:= NB222_223.out
    have hnc9:= NB223_222.out
    have hcz10_0 : w5.cell? ⟨gb222,0,none⟩ = some (.slice A0_0 l0_0.length c0_0):= (blk_cell BK222.out 0).trans rfl
    have hcz10_1 : w5.cell? ⟨gb222,1,none⟩ = some (.slice A0_1 l0_1.length c0_1):= (blk_cell BK222.out 1).trans rfl
    have hcz10_2 : w5.cell? ⟨gb222,2,none⟩ = some (.slice A0_2 l0_2.length c0_2):= (blk_cell BK222.out 2).trans rfl
    have hfz10_0:= blk_frozen BK222.out 0
    have hfz10_1:= blk_frozen BK222.out 1
    have hfz10_2:= blk_frozen BK222.out 2
    go_wp2_with (first|((with_reducible refine gate_callee (f:= 15) rfl ?_);refine goesL_ (some 10) rfl rfl Try.func15 (by kernel_rfl) rfl #[.agg #[.slice A0_0 l0_0.length c0_0,.slice A0_1 l0_1.length c0_1,.slice A0_2 l0_2.length c0_2]] rfl (by (try simp only [List.map_toArray,List.map_cons,List.map_nil]);first|done|rfl|(simp only [List.length_drop,List.length_take];rfl)) ?_;(with_reducible refine (impl_IsCracker.calls k _ _ l0_0 _ _ l0_1 _ _ l0_2 true _ ?side1 ?side2 ?side3 ?side4 ?side5 ?side6 A6.out).mono ?_);(case side1 => exact uc (Kd.C_below HR0_0.out HB.out));(case side2 => exact HC0_0.out);(case side3 => exact uc (Kd.C_below HR0_1.out HB.out));(case side4 => exact HC0_1.out);(case side5 => exact uc (Kd.C_below HR0_2.out HB.out));(case side6 => exact HC0_2.out);rintro e w11 ⟨rfl,hb⟩;refine ⟨_,rfl,?_⟩;have n0_:= mk (blk_below (g:= gb222) (o:= .cells #[.slice A0_0 l0_0.length c0_0,.slice A0_1 l0_1.length c0_1,.slice A0_2 l0_2.length c0_2] 30 (0,0)) (ub BK222.out) hb);have n1_:= mk (blk_below (g:= gb223) (o:= .cells #[.slice A1_0 l1_0.length c1_0,.slice A1_1 l1_1.length c1_1] 61 (0,0)) (ub BK223.out) hb);have n2_:= mk (below_step (by repeat (first|(with_reducible first|exact HB.out|apply below_alloc|apply pw_below_drewN|apply below_drew1|refine below_set ?_ GE222.out|refine below_set ?_ GE223.out)|exact HB.out)) hb);clear BK222;clear BK223;clear HB;have BK222:= n0_;have BK223:= n1_;have HB:= n2_;clear n0_ n1_ n2_;(try clear hb);(try clear hb2);(try clear hk);(try clear hi);have hcz12_0 : w11.cell? ⟨gb223,0,none⟩ = some (.slice A1_0 l1_0.length c1_0):= (blk_cell BK223.out 0).trans rfl;have hcz12_1 : w11.cell? ⟨gb223,1,none⟩ = some (.slice A1_1 l1_1.length c1_1):= (blk_cell BK223.out 1).trans rfl;have hfz12_0:= blk_frozen BK223.out 0;have hfz12_1:= blk_frozen BK223.out 1))
    go_meet
    case rel => exact ⟨_,(true),(by first|rfl|(simp;done)|(simp [*];done)),H',⟨by first|omega|exact Nat.le_refl _⟩,⟨ub BK222.out⟩,⟨ub BK223.out⟩,⟨by repeat (first|(with_reducible first|exact HB.out|apply below_alloc|apply pw_below_drewN|apply below_drew1|refine below_set ?_ GE222.out|refine below_set ?_ GE223.out)|exact HB.out)⟩⟩
   ·rw [if_neg c8] at H
    have c8b0 : decide (20 < (l1_0.length : Int)) = false:= decide_eq_false c8
    have c8b1 : decide (20 < l1_0.length) = false:= decide_eq_false (by omega)
    clear c8
    (first|rw [c8b0]|(simp only [i64_w,i32_w];rw [c8b0])|skip)
    by_cases c13 : (l1_1.length : Int) > 20
    ·rw [if_pos c13] at H
     have c13b0 : decide (20 < (l1_1.length : Int)) = true:= decide_eq_true c13
     have c13b1 : decide (20 < l1_1.length) = true:= decide_eq_true (by omega)
     clear c13
     have H':= mk H
     clear H
     have hnb14:= NB222_223.out
     have hnc14:= NB223_222.out
     have hcz15_0 : w5.cell? ⟨gb222,0,none⟩ = some (.slice A0_0 l0_0.length c0_0):= (blk_cell BK222.out 0).trans rfl
     have hcz15_1 : w5.cell? ⟨gb222,1,none⟩ = some (.slice A0_1 l0_1.length c0_1):= (blk_cell BK222.out 1).trans rfl
     have hcz15_2 : w5.cell? ⟨gb222,2,none⟩ = some (.slice A0_2 l0_2.length c0_2):= (blk_cell BK222.out 2).trans rfl
     have hfz15_0:= blk_frozen BK222.out 0
     have hfz15_1:= blk_frozen BK222.out 1
     have hfz15_2:= blk_frozen BK222.out 2
     go_wp2_with (first|((with_reducible refine gate_callee (f:= 15) rfl ?_);refine goesL_ (some 10) rfl rfl Try.func15 (by kernel_rfl) rfl #[.agg #[.slice A0_0 l0_0.length c0_0,.slice A0_1 l0_1.length c0_1,.slice A0_2 l0_2.length c0_2]] rfl (by (try simp only [List.map_toArray,List.map_cons,List.map_nil]);first|done|rfl|(simp only [List.length_drop,List.length_take];rfl)) ?_;(with_reducible refine (impl_IsCracker.calls k _ _ l0_0 _ _ l0_1 _ _ l0_2 true _ ?side1 ?side2 ?side3 ?side4 ?side5 ?side6 A6.out).mono ?_);(case side1 => exact uc (Kd.C_below HR0_0.out HB.out));(case side2 => exact HC0_0.out);(case side3 => exact uc (Kd.C_below HR0_1.out HB.out));(case side4 => exact HC0_1.out);(case side5 => exact uc (Kd.C_below HR0_2.out HB.out));(case side6 => exact HC0_2.out);rintro e w16 ⟨rfl,hb⟩;refine ⟨_,rfl,?_⟩;have n0_:= mk (blk_below (g:= gb222) (o:= .cells #[.slice A0_0 l0_0.length c0_0,.slice A0_1 l0_1.length c0_1,.slice A0_2 l0_2.length c0_2] 30 (0,0)) (ub BK222.out) hb);have n1_:= mk (blk_below (g:= gb223) (o:= .cells #[.slice A1_0 l1_0.length c1_0,.slice A1_1 l1_1.length c1_1] 61 (0,0)) (ub BK223.out) hb);have n2_:= mk (below_step (by repeat (first|(with_reducible first|exact HB.out|apply below_alloc|apply pw_below_drewN|apply below_drew1|refine below_set ?_ GE222.out|refine below_set ?_ GE223.out)|exact HB.out)) hb);clear BK222;clear BK223;clear HB;have BK222:= n0_;have BK223:= n1_;have HB:= n2_;clear n0_ n1_ n2_;(try clear hb);(try clear hb2);(try clear hk);(try clear hi);have hcz17_0 : w16.cell? ⟨gb223,0,none⟩ = some (.slice A1_0 l1_0.length c1_0):= (blk_cell BK223.out 0).trans rfl;have hcz17_1 : w16.cell? ⟨gb223,1,none⟩ = some (.slice A1_1 l1_1.length c1_1):= (blk_cell BK223.out 1).trans rfl;have hfz17_0:= blk_frozen BK223.out 0;have hfz17_1:= blk_frozen BK223.out 1))
     go_meet
     case rel => exact ⟨_,(true),(by first|rfl|(simp;done)|(simp [*];done)),H',⟨by first|omega|exact Nat.le_refl _⟩,⟨ub BK222.out⟩,⟨ub BK223.out⟩,⟨by repeat (first|(with_reducible first|exact HB.out|apply below_alloc|apply pw_below_drewN|apply below_drew1|refine below_set ?_ GE222.out|refine below_set ?_ GE223.out)|exact HB.out)⟩⟩
    ·rw [if_neg c13] at H
     have c13b0 : decide (20 < (l1_1.length : Int)) = false:= decide_eq_false c13
     have c13b1 : decide (20 < l1_1.length) = false:= decide_eq_false (by omega)
     clear c13
     have H':= mk H
     clear H
     have hnb18:= NB222_223.out
     have hnc18:= NB223_222.out
     have hcz19_0 : w5.cell? ⟨gb222,0,none⟩ = some (.slice A0_0 l0_0.length c0_0):= (blk_cell BK222.out 0).trans rfl
     have hcz19_1 : w5.cell? ⟨gb222,1,none⟩ = some (.slice A0_1 l0_1.length c0_1):= (blk_cell BK222.out 1).trans rfl
     have hcz19_2 : w5.cell? ⟨gb222,2,none⟩ = some (.slice A0_2 l0_2.length c0_2):= (blk_cell BK222.out 2).trans rfl
     have hfz19_0:= blk_frozen BK222.out 0
     have hfz19_1:= blk_frozen BK222.out 1
     have hfz19_2:= blk_frozen BK222.out 2
     go_wp2_with (first|((with_reducible refine gate_callee (f:= 15) rfl ?_);refine goesL_ (some 10) rfl rfl Try.func15 (by kernel_rfl) rfl #[.agg #[.slice A0_0 l0_0.length c0_0,.slice A0_1 l0_1.length c0_1,.slice A0_2 l0_2.length c0_2]] rfl (by (try simp only [List.map_toArray,List.map_cons,List.map_nil]);first|done|rfl|(simp only [List.length_drop,List.length_take];rfl)) ?_;(with_reducible refine (impl_IsCracker.calls k _ _ l0_0 _ _ l0_1 _ _ l0_2 true _ ?side1 ?side2 ?side3 ?side4 ?side5 ?side6 A6.out).mono ?_);(case side1 => exact uc (Kd.C_below HR0_0.out HB.out));(case side2 => exact HC0_0.out);(case side3 => exact uc (Kd.C_below HR0_1.out HB.out));(case side4 => exact HC0_1.out);(case side5 => exact uc (Kd.C_below HR0_2.out HB.out));(case side6 => exact HC0_2.out);rintro e w20 ⟨rfl,hb⟩;refine ⟨_,rfl,?_⟩;have n0_:= mk (blk_below (g:= gb222) (o:= .cells #[.slice A0_0 l0_0.length c0_0,.slice A0_1 l0_1.length c0_1,.slice A0_2 l0_2.length c0_2] 30 (0,0)) (ub BK222.out) hb);have n1_:= mk (blk_below (g:= gb223) (o:= .cells #[.slice A1_0 l1_0.length c1_0,.slice A1_1 l1_1.length c1_1] 61 (0,0)) (ub BK223.out) hb);have n2_:= mk (below_step (by repeat (first|(with_reducible first|exact HB.out|apply below_alloc|apply pw_below_drewN|apply below_drew1|refine below_set ?_ GE222.out|refine below_set ?_ GE223.out)|exact HB.out)) hb);clear BK222;clear BK223;clear HB;have BK222:= n0_;have BK223:= n1_;have HB:= n2_;clear n0_ n1_ n2_;(try clear hb);(try clear hb2);(try clear hk);(try clear hi);have hcz21_0 : w20.cell? ⟨gb223,0,none⟩ = some (.slice A1_0 l1_0.length c1_0):= (blk_cell BK223.out 0).trans rfl;have hcz21_1 : w20.cell? ⟨gb223,1,none⟩ = some (.slice A1_1 l1_1.length c1_1):= (blk_cell BK223.out 1).trans rfl;have hfz21_0:= blk_frozen BK223.out 0;have hfz21_1:= blk_frozen BK223.out 1;have hcz22_0 : w20.cell? ⟨gb222,0,none⟩ = some (.slice A0_0 l0_0.length c0_0):= (blk_cell BK222.out 0).trans rfl;have hcz22_1 : w20.cell? ⟨gb222,1,none⟩ = some (.slice A0_1 l0_1.length c0_1):= (blk_cell BK222.out 1).trans rfl;have hcz22_2 : w20.cell? ⟨gb222,2,none⟩ = some (.slice A0_2 l0_2.length c0_2):= (blk_cell BK222.out 2).trans rfl;have hfz22_0:= blk_frozen BK222.out 0;have hfz22_1:= blk_frozen BK222.out 1;have hfz22_2:= blk_frozen BK222.out 2))
     go_meet
     case rel => exact ⟨_,(decide ((wrap64 ((l0_0.length : Int) + (l1_0.length : Int))) > 64)),(by first|rfl|(simp;done)|(simp [*];done)),H',⟨by first|omega|exact Nat.le_refl _⟩,⟨ub BK222.out⟩,⟨ub BK223.out⟩,⟨by repeat (first|(with_reducible first|exact HB.out|apply below_alloc|apply pw_below_drewN|apply below_drew1|refine below_set ?_ GE222.out|refine below_set ?_ GE223.out)|exact HB.out)⟩⟩
  ·replace c7:= Bool.eq_false_iff.mpr c7
   subst c7
   have H1 : (impl_IsPending.j0 k true l0_0 l0_1 l0_2 l1_0 l1_1) = some r:= by rw [if_neg (show ¬ (false = true) by decide)] at H;exact H
   clear H
   have H:= H1
   clear H1
   have H':= mk H
   clear H
   have hnb23:= NB222_223.out
   have hnc23:= NB223_222.out
   have hcz24_0 : w5.cell? ⟨gb222,0,none⟩ = some (.slice A0_0 l0_0.length c0_0):= (blk_cell BK222.out 0).trans rfl
   have hcz24_1 : w5.cell? ⟨gb222,1,none⟩ = some (.slice A0_1 l0_1.length c0_1):= (blk_cell BK222.out 1).trans rfl
   have hcz24_2 : w5.cell? ⟨gb222,2,none⟩ = some (.slice A0_2 l0_2.length c0_2):= (blk_cell BK222.out 2).trans rfl
   have hfz24_0:= blk_frozen BK222.out 0
   have hfz24_1:= blk_frozen BK222.out 1
   have hfz24_2:= blk_frozen BK222.out 2
   go_wp2_with (first|((with_reducible refine gate_callee (f:= 15) rfl ?_);refine goesL_ (some 10) rfl rfl Try.func15 (by kernel_rfl) rfl #[.agg #[.slice A0_0 l0_0.length c0_0,.slice A0_1 l0_1.length c0_1,.slice A0_2 l0_2.length c0_2]] rfl (by (try simp only [List.map_toArray,List.map_cons,List.map_nil]);first|done|rfl|(simp only [List.length_drop,List.length_take];rfl)) ?_;(with_reducible refine (impl_IsCracker.calls k _ _ l0_0 _ _ l0_1 _ _ l0_2 false _ ?side1 ?side2 ?side3 ?side4 ?side5 ?side6 A6.out).mono ?_);(case side1 => exact uc (Kd.C_below HR0_0.out HB.out));(case side2 => exact HC0_0.out);(case side3 => exact uc (Kd.C_below HR0_1.out HB.out));(case side4 => exact HC0_1.out);(case side5 => exact uc (Kd.C_below HR0_2.out HB.out));(case side6 => exact HC0_2.out);rintro e w25 ⟨rfl,hb⟩;refine ⟨_,rfl,?_⟩;have n0_:= mk (blk_below (g:= gb222) (o:= .cells #[.slice A0_0 l0_0.length c0_0,.slice A0_1 l0_1.length c0_1,.slice A0_2 l0_2.length c0_2] 30 (0,0)) (ub BK222.out) hb);have n1_:= mk (blk_below (g:= gb223) (o:= .cells #[.slice A1_0 l1_0.length c1_0,.slice A1_1 l1_1.length c1_1] 61 (0,0)) (ub BK223.out) hb);have n2_:= mk (below_step (by repeat (first|(with_reducible first|exact HB.out|apply below_alloc|apply pw_below_drewN|apply below_drew1|refine below_set ?_ GE222.out|refine below_set ?_ GE223.out)|exact HB.out)) hb);clear BK222;clear BK223;clear HB;have BK222:= n0_;have BK223:= n1_;have HB:= n2_;clear n0_ n1_ n2_;(try clear hb);(try clear hb2);(try clear hk);(try clear hi)))
   go_meet
   case rel => exact ⟨_,(true),(by first|rfl|(simp;done)|(simp [*];done)),H',⟨by first|omega|exact Nat.le_refl _⟩,⟨ub BK222.out⟩,⟨ub BK223.out⟩,⟨by repeat (first|(with_reducible first|exact HB.out|apply below_alloc|apply pw_below_drewN|apply below_drew1|refine below_set ?_ GE222.out|refine below_set ?_ GE223.out)|exact HB.out)⟩⟩
 case rest =>
  clear HC3
  try clear c1
  try clear c2
  try clear p2
  try clear c3
  try clear p6
  try clear c7
  try clear c8
  try clear c8b0
  try clear c8b1
  try clear c9
  try clear c13
  try clear c13b0
  try clear c13b1
  try clear c14
  try clear c15
  try clear c18
  try clear c23
  try clear hcz10_0
  try clear hcz10_1
  try clear hcz10_2
  try clear hcz12_0
  try clear hcz12_1
  try clear hcz15_0
  try clear hcz15_1
  try clear hcz15_2
  try clear hcz17_0
  try clear hcz17_1
  try clear hcz19_0
  try clear hcz19_1
  try clear hcz19_2
  try clear hcz21_0
  try clear hcz21_1
  try clear hcz22_0
  try clear hcz22_1
  try clear hcz22_2
  try clear hcz24_0
  try clear hcz24_1
  try clear hcz24_2
  try clear hfz10_0
  try clear hfz10_1
  try clear hfz10_2
  try clear hfz12_0
  try clear hfz12_1
  try clear hfz15_0
  try clear hfz15_1
  try clear hfz15_2
  try clear hfz17_0
  try clear hfz17_1
  try clear hfz19_0
  try clear hfz19_1
  try clear hfz19_2
  try clear hfz21_0
  try clear hfz21_1
  try clear hfz22_0
  try clear hfz22_1
  try clear hfz22_2
  try clear hfz24_0
  try clear hfz24_1
  try clear hfz24_2
  obtain ⟨kq,x33_2,rfl,HA,HJ2,BK222,BK223,HB⟩:= hcut
  cases kq with
 |zero => exact absurd HA.out (by simp [impl_IsPending.j0])
 |succ kj2 =>
   have H:= HA.out
   clear HA
   simp only [impl_IsPending.j0] at H
   by_cases c26 : x33_2 = true
   ·subst c26
    have H1 : (some false) = some r:= by rw [if_pos rfl] at H;exact H
    clear H
    have H:= H1
    clear H1
    obtain rfl:= Option.some.inj H
    go_wp2
    go_ret
    exact ⟨by first|rfl|(simp [errW_none,errW_some] <;> rfl)|(simp [*,errW_none,errW_some] <;> rfl),by repeat (first|(with_reducible first|exact HB.out|apply below_alloc|apply pw_below_drewN|apply below_drew1|refine below_set ?_ GE222.out|refine below_set ?_ GE223.out)|exact HB.out)⟩
   ·replace c26:= Bool.eq_false_iff.mpr c26
    subst c26
    have H1 : (impl_IsPending.l0 kj2 l1_0 (l1_0.length : Int) 0 l0_0 l0_1 l0_2 l1_0 l1_1) = some r:= by rw [if_neg (show ¬ (false = true) by decide)] at H;exact H
    clear H
    have H:= H1
    clear H1
    have H':= mk H
    clear H
    have hnb27:= NB223_222.out
    have hnc27:= NB222_223.out
    have hcz28_0 : wc.cell? ⟨gb223,0,none⟩ = some (.slice A1_0 l1_0.length c1_0):= (blk_cell BK223.out 0).trans rfl
    have hcz28_1 : wc.cell? ⟨gb223,1,none⟩ = some (.slice A1_1 l1_1.length c1_1):= (blk_cell BK223.out 1).trans rfl
    have hfz28_0:= blk_frozen BK223.out 0
    have hfz28_1:= blk_frozen BK223.out 1
    go_wp2
    go_loopg [37] kj2 (fun kq v37 w' => ∃ (x37_2 : Int),v37 = .int .i64 x37_2 ∧ Aside0 (impl_IsPending.l0 kq l1_0 (l1_0.length : Int) x37_2 l0_0 l0_1 l0_2 l1_0 l1_1 = some r) ∧ Aside0 (kq ≤ kj2) ∧ Aside0 (w'.heap[gb222]? = some (.cells #[(.slice A0_0 l0_0.length c0_0),(.slice A0_1 l0_1.length c0_1),(.slice A0_2 l0_2.length c0_2)] 30 (0,0))) ∧ Aside0 (w'.heap[gb223]? = some (.cells #[(.slice A1_0 l1_0.length c1_0),(.slice A1_1 l1_1.length c1_1)] 61 (0,0))) ∧ Aside0 (Below w.heap.size w w'))
    case atStart => exact ⟨(0),(by first|rfl|(simp;done)|(simp [*];done)),H',⟨Nat.le_refl _⟩,⟨ub BK222.out⟩,⟨ub BK223.out⟩,⟨by repeat (first|(with_reducible first|exact HB.out|apply below_alloc|apply pw_below_drewN|apply below_drew1|refine below_set ?_ GE222.out|refine below_set ?_ GE223.out)|exact HB.out)⟩⟩
    case round =>
     clear H'
     try clear c1
     try clear c2
     try clear p2
     try clear c3
     try clear p6
     try clear c7
     try clear c8
     try clear c8b0
     try clear c8b1
     try clear c9
     try clear c13
     try clear c13b0
     try clear c13b1
     try clear c14
     try clear c15
     try clear c18
     try clear c23
     try clear c26
     try clear c27
     try clear hcz10_0
     try clear hcz10_1
     try clear hcz10_2
     try clear hcz12_0
     try clear hcz12_1
     try clear hcz15_0
     try clear hcz15_1
     try clear hcz15_2
     try clear hcz17_0
     try clear hcz17_1
     try clear hcz19_0
     try clear hcz19_1
     try clear hcz19_2
     try clear hcz21_0
     try clear hcz21_1
     try clear hcz22_0
     try clear hcz22_1
     try clear hcz22_2
     try clear hcz24_0
     try clear hcz24_1
     try clear hcz24_2
     try clear hcz28_0
     try clear hcz28_1
     try clear hfz10_0
     try clear hfz10_1
     try clear hfz10_2
     try clear hfz12_0
     try clear hfz12_1
     try clear hfz15_0
     try clear hfz15_1
     try clear hfz15_2
     try clear hfz17_0
     try clear hfz17_1
     try clear hfz19_0
     try clear hfz19_1
     try clear hfz19_2
     try clear hfz21_0
     try clear hfz21_1
     try clear hfz22_0
     try clear hfz22_1
     try clear hfz22_2
     try clear hfz24_0
     try clear hfz24_1
     try clear hfz24_2
     try clear hfz28_0
     try clear hfz28_1
     try clear p2
     try clear p6
     obtain ⟨x37_2,rfl,HA,HK2,BK222,BK223,HB⟩:= hrel
     cases gk with
    |zero => exact absurd HA.out (by simp [impl_IsPending.l0])
    |succ k2 =>
      have H:= HA.out
      clear HA
      simp only [impl_IsPending.l0] at H
      by_cases c29 : x37_2 < (l1_0.length : Int)
      ·rw [if_pos c29] at H
       have c29b0 : decide (x37_2 < (l1_0.length : Int)) = true:= decide_eq_true c29
       clear c29
       by_cases c30 : 0 ≤ x37_2
       ·rw [if_pos c30] at H
        have c30b0 : decide (0 ≤ x37_2) = true:= decide_eq_true c30
        clear c30
        by_cases c31 : x37_2 < (l1_0.length : Int)
        ·rw [if_pos c31] at H
         have c31b0 : decide (x37_2 < (l1_0.length : Int)) = true:= decide_eq_true c31
         clear c31
         replace H:= Option.bind_eq_some_iff.mp H
         obtain ⟨t227,A320,H⟩:= H
         replace H : (if t227 = true then ((impl_FindRow.f k2 l0_0 l0_1 l0_2 ((rd_T96 l1_0 x37_2).f1)).bind fun t228 => (if t228 ≥ 0 then (some false) else (if x37_2 ≤ (l1_0.length : Int) then ((impl_Item.f (l1_0.take (x37_2 : Int).toNat) ((rd_T96 l1_0 x37_2).f1)).bind fun t233 => (if t233 = true then (some false) else (impl_IsPending.l0 k2 l1_0 (l1_0.length : Int) (wrap64 (x37_2 + 1)) l0_0 l0_1 l0_2 l1_0 l1_1))) else (none)))) else (some false)) = some r:= H
         have A32:= mk A320
         clear A320
         by_cases c33 : t227 = true
         ·subst c33
          have H1 : ((impl_FindRow.f k2 l0_0 l0_1 l0_2 ((rd_T96 l1_0 x37_2).f1)).bind fun t228 => (if t228 ≥ 0 then (some false) else (if x37_2 ≤ (l1_0.length : Int) then ((impl_Item.f (l1_0.take (x37_2 : Int).toNat) ((rd_T96 l1_0 x37_2).f1)).bind fun t233 => (if t233 = true then (some false) else (impl_IsPending.l0 k2 l1_0 (l1_0.length : Int) (wrap64 (x37_2 + 1)) l0_0 l0_1 l0_2 l1_0 l1_1))) else (none)))) = some r:= by rw [if_pos rfl] at H;exact H
          clear H
          have H:= H1
          clear H1
          replace H:= Option.bind_eq_some_iff.mp H
          obtain ⟨t228,A340,H⟩:= H
          replace H : (if t228 ≥ 0 then (some false) else (if x37_2 ≤ (l1_0.length : Int) then ((impl_Item.f (l1_0.take (x37_2 : Int).toNat) ((rd_T96 l1_0 x37_2).f1)).bind fun t233 => (if t233 = true then (some false) else (impl_IsPending.l0 k2 l1_0 (l1_0.length : Int) (wrap64 (x37_2 + 1)) l0_0 l0_1 l0_2 l1_0 l1_1))) else (none))) = some r:= H
          have A34:= mk A340
          clear A340
          by_cases c35 : t228 ≥ 0
          ·rw [if_pos c35] at H
           have c35b0 : decide (0 ≤ t228) = true:= decide_eq_true c35
           clear c35
           obtain rfl:= Option.some.inj H
           have p225 : 0 ≤ (x37_2 : Int):= of_decide_eq_true (by first|(with_reducible assumption)|assumption)
           have q225 : x37_2 < (l1_0.length : Int):= of_decide_eq_true (by first|(with_reducible assumption)|assumption)
           obtain ⟨ad225,e225,hx225_0,hx225_1⟩:= at_T96 HR1_0.out x37_2 p225 q225
           cases e225
           replace hx225_0:= (HB.out.cell (World.block_lt_of_cell? w _ hx225_0)).trans hx225_0
           replace hx225_1:= (HB.out.cell (World.block_lt_of_cell? w _ hx225_1)).trans hx225_1
           replace p225:= eq_true p225
           replace q225:= eq_true q225
           go_wp2_with (first|((with_reducible refine gate_dst (N:= 6) rfl ?_);(try (refine gate_guard (by rfl) ?_;dsimp only));refine box_event ?hg (N:= 6) ?hd (cs:= #[.int .i64 0,.int .i64 0]) (t:= 96) ?hr ?_;(case hd => rfl);(case hg => rfl);(case hr => first|(go_simp;done)|(go_simp;rfl));intro gb226 hg w36 hbox hb;have n0_:= mk (blk_below (g:= gb222) (o:= .cells #[.slice A0_0 l0_0.length c0_0,.slice A0_1 l0_1.length c0_1,.slice A0_2 l0_2.length c0_2] 30 (0,0)) (ub BK222.out) hb);have n1_:= mk (blk_below (g:= gb223) (o:= .cells #[.slice (some ad225) l1_0.length c1_0,.slice A1_1 l1_1.length c1_1] 61 (0,0)) (ub BK223.out) hb);have n2_:= mk (below_step (by repeat (first|(with_reducible first|exact HB.out|apply below_alloc|apply pw_below_drewN|apply below_drew1|refine below_set ?_ GE222.out|refine below_set ?_ GE223.out)|exact HB.out)) hb);have n3_:= mk (hbox);have n4_:= mk ((by rw [hg];exact (below_size (by repeat (first|(with_reducible first|exact HB.out|apply below_alloc|apply pw_below_drewN|apply below_drew1|refine below_set ?_ GE222.out|refine below_set ?_ GE223.out)|exact HB.out))) : w.heap.size ≤ gb226));have n5_:= mk ((by rw [hg];exact (below_size (by repeat (first|(with_reducible first|exact HB.out|apply below_alloc|apply pw_below_drewN|apply below_drew1|refine below_set ?_ GE222.out|refine below_set ?_ GE223.out)|exact HB.out))) : w.heap.size ≤ gb226));have n6_:= mk ((by rw [hg];exact Nat.ne_of_lt (blk_lt (g:= gb222) (o:= .cells #[.slice A0_0 l0_0.length c0_0,.slice A0_1 l0_1.length c0_1,.slice A0_2 l0_2.length c0_2] 30 (0,0)) (ub BK222.out)) : gb222 ≠ gb226));have n7_:= mk ((by rw [hg];exact Nat.ne_of_gt (blk_lt (g:= gb222) (o:= .cells #[.slice A0_0 l0_0.length c0_0,.slice A0_1 l0_1.length c0_1,.slice A0_2 l0_2.length c0_2] 30 (0,0)) (ub BK222.out)) : gb226 ≠ gb222));have n8_:= mk ((by rw [hg];exact Nat.ne_of_lt (blk_lt (g:= gb223) (o:= .cells #[.slice (some ad225) l1_0.length c1_0,.slice A1_1 l1_1.length c1_1] 61 (0,0)) (ub BK223.out)) : gb223 ≠ gb226));have n9_:= mk ((by rw [hg];exact Nat.ne_of_gt (blk_lt (g:= gb223) (o:= .cells #[.slice (some ad225) l1_0.length c1_0,.slice A1_1 l1_1.length c1_1] 61 (0,0)) (ub BK223.out)) : gb226 ≠ gb223));clear BK222;clear BK223;clear HB;have BK222:= n0_;have BK223:= n1_;have HB:= n2_;have BK226:= n3_;have GW226:= n4_;have GE226:= n5_;have NB222_226:= n6_;have NB226_222:= n7_;have NB223_226:= n8_;have NB226_223:= n9_;clear n0_ n1_ n2_ n3_ n4_ n5_ n6_ n7_ n8_ n9_;clear hb hbox hg;have hnb37:= NB226_222.out;have hnc37:= NB222_226.out;have hnb38:= NB226_223.out;have hnc38:= NB223_226.out;have hcz39_0 : w36.cell? ⟨gb226,0,none⟩ = some (.int .i64 0):= (blk_cell BK226.out 0).trans rfl;have hcz39_1 : w36.cell? ⟨gb226,1,none⟩ = some (.int .i64 0):= (blk_cell BK226.out 1).trans rfl;have hfz39_0:= blk_frozen BK226.out 0;have hfz39_1:= blk_frozen BK226.out 1)|((with_reducible refine gate_callee (f:= 75) rfl ?_);refine goesL_ (some 43) rfl rfl Try.func75 (by kernel_rfl) rfl #[.agg #[.int .i64 ((rd_T96 l1_0 x37_2).f0),.int .i64 ((rd_T96 l1_0 x37_2).f1)]] rfl (by (try simp only [List.map_toArray,List.map_cons,List.map_nil]);first|done|rfl|(simp only [List.length_drop,List.length_take];rfl)) ?_;(with_reducible refine (impl_IsItem.calls ((rd_T96 l1_0 x37_2).f0) ((rd_T96 l1_0 x37_2).f1) true _ A32.out).mono ?_);rintro e w40 ⟨rfl,hb⟩;refine ⟨_,rfl,?_⟩;have n0_:= mk (blk_below (g:= gb222) (o:= .cells #[.slice A0_0 l0_0.length c0_0,.slice A0_1 l0_1.length c0_1,.slice A0_2 l0_2.length c0_2] 30 (0,0)) (by (with_reducible repeat (first|refine blk_drewN ?_ _|refine blk_drew ?_|refine blk_alloc ?_ _));refine blk_far ?_ NB222_226.out _;(with_reducible repeat (first|refine blk_drewN ?_ _|refine blk_drew ?_|refine blk_alloc ?_ _));refine blk_far ?_ NB222_226.out _;(with_reducible repeat (first|refine blk_drewN ?_ _|refine blk_drew ?_|refine blk_alloc ?_ _));exact BK222.out) hb);have n1_:= mk (blk_below (g:= gb223) (o:= .cells #[.slice (some ad225) l1_0.length c1_0,.slice A1_1 l1_1.length c1_1] 61 (0,0)) (by (with_reducible repeat (first|refine blk_drewN ?_ _|refine blk_drew ?_|refine blk_alloc ?_ _));refine blk_far ?_ NB223_226.out _;(with_reducible repeat (first|refine blk_drewN ?_ _|refine blk_drew ?_|refine blk_alloc ?_ _));refine blk_far ?_ NB223_226.out _;(with_reducible repeat (first|refine blk_drewN ?_ _|refine blk_drew ?_|refine blk_alloc ?_ _));exact BK223.out) hb);have n2_:= mk (blk_below (g:= gb226) (o:= .cells #[.int .i64 ((rd_T96 l1_0 x37_2).f0),.int .i64 ((rd_T96 l1_0 x37_2).f1)] 96 (0,0)) (by (with_reducible repeat (first|refine blk_drewN ?_ _|refine blk_drew ?_|refine blk_alloc ?_ _));refine blk_put (cs:= #[.int .i64 ((rd_T96 l1_0 x37_2).f0),.int .i64 0]) ?_ 1 _ rfl;(with_reducible repeat (first|refine blk_drewN ?_ _|refine blk_drew ?_|refine blk_alloc ?_ _));refine blk_put (cs:= #[.int .i64 0,.int .i64 0]) ?_ 0 _ rfl;(with_reducible repeat (first|refine blk_drewN ?_ _|refine blk_drew ?_|refine blk_alloc ?_ _));exact BK226.out) hb);have n3_:= mk (below_step (by repeat (first|(with_reducible first|exact HB.out|apply below_alloc|apply pw_below_drewN|apply below_drew1|refine below_set ?_ GE222.out|refine below_set ?_ GE223.out|refine below_set ?_ GE226.out)|exact HB.out)) hb);clear BK222;clear BK223;clear BK226;clear HB;have BK222:= n0_;have BK223:= n1_;have BK226:= n2_;have HB:= n3_;clear n0_ n1_ n2_ n3_;(try clear hb);(try clear hb2);(try clear hk);(try clear hi);have hnb41:= NB222_223.out;have hnc41:= NB223_222.out;have hcz42_0 : w40.cell? ⟨gb222,0,none⟩ = some (.slice A0_0 l0_0.length c0_0):= (blk_cell BK222.out 0).trans rfl;have hcz42_1 : w40.cell? ⟨gb222,1,none⟩ = some (.slice A0_1 l0_1.length c0_1):= (blk_cell BK222.out 1).trans rfl;have hcz42_2 : w40.cell? ⟨gb222,2,none⟩ = some (.slice A0_2 l0_2.length c0_2):= (blk_cell BK222.out 2).trans rfl;have hfz42_0:= blk_frozen BK222.out 0;have hfz42_1:= blk_frozen BK222.out 1;have hfz42_2:= blk_frozen BK222.out 2;have hcz43_0 : w40.cell? ⟨gb226,0,none⟩ = some (.int .i64 ((rd_T96 l1_0 x37_2).f0)):= (blk_cell BK226.out 0).trans rfl;have hcz43_1 : w40.cell? ⟨gb226,1,none⟩ = some (.int .i64 ((rd_T96 l1_0 x37_2).f1)):= (blk_cell BK226.out 1).trans rfl;have hfz43_0:= blk_frozen BK226.out 0;have hfz43_1:= blk_frozen BK226.out 1)|(go_at_call 76;(with_reducible refine (impl_FindRow.calls k2 _ _ l0_0 _ _ l0_1 _ _ l0_2 ((rd_T96 l1_0 x37_2).f1) t228 _ ?side1 ?side2 ?side3 ?side4 ?side5 ?side6 A34.out).mono ?_);(case side1 => exact uc (Kd.C_below HR0_0.out HB.out));(case side2 => exact HC0_0.out);(case side3 => exact uc (Kd.C_below HR0_1.out HB.out));(case side4 => exact HC0_1.out);(case side5 => exact uc (Kd.C_below HR0_2.out HB.out));(case side6 => exact HC0_2.out);rintro e w44 ⟨rfl,hb⟩;have n0_:= mk (blk_below (g:= gb222) (o:= .cells #[.slice A0_0 l0_0.length c0_0,.slice A0_1 l0_1.length c0_1,.slice A0_2 l0_2.length c0_2] 30 (0,0)) (ub BK222.out) hb);have n1_:= mk (blk_below (g:= gb223) (o:= .cells #[.slice (some ad225) l1_0.length c1_0,.slice A1_1 l1_1.length c1_1] 61 (0,0)) (ub BK223.out) hb);have n2_:= mk (blk_below (g:= gb226) (o:= .cells #[.int .i64 ((rd_T96 l1_0 x37_2).f0),.int .i64 ((rd_T96 l1_0 x37_2).f1)] 96 (0,0)) (ub BK226.out) hb);have n3_:= mk (below_step (by repeat (first|(with_reducible first|exact HB.out|apply below_alloc|apply pw_below_drewN|apply below_drew1|refine below_set ?_ GE222.out|refine below_set ?_ GE223.out|refine below_set ?_ GE226.out)|exact HB.out)) hb);clear BK222;clear BK223;clear BK226;clear HB;have BK222:= n0_;have BK223:= n1_;have BK226:= n2_;have HB:= n3_;clear n0_ n1_ n2_ n3_;(try clear hb);(try clear hb2);(try clear hk);(try clear hi)))
           go_ret
           exact ⟨by first|rfl|(simp [errW_none,errW_some] <;> rfl)|(simp [*,errW_none,errW_some] <;> rfl),by repeat (first|(with_reducible first|exact HB.out|apply below_alloc|apply pw_below_drewN|apply below_drew1|refine below_set ?_ GE222.out|refine below_set ?_ GE223.out|refine below_set ?_ GE226.out)|exact HB.out)⟩
          ·rw [if_neg c35] at H
           have c35b0 : decide (0 ≤ t228) = false:= decide_eq_false c35
           clear c35
           have c45b0:= eq_true (of_decide_eq_true (by first|(with_reducible assumption)|assumption) : 0 ≤ x37_2)
           by_cases c46 : x37_2 ≤ (l1_0.length : Int)
           ·rw [if_pos c46] at H
            have c46b0:= eq_true c46
            have c46b1 : decide (x37_2 ≤ (l1_0.length : Int)) = true:= decide_eq_true c46
            clear c46
            obtain ⟨y229,hy229⟩ : ∃ y_ : List (S96),y_ = (l1_0.take (x37_2 : Int).toNat):= ⟨_,rfl⟩
            replace H : ((impl_Item.f y229 ((rd_T96 l1_0 x37_2).f1)).bind fun t233 => (if t233 = true then (some false) else (impl_IsPending.l0 k2 l1_0 (l1_0.length : Int) (wrap64 (x37_2 + 1)) l0_0 l0_1 l0_2 l1_0 l1_1))) = some r:= by first|(rw [hy229];with_reducible exact H)|(have H2_:= (Option.bind_some _ _).symm.trans H;rw [hy229];with_reducible exact H2_)|(have H2_:= (Option.bind_some _ _).symm.trans H;with_reducible exact H2_)|with_reducible exact H|(rw [hy229];exact H)|exact H
            have Ny229:= mk hy229
            clear hy229
            replace H:= Option.bind_eq_some_iff.mp H
            obtain ⟨t233,A470,H⟩:= H
            replace H : (if t233 = true then (some false) else (impl_IsPending.l0 k2 l1_0 (l1_0.length : Int) (wrap64 (x37_2 + 1)) l0_0 l0_1 l0_2 l1_0 l1_1)) = some r:= H
            have A47:= mk A470
            clear A470
            by_cases c48 : t233 = true
            ·subst c48
             have H1 : (some false) = some r:= by rw [if_pos rfl] at H;exact H
             clear H
             have H:= H1
             clear H1
             obtain rfl:= Option.some.inj H
             have p225 : 0 ≤ (x37_2 : Int):= of_decide_eq_true (by first|(with_reducible assumption)|assumption)
             have q225 : x37_2 < (l1_0.length : Int):= of_decide_eq_true (by first|(with_reducible assumption)|assumption)
             obtain ⟨ad225,e225,hx225_0,hx225_1⟩:= at_T96 HR1_0.out x37_2 p225 q225
             cases e225
             replace hx225_0:= (HB.out.cell (World.block_lt_of_cell? w _ hx225_0)).trans hx225_0
             replace hx225_1:= (HB.out.cell (World.block_lt_of_cell? w _ hx225_1)).trans hx225_1
             replace p225:= eq_true p225
             replace q225:= eq_true q225
             go_wp2_with (first|((with_reducible refine gate_dst (N:= 6) rfl ?_);(try (refine gate_guard (by rfl) ?_;dsimp only));refine box_event ?hg (N:= 6) ?hd (cs:= #[.int .i64 0,.int .i64 0]) (t:= 96) ?hr ?_;(case hd => rfl);(case hg => rfl);(case hr => first|(go_simp;done)|(go_simp;rfl));intro gb226 hg w49 hbox hb;have n0_:= mk (blk_below (g:= gb222) (o:= .cells #[.slice A0_0 l0_0.length c0_0,.slice A0_1 l0_1.length c0_1,.slice A0_2 l0_2.length c0_2] 30 (0,0)) (ub BK222.out) hb);have n1_:= mk (blk_below (g:= gb223) (o:= .cells #[.slice (some ad225) l1_0.length c1_0,.slice A1_1 l1_1.length c1_1] 61 (0,0)) (ub BK223.out) hb);have n2_:= mk (below_step (by repeat (first|(with_reducible first|exact HB.out|apply below_alloc|apply pw_below_drewN|apply below_drew1|refine below_set ?_ GE222.out|refine below_set ?_ GE223.out)|exact HB.out)) hb);have n3_:= mk (hbox);have n4_:= mk ((by rw [hg];exact (below_size (by repeat (first|(with_reducible first|exact HB.out|apply below_alloc|apply pw_below_drewN|apply below_drew1|refine below_set ?_ GE222.out|refine below_set ?_ GE223.out)|exact HB.out))) : w.heap.size ≤ gb226));have n5_:= mk ((by rw [hg];exact (below_size (by repeat (first|(with_reducible first|exact HB.out|apply below_alloc|apply pw_below_drewN|apply below_drew1|refine below_set ?_ GE222.out|refine below_set ?_ GE223.out)|exact HB.out))) : w.heap.size ≤ gb226));have n6_:= mk ((by rw [hg];exact Nat.ne_of_lt (blk_lt (g:= gb222) (o:= .cells #[.slice A0_0 l0_0.length c0_0,.slice A0_1 l0_1.length c0_1,.slice A0_2 l0_2.length c0_2] 30 (0,0)) (ub BK222.out)) : gb222 ≠ gb226));have n7_:= mk ((by rw [hg];exact Nat.ne_of_gt (blk_lt (g:= gb222) (o:= .cells #[.slice A0_0 l0_0.length c0_0,.slice A0_1 l0_1.length c0_1,.slice A0_2 l0_2.length c0_2] 30 (0,0)) (ub BK222.out)) : gb226 ≠ gb222));have n8_:= mk ((by rw [hg];exact Nat.ne_of_lt (blk_lt (g:= gb223) (o:= .cells #[.slice (some ad225) l1_0.length c1_0,.slice A1_1 l1_1.length c1_1] 61 (0,0)) (ub BK223.out)) : gb223 ≠ gb226));have n9_:= mk ((by rw [hg];exact Nat.ne_of_gt (blk_lt (g:= gb223) (o:= .cells #[.slice (some ad225) l1_0.length c1_0,.slice A1_1 l1_1.length c1_1] 61 (0,0)) (ub BK223.out)) : gb226 ≠ gb223));clear BK222;clear BK223;clear HB;have BK222:= n0_;have BK223:= n1_;have HB:= n2_;have BK226:= n3_;have GW226:= n4_;have GE226:= n5_;have NB222_226:= n6_;have NB226_222:= n7_;have NB223_226:= n8_;have NB226_223:= n9_;clear n0_ n1_ n2_ n3_ n4_ n5_ n6_ n7_ n8_ n9_;clear hb hbox hg;have hnb50:= NB226_222.out;have hnc50:= NB222_226.out;have hnb51:= NB226_223.out;have hnc51:= NB223_226.out;have hcz52_0 : w49.cell? ⟨gb226,0,none⟩ = some (.int .i64 0):= (blk_cell BK226.out 0).trans rfl;have hcz52_1 : w49.cell? ⟨gb226,1,none⟩ = some (.int .i64 0):= (blk_cell BK226.out 1).trans rfl;have hfz52_0:= blk_frozen BK226.out 0;have hfz52_1:= blk_frozen BK226.out 1)|((with_reducible refine gate_callee (f:= 75) rfl ?_);refine goesL_ (some 43) rfl rfl Try.func75 (by kernel_rfl) rfl #[.agg #[.int .i64 ((rd_T96 l1_0 x37_2).f0),.int .i64 ((rd_T96 l1_0 x37_2).f1)]] rfl (by (try simp only [List.map_toArray,List.map_cons,List.map_nil]);first|done|rfl|(simp only [List.length_drop,List.length_take];rfl)) ?_;(with_reducible refine (impl_IsItem.calls ((rd_T96 l1_0 x37_2).f0) ((rd_T96 l1_0 x37_2).f1) true _ A32.out).mono ?_);rintro e w53 ⟨rfl,hb⟩;refine ⟨_,rfl,?_⟩;have n0_:= mk (blk_below (g:= gb222) (o:= .cells #[.slice A0_0 l0_0.length c0_0,.slice A0_1 l0_1.length c0_1,.slice A0_2 l0_2.length c0_2] 30 (0,0)) (by (with_reducible repeat (first|refine blk_drewN ?_ _|refine blk_drew ?_|refine blk_alloc ?_ _));refine blk_far ?_ NB222_226.out _;(with_reducible repeat (first|refine blk_drewN ?_ _|refine blk_drew ?_|refine blk_alloc ?_ _));refine blk_far ?_ NB222_226.out _;(with_reducible repeat (first|refine blk_drewN ?_ _|refine blk_drew ?_|refine blk_alloc ?_ _));exact BK222.out) hb);have n1_:= mk (blk_below (g:= gb223) (o:= .cells #[.slice (some ad225) l1_0.length c1_0,.slice A1_1 l1_1.length c1_1] 61 (0,0)) (by (with_reducible repeat (first|refine blk_drewN ?_ _|refine blk_drew ?_|refine blk_alloc ?_ _));refine blk_far ?_ NB223_226.out _;(with_reducible repeat (first|refine blk_drewN ?_ _|refine blk_drew ?_|refine blk_alloc ?_ _));refine blk_far ?_ NB223_226.out _;(with_reducible repeat (first|refine blk_drewN ?_ _|refine blk_drew ?_|refine blk_alloc ?_ _));exact BK223.out) hb);have n2_:= mk (blk_below (g:= gb226) (o:= .cells #[.int .i64 ((rd_T96 l1_0 x37_2).f0),.int .i64 ((rd_T96 l1_0 x37_2).f1)] 96 (0,0)) (by (with_reducible repeat (first|refine blk_drewN ?_ _|refine blk_drew ?_|refine blk_alloc ?_ _));refine blk_put (cs:= #[.int .i64 ((rd_T96 l1_0 x37_2).f0),.int .i64 0]) ?_ 1 _ rfl;(with_reducible repeat (first|refine blk_drewN ?_ _|refine blk_drew ?_|refine blk_alloc ?_ _));refine blk_put (cs:= #[.int .i64 0,.int .i64 0]) ?_ 0 _ rfl;(with_reducible repeat (first|refine blk_drewN ?_ _|refine blk_drew ?_|refine blk_alloc ?_ _));exact BK226.out) hb);have n3_:= mk (below_step (by repeat (first|(with_reducible first|exact HB.out|apply below_alloc|apply pw_below_drewN|apply below_drew1|refine below_set ?_ GE222.out|refine below_set ?_ GE223.out|refine below_set ?_ GE226.out)|exact HB.out)) hb);clear BK222;clear BK223;clear BK226;clear HB;have BK222:= n0_;have BK223:= n1_;have BK226:= n2_;have HB:= n3_;clear n0_ n1_ n2_ n3_;(try clear hb);(try clear hb2);(try clear hk);(try clear hi);have hnb54:= NB222_223.out;have hnc54:= NB223_222.out;have hcz55_0 : w53.cell? ⟨gb222,0,none⟩ = some (.slice A0_0 l0_0.length c0_0):= (blk_cell BK222.out 0).trans rfl;have hcz55_1 : w53.cell? ⟨gb222,1,none⟩ = some (.slice A0_1 l0_1.length c0_1):= (blk_cell BK222.out 1).trans rfl;have hcz55_2 : w53.cell? ⟨gb222,2,none⟩ = some (.slice A0_2 l0_2.length c0_2):= (blk_cell BK222.out 2).trans rfl;have hfz55_0:= blk_frozen BK222.out 0;have hfz55_1:= blk_frozen BK222.out 1;have hfz55_2:= blk_frozen BK222.out 2;have hcz56_0 : w53.cell? ⟨gb226,0,none⟩ = some (.int .i64 ((rd_T96 l1_0 x37_2).f0)):= (blk_cell BK226.out 0).trans rfl;have hcz56_1 : w53.cell? ⟨gb226,1,none⟩ = some (.int .i64 ((rd_T96 l1_0 x37_2).f1)):= (blk_cell BK226.out 1).trans rfl;have hfz56_0:= blk_frozen BK226.out 0;have hfz56_1:= blk_frozen BK226.out 1)|(go_at_call 76;(with_reducible refine (impl_FindRow.calls k2 _ _ l0_0 _ _ l0_1 _ _ l0_2 ((rd_T96 l1_0 x37_2).f1) t228 _ ?side1 ?side2 ?side3 ?side4 ?side5 ?side6 A34.out).mono ?_);(case side1 => exact uc (Kd.C_below HR0_0.out HB.out));(case side2 => exact HC0_0.out);(case side3 => exact uc (Kd.C_below HR0_1.out HB.out));(case side4 => exact HC0_1.out);(case side5 => exact uc (Kd.C_below HR0_2.out HB.out));(case side6 => exact HC0_2.out);rintro e w57 ⟨rfl,hb⟩;have n0_:= mk (blk_below (g:= gb222) (o:= .cells #[.slice A0_0 l0_0.length c0_0,.slice A0_1 l0_1.length c0_1,.slice A0_2 l0_2.length c0_2] 30 (0,0)) (ub BK222.out) hb);have n1_:= mk (blk_below (g:= gb223) (o:= .cells #[.slice (some ad225) l1_0.length c1_0,.slice A1_1 l1_1.length c1_1] 61 (0,0)) (ub BK223.out) hb);have n2_:= mk (blk_below (g:= gb226) (o:= .cells #[.int .i64 ((rd_T96 l1_0 x37_2).f0),.int .i64 ((rd_T96 l1_0 x37_2).f1)] 96 (0,0)) (ub BK226.out) hb);have n3_:= mk (below_step (by repeat (first|(with_reducible first|exact HB.out|apply below_alloc|apply pw_below_drewN|apply below_drew1|refine below_set ?_ GE222.out|refine below_set ?_ GE223.out|refine below_set ?_ GE226.out)|exact HB.out)) hb);clear BK222;clear BK223;clear BK226;clear HB;have BK222:= n0_;have BK223:= n1_;have BK226:= n2_;have HB:= n3_;clear n0_ n1_ n2_ n3_;(try clear hb);(try clear hb2);(try clear hk);(try clear hi);have hcz58_0 : w57.cell? ⟨gb223,0,none⟩ = some (.slice (some ad225) l1_0.length c1_0):= (blk_cell BK223.out 0).trans rfl;have hcz58_1 : w57.cell? ⟨gb223,1,none⟩ = some (.slice A1_1 l1_1.length c1_1):= (blk_cell BK223.out 1).trans rfl;have hfz58_0:= blk_frozen BK223.out 0;have hfz58_1:= blk_frozen BK223.out 1;have q59 : (x37_2 : Int) ≤ ((l1_0.length : Int) : Int):= of_decide_eq_true (by first|(with_reducible assumption)|assumption);obtain ⟨i059,hi059,_,hsz59,_⟩:= info_parts info96;have hroom59 : l1_0.length ≤ c1_0:= HC1_0.out;have hC59 : Kd.C k96 _ (some ad225) l1_0.length l1_0:= HR1_0.out;have hcut59:= cut_to (P:= Try.prog) 59 96 .i64 Try.underlying59 hi059 (some ad225) l1_0.length c1_0 x37_2 (of_decide_eq_true (by first|(with_reducible assumption)|assumption)) q59 hroom59;have hr59:= Kd.C_take (m:= (x37_2 : Int).toNat) hC59 (by omega);have hy59 : y229.length = (x37_2 : Int).toNat:= (by rw [Ny229.out,List.length_take];omega);rw [← Ny229.out] at hr59;rw [← hy59] at hcut59;have HR232:= mk hr59;have HC232:= mk (show y229.length ≤ c1_0 from by omega);clear hr59 hC59 hroom59 hi059 hsz59;have KY59:= mk hy59;clear hy59;replace q59:= eq_true q59)|(go_at_call 77;(with_reducible refine (impl_Item.callsF _ _ y229 ((rd_T96 l1_0 x37_2).f1) true _ _ ?side1 ?side2 A47.out).mono ?_);(case side1 => exact uc (Kd.C_below HR232.out HB.out));(case side2 => exact (blk_cell BK226.out 1).trans rfl);rintro e w60 ⟨rfl,hb⟩;have n0_:= mk (blk_below (g:= gb222) (o:= .cells #[.slice A0_0 l0_0.length c0_0,.slice A0_1 l0_1.length c0_1,.slice A0_2 l0_2.length c0_2] 30 (0,0)) (ub BK222.out) hb);have n1_:= mk (blk_below (g:= gb223) (o:= .cells #[.slice (some ad225) l1_0.length c1_0,.slice A1_1 l1_1.length c1_1] 61 (0,0)) (ub BK223.out) hb);have n2_:= mk (blk_below (g:= gb226) (o:= .cells #[.int .i64 ((rd_T96 l1_0 x37_2).f0),.int .i64 ((rd_T96 l1_0 x37_2).f1)] 96 (0,0)) (ub BK226.out) hb);have n3_:= mk (below_step (by repeat (first|(with_reducible first|exact HB.out|apply below_alloc|apply pw_below_drewN|apply below_drew1|refine below_set ?_ GE222.out|refine below_set ?_ GE223.out|refine below_set ?_ GE226.out)|exact HB.out)) hb);clear BK222;clear BK223;clear BK226;clear HB;have BK222:= n0_;have BK223:= n1_;have BK226:= n2_;have HB:= n3_;clear n0_ n1_ n2_ n3_;(try clear hb);(try clear hb2);(try clear hk);(try clear hi)))
             go_ret
             exact ⟨by first|rfl|(simp [errW_none,errW_some] <;> rfl)|(simp [*,errW_none,errW_some] <;> rfl),by repeat (first|(with_reducible first|exact HB.out|apply below_alloc|apply pw_below_drewN|apply below_drew1|refine below_set ?_ GE222.out|refine below_set ?_ GE223.out|refine below_set ?_ GE226.out)|exact HB.out)⟩
            ·replace c48:= Bool.eq_false_iff.mpr c48
             subst c48
             have H1 : (impl_IsPending.l0 k2 l1_0 (l1_0.length : Int) (wrap64 (x37_2 + 1)) l0_0 l0_1 l0_2 l1_0 l1_1) = some r:= by rw [if_neg (show ¬ (false = true) by decide)] at H;exact H
             clear H
             have H:= H1
             clear H1
             have H':= mk H
             clear H
             have p225 : 0 ≤ (x37_2 : Int):= of_decide_eq_true (by first|(with_reducible assumption)|assumption)
             have q225 : x37_2 < (l1_0.length : Int):= of_decide_eq_true (by first|(with_reducible assumption)|assumption)
             obtain ⟨ad225,e225,hx225_0,hx225_1⟩:= at_T96 HR1_0.out x37_2 p225 q225
             cases e225
             replace hx225_0:= (HB.out.cell (World.block_lt_of_cell? w _ hx225_0)).trans hx225_0
             replace hx225_1:= (HB.out.cell (World.block_lt_of_cell? w _ hx225_1)).trans hx225_1
             replace p225:= eq_true p225
             replace q225:= eq_true q225
             go_wp2_with (first|((with_reducible refine gate_dst (N:= 6) rfl ?_);(try (refine gate_guard (by rfl) ?_;dsimp only));refine box_event ?hg (N:= 6) ?hd (cs:= #[.int .i64 0,.int .i64 0]) (t:= 96) ?hr ?_;(case hd => rfl);(case hg => rfl);(case hr => first|(go_simp;done)|(go_simp;rfl));intro gb226 hg w61 hbox hb;have n0_:= mk (blk_below (g:= gb222) (o:= .cells #[.slice A0_0 l0_0.length c0_0,.slice A0_1 l0_1.length c0_1,.slice A0_2 l0_2.length c0_2] 30 (0,0)) (ub BK222.out) hb);have n1_:= mk (blk_below (g:= gb223) (o:= .cells #[.slice (some ad225) l1_0.length c1_0,.slice A1_1 l1_1.length c1_1] 61 (0,0)) (ub BK223.out) hb);have n2_:= mk (below_step (by repeat (first|(with_reducible first|exact HB.out|apply below_alloc|apply pw_below_drewN|apply below_drew1|refine below_set ?_ GE222.out|refine below_set ?_ GE223.out)|exact HB.out)) hb);have n3_:= mk (hbox);have n4_:= mk ((by rw [hg];exact (below_size (by repeat (first|(with_reducible first|exact HB.out|apply below_alloc|apply pw_below_drewN|apply below_drew1|refine below_set ?_ GE222.out|refine below_set ?_ GE223.out)|exact HB.out))) : w.heap.size ≤ gb226));have n5_:= mk ((by rw [hg];exact (below_size (by repeat (first|(with_reducible first|exact HB.out|apply below_alloc|apply pw_below_drewN|apply below_drew1|refine below_set ?_ GE222.out|refine below_set ?_ GE223.out)|exact HB.out))) : w.heap.size ≤ gb226));have n6_:= mk ((by rw [hg];exact Nat.ne_of_lt (blk_lt (g:= gb222) (o:= .cells #[.slice A0_0 l0_0.length c0_0,.slice A0_1 l0_1.length c0_1,.slice A0_2 l0_2.length c0_2] 30 (0,0)) (ub BK222.out)) : gb222 ≠ gb226));have n7_:= mk ((by rw [hg];exact Nat.ne_of_gt (blk_lt (g:= gb222) (o:= .cells #[.slice A0_0 l0_0.length c0_0,.slice A0_1 l0_1.length c0_1,.slice A0_2 l0_2.length c0_2] 30 (0,0)) (ub BK222.out)) : gb226 ≠ gb222));have n8_:= mk ((by rw [hg];exact Nat.ne_of_lt (blk_lt (g:= gb223) (o:= .cells #[.slice (some ad225) l1_0.length c1_0,.slice A1_1 l1_1.length c1_1] 61 (0,0)) (ub BK223.out)) : gb223 ≠ gb226));have n9_:= mk ((by rw [hg];exact Nat.ne_of_gt (blk_lt (g:= gb223) (o:= .cells #[.slice (some ad225) l1_0.length c1_0,.slice A1_1 l1_1.length c1_1] 61 (0,0)) (ub BK223.out)) : gb226 ≠ gb223));clear BK222;clear BK223;clear HB;have BK222:= n0_;have BK223:= n1_;have HB:= n2_;have BK226:= n3_;have GW226:= n4_;have GE226:= n5_;have NB222_226:= n6_;have NB226_222:= n7_;have NB223_226:= n8_;have NB226_223:= n9_;clear n0_ n1_ n2_ n3_ n4_ n5_ n6_ n7_ n8_ n9_;clear hb hbox hg;have hnb62:= NB226_222.out;have hnc62:= NB222_226.out;have hnb63:= NB226_223.out;have hnc63:= NB223_226.out;have hcz64_0 : w61.cell? ⟨gb226,0,none⟩ = some (.int .i64 0):= (blk_cell BK226.out 0).trans rfl;have hcz64_1 : w61.cell? ⟨gb226,1,none⟩ = some (.int .i64 0):= (blk_cell BK226.out 1).trans rfl;have hfz64_0:= blk_frozen BK226.out 0;have hfz64_1:= blk_frozen BK226.out 1)|((with_reducible refine gate_callee (f:= 75) rfl ?_);refine goesL_ (some 43) rfl rfl Try.func75 (by kernel_rfl) rfl #[.agg #[.int .i64 ((rd_T96 l1_0 x37_2).f0),.int .i64 ((rd_T96 l1_0 x37_2).f1)]] rfl (by (try simp only [List.map_toArray,List.map_cons,List.map_nil]);first|done|rfl|(simp only [List.length_drop,List.length_take];rfl)) ?_;(with_reducible refine (impl_IsItem.calls ((rd_T96 l1_0 x37_2).f0) ((rd_T96 l1_0 x37_2).f1) true _ A32.out).mono ?_);rintro e w65 ⟨rfl,hb⟩;refine ⟨_,rfl,?_⟩;have n0_:= mk (blk_below (g:= gb222) (o:= .cells #[.slice A0_0 l0_0.length c0_0,.slice A0_1 l0_1.length c0_1,.slice A0_2 l0_2.length c0_2] 30 (0,0)) (by (with_reducible repeat (first|refine blk_drewN ?_ _|refine blk_drew ?_|refine blk_alloc ?_ _));refine blk_far ?_ NB222_226.out _;(with_reducible repeat (first|refine blk_drewN ?_ _|refine blk_drew ?_|refine blk_alloc ?_ _));refine blk_far ?_ NB222_226.out _;(with_reducible repeat (first|refine blk_drewN ?_ _|refine blk_drew ?_|refine blk_alloc ?_ _));exact BK222.out) hb);have n1_:= mk (blk_below (g:= gb223) (o:= .cells #[.slice (some ad225) l1_0.length c1_0,.slice A1_1 l1_1.length c1_1] 61 (0,0)) (by (with_reducible repeat (first|refine blk_drewN ?_ _|refine blk_drew ?_|refine blk_alloc ?_ _));refine blk_far ?_ NB223_226.out _;(with_reducible repeat (first|refine blk_drewN ?_ _|refine blk_drew ?_|refine blk_alloc ?_ _));refine blk_far ?_ NB223_226.out _;(with_reducible repeat (first|refine blk_drewN ?_ _|refine blk_drew ?_|refine blk_alloc ?_ _));exact BK223.out) hb);have n2_:= mk (blk_below (g:= gb226) (o:= .cells #[.int .i64 ((rd_T96 l1_0 x37_2).f0),.int .i64 ((rd_T96 l1_0 x37_2).f1)] 96 (0,0)) (by (with_reducible repeat (first|refine blk_drewN ?_ _|refine blk_drew ?_|refine blk_alloc ?_ _));refine blk_put (cs:= #[.int .i64 ((rd_T96 l1_0 x37_2).f0),.int .i64 0]) ?_ 1 _ rfl;(with_reducible repeat (first|refine blk_drewN ?_ _|refine blk_drew ?_|refine blk_alloc ?_ _));refine blk_put (cs:= #[.int .i64 0,.int .i64 0]) ?_ 0 _ rfl;(with_reducible repeat (first|refine blk_drewN ?_ _|refine blk_drew ?_|refine blk_alloc ?_ _));exact BK226.out) hb);have n3_:= mk (below_step (by repeat (first|(with_reducible first|exact HB.out|apply below_alloc|apply pw_below_drewN|apply below_drew1|refine below_set ?_ GE222.out|refine below_set ?_ GE223.out|refine below_set ?_ GE226.out)|exact HB.out)) hb);clear BK222;clear BK223;clear BK226;clear HB;have BK222:= n0_;have BK223:= n1_;have BK226:= n2_;have HB:= n3_;clear n0_ n1_ n2_ n3_;(try clear hb);(try clear hb2);(try clear hk);(try clear hi);have hnb66:= NB222_223.out;have hnc66:= NB223_222.out;have hcz67_0 : w65.cell? ⟨gb222,0,none⟩ = some (.slice A0_0 l0_0.length c0_0):= (blk_cell BK222.out 0).trans rfl;have hcz67_1 : w65.cell? ⟨gb222,1,none⟩ = some (.slice A0_1 l0_1.length c0_1):= (blk_cell BK222.out 1).trans rfl;have hcz67_2 : w65.cell? ⟨gb222,2,none⟩ = some (.slice A0_2 l0_2.length c0_2):= (blk_cell BK222.out 2).trans rfl;have hfz67_0:= blk_frozen BK222.out 0;have hfz67_1:= blk_frozen BK222.out 1;have hfz67_2:= blk_frozen BK222.out 2;have hcz68_0 : w65.cell? ⟨gb226,0,none⟩ = some (.int .i64 ((rd_T96 l1_0 x37_2).f0)):= (blk_cell BK226.out 0).trans rfl;have hcz68_1 : w65.cell? ⟨gb226,1,none⟩ = some (.int .i64 ((rd_T96 l1_0 x37_2).f1)):= (blk_cell BK226.out 1).trans rfl;have hfz68_0:= blk_frozen BK226.out 0;have hfz68_1:= blk_frozen BK226.out 1)|(go_at_call 76;(with_reducible refine (impl_FindRow.calls k2 _ _ l0_0 _ _ l0_1 _ _ l0_2 ((rd_T96 l1_0 x37_2).f1) t228 _ ?side1 ?side2 ?side3 ?side4 ?side5 ?side6 A34.out).mono ?_);(case side1 => exact uc (Kd.C_below HR0_0.out HB.out));(case side2 => exact HC0_0.out);(case side3 => exact uc (Kd.C_below HR0_1.out HB.out));(case side4 => exact HC0_1.out);(case side5 => exact uc (Kd.C_below HR0_2.out HB.out));(case side6 => exact HC0_2.out);rintro e w69 ⟨rfl,hb⟩;have n0_:= mk (blk_below (g:= gb222) (o:= .cells #[.slice A0_0 l0_0.length c0_0,.slice A0_1 l0_1.length c0_1,.slice A0_2 l0_2.length c0_2] 30 (0,0)) (ub BK222.out) hb);have n1_:= mk (blk_below (g:= gb223) (o:= .cells #[.slice (some ad225) l1_0.length c1_0,.slice A1_1 l1_1.length c1_1] 61 (0,0)) (ub BK223.out) hb);have n2_:= mk (blk_below (g:= gb226) (o:= .cells #[.int .i64 ((rd_T96 l1_0 x37_2).f0),.int .i64 ((rd_T96 l1_0 x37_2).f1)] 96 (0,0)) (ub BK226.out) hb);have n3_:= mk (below_step (by repeat (first|(with_reducible first|exact HB.out|apply below_alloc|apply pw_below_drewN|apply below_drew1|refine below_set ?_ GE222.out|refine below_set ?_ GE223.out|refine below_set ?_ GE226.out)|exact HB.out)) hb);clear BK222;clear BK223;clear BK226;clear HB;have BK222:= n0_;have BK223:= n1_;have BK226:= n2_;have HB:= n3_;clear n0_ n1_ n2_ n3_;(try clear hb);(try clear hb2);(try clear hk);(try clear hi);have hcz70_0 : w69.cell? ⟨gb223,0,none⟩ = some (.slice (some ad225) l1_0.length c1_0):= (blk_cell BK223.out 0).trans rfl;have hcz70_1 : w69.cell? ⟨gb223,1,none⟩ = some (.slice A1_1 l1_1.length c1_1):= (blk_cell BK223.out 1).trans rfl;have hfz70_0:= blk_frozen BK223.out 0;have hfz70_1:= blk_frozen BK223.out 1;have q71 : (x37_2 : Int) ≤ ((l1_0.length : Int) : Int):= of_decide_eq_true (by first|(with_reducible assumption)|assumption);obtain ⟨i071,hi071,_,hsz71,_⟩:= info_parts info96;have hroom71 : l1_0.length ≤ c1_0:= HC1_0.out;have hC71 : Kd.C k96 _ (some ad225) l1_0.length l1_0:= HR1_0.out;have hcut71:= cut_to (P:= Try.prog) 59 96 .i64 Try.underlying59 hi071 (some ad225) l1_0.length c1_0 x37_2 (of_decide_eq_true (by first|(with_reducible assumption)|assumption)) q71 hroom71;have hr71:= Kd.C_take (m:= (x37_2 : Int).toNat) hC71 (by omega);have hy71 : y229.length = (x37_2 : Int).toNat:= (by rw [Ny229.out,List.length_take];omega);rw [← Ny229.out] at hr71;rw [← hy71] at hcut71;have HR232:= mk hr71;have HC232:= mk (show y229.length ≤ c1_0 from by omega);clear hr71 hC71 hroom71 hi071 hsz71;have KY71:= mk hy71;clear hy71;replace q71:= eq_true q71)|(go_at_call 77;(with_reducible refine (impl_Item.callsF _ _ y229 ((rd_T96 l1_0 x37_2).f1) false _ _ ?side1 ?side2 A47.out).mono ?_);(case side1 => exact uc (Kd.C_below HR232.out HB.out));(case side2 => exact (blk_cell BK226.out 1).trans rfl);rintro e w72 ⟨rfl,hb⟩;have n0_:= mk (blk_below (g:= gb222) (o:= .cells #[.slice A0_0 l0_0.length c0_0,.slice A0_1 l0_1.length c0_1,.slice A0_2 l0_2.length c0_2] 30 (0,0)) (ub BK222.out) hb);have n1_:= mk (blk_below (g:= gb223) (o:= .cells #[.slice (some ad225) l1_0.length c1_0,.slice A1_1 l1_1.length c1_1] 61 (0,0)) (ub BK223.out) hb);have n2_:= mk (blk_below (g:= gb226) (o:= .cells #[.int .i64 ((rd_T96 l1_0 x37_2).f0),.int .i64 ((rd_T96 l1_0 x37_2).f1)] 96 (0,0)) (ub BK226.out) hb);have n3_:= mk (below_step (by repeat (first|(with_reducible first|exact HB.out|apply below_alloc|apply pw_below_drewN|apply below_drew1|refine below_set ?_ GE222.out|refine below_set ?_ GE223.out|refine below_set ?_ GE226.out)|exact HB.out)) hb);clear BK222;clear BK223;clear BK226;clear HB;have BK222:= n0_;have BK223:= n1_;have BK226:= n2_;have HB:= n3_;clear n0_ n1_ n2_ n3_;(try clear hb);(try clear hb2);(try clear hk);(try clear hi)))
             go_roundg k2
             case measure => have:= HJ2.out;have:= HK2.out;omega
             case rel => exact ⟨(wrap64 (x37_2 + 1)),(by first|rfl|(simp;done)|(simp [*];done)),H',⟨by have:= HJ2.out;have:= HK2.out;omega⟩,⟨ub BK222.out⟩,⟨ub BK223.out⟩,⟨by repeat (first|(with_reducible first|exact HB.out|apply below_alloc|apply pw_below_drewN|apply below_drew1|refine below_set ?_ GE222.out|refine below_set ?_ GE223.out|refine below_set ?_ GE226.out)|exact HB.out)⟩⟩
           ·rw [if_neg c46] at H
            exact absurd H (by simp)
         ·replace c33:= Bool.eq_false_iff.mpr c33
          subst c33
          have H1 : (some false) = some r:= by rw [if_neg (show ¬ (false = true) by decide)] at H;exact H
          clear H
          have H:= H1
          clear H1
          obtain rfl:= Option.some.inj H
          have p225 : 0 ≤ (x37_2 : Int):= of_decide_eq_true (by first|(with_reducible assumption)|assumption)
          have q225 : x37_2 < (l1_0.length : Int):= of_decide_eq_true (by first|(with_reducible assumption)|assumption)
          obtain ⟨ad225,e225,hx225_0,hx225_1⟩:= at_T96 HR1_0.out x37_2 p225 q225
          cases e225
          replace hx225_0:= (HB.out.cell (World.block_lt_of_cell? w _ hx225_0)).trans hx225_0
          replace hx225_1:= (HB.out.cell (World.block_lt_of_cell? w _ hx225_1)).trans hx225_1
          replace p225:= eq_true p225
          replace q225:= eq_true q225
          go_wp2_with (first|((with_reducible refine gate_dst (N:= 6) rfl ?_);(try (refine gate_guard (by rfl) ?_;dsimp only));refine box_event ?hg (N:= 6) ?hd (cs:= #[.int .i64 0,.int .i64 0]) (t:= 96) ?hr ?_;(case hd => rfl);(case hg => rfl);(case hr => first|(go_simp;done)|(go_simp;rfl));intro gb226 hg w73 hbox hb;have n0_:= mk (blk_below (g:= gb222) (o:= .cells #[.slice A0_0 l0_0.length c0_0,.slice A0_1 l0_1.length c0_1,.slice A0_2 l0_2.length c0_2] 30 (0,0)) (ub BK222.out) hb);have n1_:= mk (blk_below (g:= gb223) (o:= .cells #[.slice (some ad225) l1_0.length c1_0,.slice A1_1 l1_1.length c1_1] 61 (0,0)) (ub BK223.out) hb);have n2_:= mk (below_step (by repeat (first|(with_reducible first|exact HB.out|apply below_alloc|apply pw_below_drewN|apply below_drew1|refine below_set ?_ GE222.out|refine below_set ?_ GE223.out)|exact HB.out)) hb);have n3_:= mk (hbox);have n4_:= mk ((by rw [hg];exact (below_size (by repeat (first|(with_reducible first|exact HB.out|apply below_alloc|apply pw_below_drewN|apply below_drew1|refine below_set ?_ GE222.out|refine below_set ?_ GE223.out)|exact HB.out))) : w.heap.size ≤ gb226));have n5_:= mk ((by rw [hg];exact (below_size (by repeat (first|(with_reducible first|exact HB.out|apply below_alloc|apply pw_below_drewN|apply below_drew1|refine below_set ?_ GE222.out|refine below_set ?_ GE223.out)|exact HB.out))) : w.heap.size ≤ gb226));have n6_:= mk ((by rw [hg];exact Nat.ne_of_lt (blk_lt (g:= gb222) (o:= .cells #[.slice A0_0 l0_0.length c0_0,.slice A0_1 l0_1.length c0_1,.slice A0_2 l0_2.length c0_2] 30 (0,0)) (ub BK222.out)) : gb222 ≠ gb226));have n7_:= mk ((by rw [hg];exact Nat.ne_of_gt (blk_lt (g:= gb222) (o:= .cells #[.slice A0_0 l0_0.length c0_0,.slice A0_1 l0_1.length c0_1,.slice A0_2 l0_2.length c0_2] 30 (0,0)) (ub BK222.out)) : gb226 ≠ gb222));have n8_:= mk ((by rw [hg];exact Nat.ne_of_lt (blk_lt (g:= gb223) (o:= .cells #[.slice (some ad225) l1_0.length c1_0,.slice A1_1 l1_1.length c1_1] 61 (0,0)) (ub BK223.out)) : gb223 ≠ gb226));have n9_:= mk ((by rw [hg];exact Nat.ne_of_gt (blk_lt (g:= gb223) (o:= .cells #[.slice (some ad225) l1_0.length c1_0,.slice A1_1 l1_1.length c1_1] 61 (0,0)) (ub BK223.out)) : gb226 ≠ gb223));clear BK222;clear BK223;clear HB;have BK222:= n0_;have BK223:= n1_;have HB:= n2_;have BK226:= n3_;have GW226:= n4_;have GE226:= n5_;have NB222_226:= n6_;have NB226_222:= n7_;have NB223_226:= n8_;have NB226_223:= n9_;clear n0_ n1_ n2_ n3_ n4_ n5_ n6_ n7_ n8_ n9_;clear hb hbox hg;have hnb74:= NB226_222.out;have hnc74:= NB222_226.out;have hnb75:= NB226_223.out;have hnc75:= NB223_226.out;have hcz76_0 : w73.cell? ⟨gb226,0,none⟩ = some (.int .i64 0):= (blk_cell BK226.out 0).trans rfl;have hcz76_1 : w73.cell? ⟨gb226,1,none⟩ = some (.int .i64 0):= (blk_cell BK226.out 1).trans rfl;have hfz76_0:= blk_frozen BK226.out 0;have hfz76_1:= blk_frozen BK226.out 1)|((with_reducible refine gate_callee (f:= 75) rfl ?_);refine goesL_ (some 43) rfl rfl Try.func75 (by kernel_rfl) rfl #[.agg #[.int .i64 ((rd_T96 l1_0 x37_2).f0),.int .i64 ((rd_T96 l1_0 x37_2).f1)]] rfl (by (try simp only [List.map_toArray,List.map_cons,List.map_nil]);first|done|rfl|(simp only [List.length_drop,List.length_take];rfl)) ?_;(with_reducible refine (impl_IsItem.calls ((rd_T96 l1_0 x37_2).f0) ((rd_T96 l1_0 x37_2).f1) false _ A32.out).mono ?_);rintro e w77 ⟨rfl,hb⟩;refine ⟨_,rfl,?_⟩;have n0_:= mk (blk_below (g:= gb222) (o:= .cells #[.slice A0_0 l0_0.length c0_0,.slice A0_1 l0_1.length c0_1,.slice A0_2 l0_2.length c0_2] 30 (0,0)) (by (with_reducible repeat (first|refine blk_drewN ?_ _|refine blk_drew ?_|refine blk_alloc ?_ _));refine blk_far ?_ NB222_226.out _;(with_reducible repeat (first|refine blk_drewN ?_ _|refine blk_drew ?_|refine blk_alloc ?_ _));refine blk_far ?_ NB222_226.out _;(with_reducible repeat (first|refine blk_drewN ?_ _|refine blk_drew ?_|refine blk_alloc ?_ _));exact BK222.out) hb);have n1_:= mk (blk_below (g:= gb223) (o:= .cells #[.slice (some ad225) l1_0.length c1_0,.slice A1_1 l1_1.length c1_1] 61 (0,0)) (by (with_reducible repeat (first|refine blk_drewN ?_ _|refine blk_drew ?_|refine blk_alloc ?_ _));refine blk_far ?_ NB223_226.out _;(with_reducible repeat (first|refine blk_drewN ?_ _|refine blk_drew ?_|refine blk_alloc ?_ _));refine blk_far ?_ NB223_226.out _;(with_reducible repeat (first|refine blk_drewN ?_ _|refine blk_drew ?_|refine blk_alloc ?_ _));exact BK223.out) hb);have n2_:= mk (blk_below (g:= gb226) (o:= .cells #[.int .i64 ((rd_T96 l1_0 x37_2).f0),.int .i64 ((rd_T96 l1_0 x37_2).f1)] 96 (0,0)) (by (with_reducible repeat (first|refine blk_drewN ?_ _|refine blk_drew ?_|refine blk_alloc ?_ _));refine blk_put (cs:= #[.int .i64 ((rd_T96 l1_0 x37_2).f0),.int .i64 0]) ?_ 1 _ rfl;(with_reducible repeat (first|refine blk_drewN ?_ _|refine blk_drew ?_|refine blk_alloc ?_ _));refine blk_put (cs:= #[.int .i64 0,.int .i64 0]) ?_ 0 _ rfl;(with_reducible repeat (first|refine blk_drewN ?_ _|refine blk_drew ?_|refine blk_alloc ?_ _));exact BK226.out) hb);have n3_:= mk (below_step (by repeat (first|(with_reducible first|exact HB.out|apply below_alloc|apply pw_below_drewN|apply below_drew1|refine below_set ?_ GE222.out|refine below_set ?_ GE223.out|refine below_set ?_ GE226.out)|exact HB.out)) hb);clear BK222;clear BK223;clear BK226;clear HB;have BK222:= n0_;have BK223:= n1_;have BK226:= n2_;have HB:= n3_;clear n0_ n1_ n2_ n3_;(try clear hb);(try clear hb2);(try clear hk);(try clear hi)))
          go_ret
          exact ⟨by first|rfl|(simp [errW_none,errW_some] <;> rfl)|(simp [*,errW_none,errW_some] <;> rfl),by repeat (first|(with_reducible first|exact HB.out|apply below_alloc|apply pw_below_drewN|apply below_drew1|refine below_set ?_ GE222.out|refine below_set ?_ GE223.out|refine below_set ?_ GE226.out)|exact HB.out)⟩
        ·rw [if_neg c31] at H
         exact absurd H (by simp)
       ·rw [if_neg c30] at H
        exact absurd H (by simp)
      ·rw [if_neg c29] at H
       have c29b0 : decide (x37_2 < (l1_0.length : Int)) = false:= decide_eq_false c29
       clear c29
       have H':= mk H
       clear H
       have hnb78:= NB223_222.out
       have hnc78:= NB222_223.out
       have hcz79_0 : wr.cell? ⟨gb223,0,none⟩ = some (.slice A1_0 l1_0.length c1_0):= (blk_cell BK223.out 0).trans rfl
       have hcz79_1 : wr.cell? ⟨gb223,1,none⟩ = some (.slice A1_1 l1_1.length c1_1):= (blk_cell BK223.out 1).trans rfl
       have hfz79_0:= blk_frozen BK223.out 0
       have hfz79_1:= blk_frozen BK223.out 1
       go_wp2
       go_loopg [64] k2 (fun kq v64 w' => ∃ (x64_3 : Int),v64 = .int .i64 x64_3 ∧ Aside0 (impl_IsPending.l1 kq l1_1 (l1_1.length : Int) x64_3 l0_0 l0_1 l0_2 l1_0 l1_1 = some r) ∧ Aside0 (kq ≤ k2) ∧ Aside0 (w'.heap[gb222]? = some (.cells #[(.slice A0_0 l0_0.length c0_0),(.slice A0_1 l0_1.length c0_1),(.slice A0_2 l0_2.length c0_2)] 30 (0,0))) ∧ Aside0 (w'.heap[gb223]? = some (.cells #[(.slice A1_0 l1_0.length c1_0),(.slice A1_1 l1_1.length c1_1)] 61 (0,0))) ∧ Aside0 (Below w.heap.size w w'))
       case atStart => exact ⟨(0),(by first|rfl|(simp;done)|(simp [*];done)),H',⟨Nat.le_refl _⟩,⟨ub BK222.out⟩,⟨ub BK223.out⟩,⟨by repeat (first|(with_reducible first|exact HB.out|apply below_alloc|apply pw_below_drewN|apply below_drew1|refine below_set ?_ GE222.out|refine below_set ?_ GE223.out)|exact HB.out)⟩⟩
       case round =>
        clear H'
        try clear c1
        try clear c2
        try clear p2
        try clear q2
        try clear hx2
        try clear c3
        try clear c4
        try clear c5
        try clear q5
        try clear c6
        try clear p6
        try clear c7
        try clear q7
        try clear c8
        try clear c8b0
        try clear c8b1
        try clear c9
        try clear c13
        try clear c13b0
        try clear c13b1
        try clear c14
        try clear c15
        try clear c18
        try clear p22
        try clear q22
        try clear hx22
        try clear c23
        try clear c26
        try clear c27
        try clear c29
        try clear c29b0
        try clear c30
        try clear c30b0
        try clear c31
        try clear c31b0
        try clear c33
        try clear c35
        try clear c35b0
        try clear c37
        try clear c38
        try clear c39
        try clear c41
        try clear c45
        try clear c45b0
        try clear c46
        try clear c46b0
        try clear c46b1
        try clear c48
        try clear c50
        try clear c51
        try clear c54
        try clear q59
        try clear c62
        try clear c63
        try clear p64
        try clear c66
        try clear q71
        try clear c74
        try clear c75
        try clear c78
        try clear hcz10_0
        try clear hcz10_1
        try clear hcz10_2
        try clear hcz12_0
        try clear hcz12_1
        try clear hcz15_0
        try clear hcz15_1
        try clear hcz15_2
        try clear hcz17_0
        try clear hcz17_1
        try clear hcz19_0
        try clear hcz19_1
        try clear hcz19_2
        try clear hcz21_0
        try clear hcz21_1
        try clear hcz22_0
        try clear hcz22_1
        try clear hcz22_2
        try clear hcz24_0
        try clear hcz24_1
        try clear hcz24_2
        try clear hcz28_0
        try clear hcz28_1
        try clear hcz39_0
        try clear hcz39_1
        try clear hcz42_0
        try clear hcz42_1
        try clear hcz42_2
        try clear hcz43_0
        try clear hcz43_1
        try clear hcz52_0
        try clear hcz52_1
        try clear hcz55_0
        try clear hcz55_1
        try clear hcz55_2
        try clear hcz56_0
        try clear hcz56_1
        try clear hcz58_0
        try clear hcz58_1
        try clear hcz64_0
        try clear hcz64_1
        try clear hcz67_0
        try clear hcz67_1
        try clear hcz67_2
        try clear hcz68_0
        try clear hcz68_1
        try clear hcz70_0
        try clear hcz70_1
        try clear hcz76_0
        try clear hcz76_1
        try clear hcz79_0
        try clear hcz79_1
        try clear hfz10_0
        try clear hfz10_1
        try clear hfz10_2
        try clear hfz12_0
        try clear hfz12_1
        try clear hfz15_0
        try clear hfz15_1
        try clear hfz15_2
        try clear hfz17_0
        try clear hfz17_1
        try clear hfz19_0
        try clear hfz19_1
        try clear hfz19_2
        try clear hfz21_0
        try clear hfz21_1
        try clear hfz22_0
        try clear hfz22_1
        try clear hfz22_2
        try clear hfz24_0
        try clear hfz24_1
        try clear hfz24_2
        try clear hfz28_0
        try clear hfz28_1
        try clear hfz39_0
        try clear hfz39_1
        try clear hfz42_0
        try clear hfz42_1
        try clear hfz42_2
        try clear hfz43_0
        try clear hfz43_1
        try clear hfz52_0
        try clear hfz52_1
        try clear hfz55_0
        try clear hfz55_1
        try clear hfz55_2
        try clear hfz56_0
        try clear hfz56_1
        try clear hfz58_0
        try clear hfz58_1
        try clear hfz64_0
        try clear hfz64_1
        try clear hfz67_0
        try clear hfz67_1
        try clear hfz67_2
        try clear hfz68_0
        try clear hfz68_1
        try clear hfz70_0
        try clear hfz70_1
        try clear hfz76_0
        try clear hfz76_1
        try clear hfz79_0
        try clear hfz79_1
        try clear hx225_0
        try clear hx225_1
        try clear p2
        try clear p225
        try clear p6
        try clear q225
        try clear q59
        try clear q71
        obtain ⟨x64_3,rfl,HA,HK3,BK222,BK223,HB⟩:= hrel
        cases gk with
       |zero => exact absurd HA.out (by simp [impl_IsPending.l1])
       |succ k3 =>
         have H:= HA.out
         clear HA
         simp only [impl_IsPending.l1] at H
         by_cases c80 : x64_3 < (l1_1.length : Int)
         ·rw [if_pos c80] at H
          have c80b0 : decide (x64_3 < (l1_1.length : Int)) = true:= decide_eq_true c80
          clear c80
          by_cases c81 : 0 ≤ x64_3
          ·rw [if_pos c81] at H
           have c81b0 : decide (0 ≤ x64_3) = true:= decide_eq_true c81
           clear c81
           by_cases c82 : x64_3 < (l1_1.length : Int)
           ·rw [if_pos c82] at H
            have c82b0 : decide (x64_3 < (l1_1.length : Int)) = true:= decide_eq_true c82
            clear c82
            replace H:= Option.bind_eq_some_iff.mp H
            obtain ⟨t235,A830,H⟩:= H
            replace H : (if t235 < 0 then (some false) else (if x64_3 ≤ (l1_1.length : Int) then ((slices_Contains_int_int.f k3 (l1_1.take (x64_3 : Int).toNat) (rd l1_1 x64_3)).bind fun t237 => (if t237 = true then (some false) else (impl_IsPending.l1 k3 l1_1 (l1_1.length : Int) (wrap64 (x64_3 + 1)) l0_0 l0_1 l0_2 l1_0 l1_1))) else (none))) = some r:= H
            have A83:= mk A830
            clear A830
            by_cases c84 : t235 < 0
            ·rw [if_pos c84] at H
             have c84b0 : decide (t235 < 0) = true:= decide_eq_true c84
             clear c84
             obtain rfl:= Option.some.inj H
             have p234 : 0 ≤ (x64_3 : Int):= of_decide_eq_true (by first|(with_reducible assumption)|assumption)
             have q234 : x64_3 < (l1_1.length : Int):= of_decide_eq_true (by first|(with_reducible assumption)|assumption)
             obtain ⟨ad234,e234,hx234_0⟩:= Kd.at_int HR1_1.out x64_3 p234 q234
             cases e234
             replace hx234_0:= (HB.out.cell (World.block_lt_of_cell? w _ hx234_0)).trans hx234_0
             replace p234:= eq_true p234
             replace q234:= eq_true q234
             have hnb85:= NB222_223.out
             have hnc85:= NB223_222.out
             have hcz86_0 : wr.cell? ⟨gb222,0,none⟩ = some (.slice A0_0 l0_0.length c0_0):= (blk_cell BK222.out 0).trans rfl
             have hcz86_1 : wr.cell? ⟨gb222,1,none⟩ = some (.slice A0_1 l0_1.length c0_1):= (blk_cell BK222.out 1).trans rfl
             have hcz86_2 : wr.cell? ⟨gb222,2,none⟩ = some (.slice A0_2 l0_2.length c0_2):= (blk_cell BK222.out 2).trans rfl
             have hfz86_0:= blk_frozen BK222.out 0
             have hfz86_1:= blk_frozen BK222.out 1
             have hfz86_2:= blk_frozen BK222.out 2
             go_wp2_with (first|((with_reducible refine gate_callee (f:= 76) rfl ?_);refine goesL_ (some 71) rfl rfl Try.func76 (by kernel_rfl) rfl #[.agg #[.slice A0_0 l0_0.length c0_0,.slice A0_1 l0_1.length c0_1,.slice A0_2 l0_2.length c0_2],.int .i64 (rd l1_1 x64_3)] rfl (by (try simp only [List.map_toArray,List.map_cons,List.map_nil]);first|done|rfl|(simp only [List.length_drop,List.length_take];rfl)) ?_;(with_reducible refine (impl_FindRow.calls k3 _ _ l0_0 _ _ l0_1 _ _ l0_2 (rd l1_1 x64_3) t235 _ ?side1 ?side2 ?side3 ?side4 ?side5 ?side6 A83.out).mono ?_);(case side1 => exact uc (Kd.C_below HR0_0.out HB.out));(case side2 => exact HC0_0.out);(case side3 => exact uc (Kd.C_below HR0_1.out HB.out));(case side4 => exact HC0_1.out);(case side5 => exact uc (Kd.C_below HR0_2.out HB.out));(case side6 => exact HC0_2.out);rintro e w87 ⟨rfl,hb⟩;refine ⟨_,rfl,?_⟩;have n0_:= mk (blk_below (g:= gb222) (o:= .cells #[.slice A0_0 l0_0.length c0_0,.slice A0_1 l0_1.length c0_1,.slice A0_2 l0_2.length c0_2] 30 (0,0)) (ub BK222.out) hb);have n1_:= mk (blk_below (g:= gb223) (o:= .cells #[.slice A1_0 l1_0.length c1_0,.slice (some ad234) l1_1.length c1_1] 61 (0,0)) (ub BK223.out) hb);have n2_:= mk (below_step (by repeat (first|(with_reducible first|exact HB.out|apply below_alloc|apply pw_below_drewN|apply below_drew1|refine below_set ?_ GE222.out|refine below_set ?_ GE223.out)|exact HB.out)) hb);clear BK222;clear BK223;clear HB;have BK222:= n0_;have BK223:= n1_;have HB:= n2_;clear n0_ n1_ n2_;(try clear hb);(try clear hb2);(try clear hk);(try clear hi)))
             go_ret
             exact ⟨by first|rfl|(simp [errW_none,errW_some] <;> rfl)|(simp [*,errW_none,errW_some] <;> rfl),by repeat (first|(with_reducible first|exact HB.out|apply below_alloc|apply pw_below_drewN|apply below_drew1|refine below_set ?_ GE222.out|refine below_set ?_ GE223.out)|exact HB.out)⟩
            ·rw [if_neg c84] at H
             have c84b0 : decide (t235 < 0) = false:= decide_eq_false c84
             clear c84
             have c88b0:= eq_true (of_decide_eq_true (by first|(with_reducible assumption)|assumption) : 0 ≤ x64_3)
             by_cases c89 : x64_3 ≤ (l1_1.length : Int)
             ·rw [if_pos c89] at H
              have c89b0:= eq_true c89
              have c89b1 : decide (x64_3 ≤ (l1_1.length : Int)) = true:= decide_eq_true c89
              clear c89
              replace H:= Option.bind_eq_some_iff.mp H
              obtain ⟨t237,A900,H⟩:= H
              replace H : (if t237 = true then (some false) else (impl_IsPending.l1 k3 l1_1 (l1_1.length : Int) (wrap64 (x64_3 + 1)) l0_0 l0_1 l0_2 l1_0 l1_1)) = some r:= H
              have A90:= mk A900
              clear A900
              by_cases c91 : t237 = true
              ·subst c91
               have H1 : (some false) = some r:= by rw [if_pos rfl] at H;exact H
               clear H
               have H:= H1
               clear H1
               obtain rfl:= Option.some.inj H
               have p234 : 0 ≤ (x64_3 : Int):= of_decide_eq_true (by first|(with_reducible assumption)|assumption)
               have q234 : x64_3 < (l1_1.length : Int):= of_decide_eq_true (by first|(with_reducible assumption)|assumption)
               obtain ⟨ad234,e234,hx234_0⟩:= Kd.at_int HR1_1.out x64_3 p234 q234
               cases e234
               replace hx234_0:= (HB.out.cell (World.block_lt_of_cell? w _ hx234_0)).trans hx234_0
               replace p234:= eq_true p234
               replace q234:= eq_true q234
               have hnb92:= NB222_223.out
               have hnc92:= NB223_222.out
               have hcz93_0 : wr.cell? ⟨gb222,0,none⟩ = some (.slice A0_0 l0_0.length c0_0):= (blk_cell BK222.out 0).trans rfl
               have hcz93_1 : wr.cell? ⟨gb222,1,none⟩ = some (.slice A0_1 l0_1.length c0_1):= (blk_cell BK222.out 1).trans rfl
               have hcz93_2 : wr.cell? ⟨gb222,2,none⟩ = some (.slice A0_2 l0_2.length c0_2):= (blk_cell BK222.out 2).trans rfl
               have hfz93_0:= blk_frozen BK222.out 0
               have hfz93_1:= blk_frozen BK222.out 1
               have hfz93_2:= blk_frozen BK222.out 2
               go_wp2_with (first|((with_reducible refine gate_callee (f:= 76) rfl ?_);refine goesL_ (some 71) rfl rfl Try.func76 (by kernel_rfl) rfl #[.agg #[.slice A0_0 l0_0.length c0_0,.slice A0_1 l0_1.length c0_1,.slice A0_2 l0_2.length c0_2],.int .i64 (rd l1_1 x64_3)] rfl (by (try simp only [List.map_toArray,List.map_cons,List.map_nil]);first|done|rfl|(simp only [List.length_drop,List.length_take];rfl)) ?_;(with_reducible refine (impl_FindRow.calls k3 _ _ l0_0 _ _ l0_1 _ _ l0_2 (rd l1_1 x64_3) t235 _ ?side1 ?side2 ?side3 ?side4 ?side5 ?side6 A83.out).mono ?_);(case side1 => exact uc (Kd.C_below HR0_0.out HB.out));(case side2 => exact HC0_0.out);(case side3 => exact uc (Kd.C_below HR0_1.out HB.out));(case side4 => exact HC0_1.out);(case side5 => exact uc (Kd.C_below HR0_2.out HB.out));(case side6 => exact HC0_2.out);rintro e w94 ⟨rfl,hb⟩;refine ⟨_,rfl,?_⟩;have n0_:= mk (blk_below (g:= gb222) (o:= .cells #[.slice A0_0 l0_0.length c0_0,.slice A0_1 l0_1.length c0_1,.slice A0_2 l0_2.length c0_2] 30 (0,0)) (ub BK222.out) hb);have n1_:= mk (blk_below (g:= gb223) (o:= .cells #[.slice A1_0 l1_0.length c1_0,.slice (some ad234) l1_1.length c1_1] 61 (0,0)) (ub BK223.out) hb);have n2_:= mk (below_step (by repeat (first|(with_reducible first|exact HB.out|apply below_alloc|apply pw_below_drewN|apply below_drew1|refine below_set ?_ GE222.out|refine below_set ?_ GE223.out)|exact HB.out)) hb);clear BK222;clear BK223;clear HB;have BK222:= n0_;have BK223:= n1_;have HB:= n2_;clear n0_ n1_ n2_;(try clear hb);(try clear hb2);(try clear hk);(try clear hi);have hcz95_0 : w94.cell? ⟨gb223,0,none⟩ = some (.slice A1_0 l1_0.length c1_0):= (blk_cell BK223.out 0).trans rfl;have hcz95_1 : w94.cell? ⟨gb223,1,none⟩ = some (.slice (some ad234) l1_1.length c1_1):= (blk_cell BK223.out 1).trans rfl;have hfz95_0:= blk_frozen BK223.out 0;have hfz95_1:= blk_frozen BK223.out 1;obtain ⟨i096,hi096,_,hsz96,_⟩:= info_parts info3;obtain ⟨hcut96,hA96,hC96⟩:= print_take_of (P:= Try.prog) (Value.int .i64) 0 22 3 .i64 Try.underlying22 hi096 hsz96 (some ad234) c1_1 l1_1 x64_3 (of_decide_eq_true (by first|(with_reducible assumption)|assumption)) (of_decide_eq_true (by first|(with_reducible assumption)|assumption)) HC1_1.out;have HR236:= mk (Kd.C_of_reads (h1:= fun _ => rfl) (hA96 _ (Kd.reads_of_C HR1_1.out)));have HC236:= mk hC96;clear hA96 hC96 hi096 hsz96)|(go_at_call 55;(try rw [show (x64_3 : Int).toNat = (l1_1.take (x64_3 : Int).toNat).length by rw [List.length_take];exact (Nat.min_eq_left (by first|omega|(simp at *;omega))).symm]);(with_reducible refine (slices_Contains_int_int.calls k3 _ _ (l1_1.take (x64_3 : Int).toNat) (rd l1_1 x64_3) true _ ?side1 ?side2 A90.out).mono ?_);(case side1 => exact uc (Kd.C_below HR236.out HB.out));(case side2 => exact HC236.out);rintro e w' ⟨rfl,⟨nd,rfl⟩⟩))
               go_ret
               exact ⟨by first|rfl|(simp [errW_none,errW_some] <;> rfl)|(simp [*,errW_none,errW_some] <;> rfl),by repeat (first|(with_reducible first|exact HB.out|apply below_alloc|apply pw_below_drewN|apply below_drew1|refine below_set ?_ GE222.out|refine below_set ?_ GE223.out)|exact HB.out)⟩
              ·replace c91:= Bool.eq_false_iff.mpr c91
               subst c91
               have H1 : (impl_IsPending.l1 k3 l1_1 (l1_1.length : Int) (wrap64 (x64_3 + 1)) l0_0 l0_1 l0_2 l1_0 l1_1) = some r:= by rw [if_neg (show ¬ (false = true) by decide)] at H;exact H
               clear H
               have H:= H1
               clear H1
               have H':= mk H
               clear H
               have p234 : 0 ≤ (x64_3 : Int):= of_decide_eq_true (by first|(with_reducible assumption)|assumption)
               have q234 : x64_3 < (l1_1.length : Int):= of_decide_eq_true (by first|(with_reducible assumption)|assumption)
               obtain ⟨ad234,e234,hx234_0⟩:= Kd.at_int HR1_1.out x64_3 p234 q234
               cases e234
               replace hx234_0:= (HB.out.cell (World.block_lt_of_cell? w _ hx234_0)).trans hx234_0
               replace p234:= eq_true p234
               replace q234:= eq_true q234
               have hnb97:= NB222_223.out
               have hnc97:= NB223_222.out
               have hcz98_0 : wr.cell? ⟨gb222,0,none⟩ = some (.slice A0_0 l0_0.length c0_0):= (blk_cell BK222.out 0).trans rfl
               have hcz98_1 : wr.cell? ⟨gb222,1,none⟩ = some (.slice A0_1 l0_1.length c0_1):= (blk_cell BK222.out 1).trans rfl
               have hcz98_2 : wr.cell? ⟨gb222,2,none⟩ = some (.slice A0_2 l0_2.length c0_2):= (blk_cell BK222.out 2).trans rfl
               have hfz98_0:= blk_frozen BK222.out 0
               have hfz98_1:= blk_frozen BK222.out 1
               have hfz98_2:= blk_frozen BK222.out 2
               go_wp2_with (first|((with_reducible refine gate_callee (f:= 76) rfl ?_);refine goesL_ (some 71) rfl rfl Try.func76 (by kernel_rfl) rfl #[.agg #[.slice A0_0 l0_0.length c0_0,.slice A0_1 l0_1.length c0_1,.slice A0_2 l0_2.length c0_2],.int .i64 (rd l1_1 x64_3)] rfl (by (try simp only [List.map_toArray,List.map_cons,List.map_nil]);first|done|rfl|(simp only [List.length_drop,List.length_take];rfl)) ?_;(with_reducible refine (impl_FindRow.calls k3 _ _ l0_0 _ _ l0_1 _ _ l0_2 (rd l1_1 x64_3) t235 _ ?side1 ?side2 ?side3 ?side4 ?side5 ?side6 A83.out).mono ?_);(case side1 => exact uc (Kd.C_below HR0_0.out HB.out));(case side2 => exact HC0_0.out);(case side3 => exact uc (Kd.C_below HR0_1.out HB.out));(case side4 => exact HC0_1.out);(case side5 => exact uc (Kd.C_below HR0_2.out HB.out));(case side6 => exact HC0_2.out);rintro e w99 ⟨rfl,hb⟩;refine ⟨_,rfl,?_⟩;have n0_:= mk (blk_below (g:= gb222) (o:= .cells #[.slice A0_0 l0_0.length c0_0,.slice A0_1 l0_1.length c0_1,.slice A0_2 l0_2.length c0_2] 30 (0,0)) (ub BK222.out) hb);have n1_:= mk (blk_below (g:= gb223) (o:= .cells #[.slice A1_0 l1_0.length c1_0,.slice (some ad234) l1_1.length c1_1] 61 (0,0)) (ub BK223.out) hb);have n2_:= mk (below_step (by repeat (first|(with_reducible first|exact HB.out|apply below_alloc|apply pw_below_drewN|apply below_drew1|refine below_set ?_ GE222.out|refine below_set ?_ GE223.out)|exact HB.out)) hb);clear BK222;clear BK223;clear HB;have BK222:= n0_;have BK223:= n1_;have HB:= n2_;clear n0_ n1_ n2_;(try clear hb);(try clear hb2);(try clear hk);(try clear hi);have hcz100_0 : w99.cell? ⟨gb223,0,none⟩ = some (.slice A1_0 l1_0.length c1_0):= (blk_cell BK223.out 0).trans rfl;have hcz100_1 : w99.cell? ⟨gb223,1,none⟩ = some (.slice (some ad234) l1_1.length c1_1):= (blk_cell BK223.out 1).trans rfl;have hfz100_0:= blk_frozen BK223.out 0;have hfz100_1:= blk_frozen BK223.out 1;obtain ⟨i0101,hi0101,_,hsz101,_⟩:= info_parts info3;obtain ⟨hcut101,hA101,hC101⟩:= print_take_of (P:= Try.prog) (Value.int .i64) 0 22 3 .i64 Try.underlying22 hi0101 hsz101 (some ad234) c1_1 l1_1 x64_3 (of_decide_eq_true (by first|(with_reducible assumption)|assumption)) (of_decide_eq_true (by first|(with_reducible assumption)|assumption)) HC1_1.out;have HR236:= mk (Kd.C_of_reads (h1:= fun _ => rfl) (hA101 _ (Kd.reads_of_C HR1_1.out)));have HC236:= mk hC101;clear hA101 hC101 hi0101 hsz101)|(go_at_call 55;(try rw [show (x64_3 : Int).toNat = (l1_1.take (x64_3 : Int).toNat).length by rw [List.length_take];exact (Nat.min_eq_left (by first|omega|(simp at *;omega))).symm]);(with_reducible refine (slices_Contains_int_int.calls k3 _ _ (l1_1.take (x64_3 : Int).toNat) (rd l1_1 x64_3) false _ ?side1 ?side2 A90.out).mono ?_);(case side1 => exact uc (Kd.C_below HR236.out HB.out));(case side2 => exact HC236.out);rintro e w' ⟨rfl,⟨nd,rfl⟩⟩))
               go_roundg k3
               case measure => have:= HJ2.out;have:= HK2.out;have:= HK3.out;omega
               case rel => exact ⟨(wrap64 (x64_3 + 1)),(by first|rfl|(simp;done)|(simp [*];done)),H',⟨by have:= HJ2.out;have:= HK2.out;have:= HK3.out;omega⟩,⟨ub BK222.out⟩,⟨ub BK223.out⟩,⟨by repeat (first|(with_reducible first|exact HB.out|apply below_alloc|apply pw_below_drewN|apply below_drew1|refine below_set ?_ GE222.out|refine below_set ?_ GE223.out)|exact HB.out)⟩⟩
             ·rw [if_neg c89] at H
              exact absurd H (by simp)
           ·rw [if_neg c82] at H
            exact absurd H (by simp)
          ·rw [if_neg c81] at H
           exact absurd H (by simp)
         ·rw [if_neg c80] at H
          have c80b0 : decide (x64_3 < (l1_1.length : Int)) = false:= decide_eq_false c80
          clear c80
          obtain rfl:= Option.some.inj H
          go_wp2
          go_ret
          exact ⟨by first|rfl|(simp [errW_none,errW_some] <;> rfl)|(simp [*,errW_none,errW_some] <;> rfl),by repeat (first|(with_reducible first|exact HB.out|apply below_alloc|apply pw_below_drewN|apply below_drew1|refine below_set ?_ GE222.out|refine below_set ?_ GE223.out)|exact HB.out)⟩

/-! ### laws_eqItem: function 100 -/
def laws_eqItem.f (a0_0 : Int) (a0_1 : Int) (a1_0 : Int) (a1_1 : Int) : Option (Bool) := if a0_0 = a1_0 then (if a0_1 = a1_1 then (some true) else (some false)) else (some false)
set_option maxHeartbeats 8000000 in
set_option maxRecDepth 100000 in
theorem laws_eqItem.calls (a0_0 : Int) (a0_1 : Int) (a1_0 : Int) (a1_1 : Int) (r : Bool) (w : World) (h : laws_eqItem.f a0_0 a0_1 a1_0 a1_1 = some r) :
    Calls Try.prog 100 #[.agg #[.int .i64 a0_0, .int .i64 a0_1], .agg #[.int .i64 a1_0, .int .i64 a1_1]] w fun e w' => e = .returned (.bool r) ∧ Below w.heap.size w w' := by
  have hu96:= Try.underlying96
  have HB:= mk (Below.refl w.heap.size w)
  have H : (if a0_0 = a1_0 then (if a0_1 = a1_1 then (some true) else (some false)) else (some false)) = some r:= h
  clear h
  by_cases c3 : a0_0 = a1_0
  · rw [if_pos c3] at H
    have c3b0 : (a0_0 == a1_0) = true:= beq_iff_eq.mpr c3
    have c3b1 : (a0_0 != a1_0) = false:= bne_eq_false_iff_eq.mpr c3
    clear c3
    by_cases c4 : a0_1 = a1_1
    · rw [if_pos c4] at H
      have c4b0 : (a0_1 == a1_1) = true:= beq_iff_eq.mpr c4
      have c4b1 : (a0_1 != a1_1) = false:= bne_eq_false_iff_eq.mpr c4
      clear c4
      obtain rfl:= Option.some.inj H
      go_enter Try.func100,Try.ntmps100
      go_wp2_with (first|((with_reducible refine gate_dst (N:= 2) rfl ?_);refine box_event ?hg (N:= 2) ?hd (cs:= #[.int .i64 a0_0,.int .i64 a0_1]) (t:= 96) ?hr ?_;(case hd => rfl);(case hg => rfl);(case hr => first|(go_simp;done)|(go_simp;rfl));intro gb238 hg w5 hbox hb;have n0_:= mk (below_step (by repeat (first|(with_reducible first|exact HB.out|apply below_alloc|apply pw_below_drewN|apply below_drew1)|exact HB.out)) hb);have n1_:= mk (hbox);have n2_:= mk ((by rw [hg];exact (below_size (by repeat (first|(with_reducible first|exact HB.out|apply below_alloc|apply pw_below_drewN|apply below_drew1)|exact HB.out))) : w.heap.size ≤ gb238));have n3_:= mk ((by rw [hg];exact (below_size (by repeat (first|(with_reducible first|exact HB.out|apply below_alloc|apply pw_below_drewN|apply below_drew1)|exact HB.out))) : w.heap.size ≤ gb238));clear HB;have HB:= n0_;have BK238:= n1_;have GW238:= n2_;have GE238:= n3_;clear n0_ n1_ n2_ n3_;clear hb hbox hg)|((with_reducible refine gate_dst (N:= 3) rfl ?_);refine box_event ?hg (N:= 3) ?hd (cs:= #[.int .i64 a1_0,.int .i64 a1_1]) (t:= 96) ?hr ?_;(case hd => rfl);(case hg => rfl);(case hr => first|(go_simp;done)|(go_simp;rfl));intro gb239 hg w6 hbox hb;have n0_:= mk (blk_below (g:= gb238) (o:= .cells #[.int .i64 a0_0,.int .i64 a0_1] 96 (0,0)) (ub BK238.out) hb);have n1_:= mk (below_step (by repeat (first|(with_reducible first|exact HB.out|apply below_alloc|apply pw_below_drewN|apply below_drew1|refine below_set ?_ GE238.out)|exact HB.out)) hb);have n2_:= mk (hbox);have n3_:= mk ((by rw [hg];exact (below_size (by repeat (first|(with_reducible first|exact HB.out|apply below_alloc|apply pw_below_drewN|apply below_drew1|refine below_set ?_ GE238.out)|exact HB.out))) : w.heap.size ≤ gb239));have n4_:= mk ((by rw [hg];exact (below_size (by repeat (first|(with_reducible first|exact HB.out|apply below_alloc|apply pw_below_drewN|apply below_drew1|refine below_set ?_ GE238.out)|exact HB.out))) : w.heap.size ≤ gb239));have n5_:= mk ((by rw [hg];exact Nat.ne_of_lt (blk_lt (g:= gb238) (o:= .cells #[.int .i64 a0_0,.int .i64 a0_1] 96 (0,0)) (ub BK238.out)) : gb238 ≠ gb239));have n6_:= mk ((by rw [hg];exact Nat.ne_of_gt (blk_lt (g:= gb238) (o:= .cells #[.int .i64 a0_0,.int .i64 a0_1] 96 (0,0)) (ub BK238.out)) : gb239 ≠ gb238));clear BK238;clear HB;have BK238:= n0_;have HB:= n1_;have BK239:= n2_;have GW239:= n3_;have GE239:= n4_;have NB238_239:= n5_;have NB239_238:= n6_;clear n0_ n1_ n2_ n3_ n4_ n5_ n6_;clear hb hbox hg;have hnb7:= NB238_239.out;have hnc7:= NB239_238.out;have hcz8_0 : w6.cell? ⟨gb238,0,none⟩ = some (.int .i64 a0_0):= (blk_cell BK238.out 0).trans rfl;have hcz8_1 : w6.cell? ⟨gb238,1,none⟩ = some (.int .i64 a0_1):= (blk_cell BK238.out 1).trans rfl;have hfz8_0:= blk_frozen BK238.out 0;have hfz8_1:= blk_frozen BK238.out 1;have hcz9_0 : w6.cell? ⟨gb239,0,none⟩ = some (.int .i64 a1_0):= (blk_cell BK239.out 0).trans rfl;have hcz9_1 : w6.cell? ⟨gb239,1,none⟩ = some (.int .i64 a1_1):= (blk_cell BK239.out 1).trans rfl;have hfz9_0:= blk_frozen BK239.out 0;have hfz9_1:= blk_frozen BK239.out 1))
      go_ret
      exact ⟨by first|rfl|(simp [errW_none,errW_some] <;> rfl)|(simp [*,errW_none,errW_some] <;> rfl),by repeat (first|(with_reducible first|exact HB.out|apply below_alloc|apply pw_below_drewN|apply below_drew1|refine below_set ?_ GE238.out|refine below_set ?_ GE239.out)|exact HB.out)⟩
    · rw [if_neg c4] at H
      have c4b0 : (a0_1 == a1_1) = false:= beq_eq_false_iff_ne.mpr c4
      have c4b1 : (a0_1 != a1_1) = true:= bne_iff_ne.mpr c4
      obtain rfl:= Option.some.inj H
      go_enter Try.func100,Try.ntmps100
      go_wp2_with (first|((with_reducible refine gate_dst (N:= 2) rfl ?_);refine box_event ?hg (N:= 2) ?hd (cs:= #[.int .i64 a0_0,.int .i64 a0_1]) (t:= 96) ?hr ?_;(case hd => rfl);(case hg => rfl);(case hr => first|(go_simp;done)|(go_simp;rfl));intro gb238 hg w10 hbox hb;have n0_:= mk (below_step (by repeat (first|(with_reducible first|exact HB.out|apply below_alloc|apply pw_below_drewN|apply below_drew1)|exact HB.out)) hb);have n1_:= mk (hbox);have n2_:= mk ((by rw [hg];exact (below_size (by repeat (first|(with_reducible first|exact HB.out|apply below_alloc|apply pw_below_drewN|apply below_drew1)|exact HB.out))) : w.heap.size ≤ gb238));have n3_:= mk ((by rw [hg];exact (below_size (by repeat (first|(with_reducible first|exact HB.out|apply below_alloc|apply pw_below_drewN|apply below_drew1)|exact HB.out))) : w.heap.size ≤ gb238));clear HB;have HB:= n0_;have BK238:= n1_;have GW238:= n2_;have GE238:= n3_;clear n0_ n1_ n2_ n3_;clear hb hbox hg)|((with_reducible refine gate_dst (N:= 3) rfl ?_);refine box_event ?hg (N:= 3) ?hd (cs:= #[.int .i64 a1_0,.int .i64 a1_1]) (t:= 96) ?hr ?_;(case hd => rfl);(case hg => rfl);(case hr => first|(go_simp;done)|(go_simp;rfl));intro gb239 hg w11 hbox hb;have n0_:= mk (blk_below (g:= gb238) (o:= .cells #[.int .i64 a0_0,.int .i64 a0_1] 96 (0,0)) (ub BK238.out) hb);have n1_:= mk (below_step (by repeat (first|(with_reducible first|exact HB.out|apply below_alloc|apply pw_below_drewN|apply below_drew1|refine below_set ?_ GE238.out)|exact HB.out)) hb);have n2_:= mk (hbox);have n3_:= mk ((by rw [hg];exact (below_size (by repeat (first|(with_reducible first|exact HB.out|apply below_alloc|apply pw_below_drewN|apply below_drew1|refine below_set ?_ GE238.out)|exact HB.out))) : w.heap.size ≤ gb239));have n4_:= mk ((by rw [hg];exact (below_size (by repeat (first|(with_reducible first|exact HB.out|apply below_alloc|apply pw_below_drewN|apply below_drew1|refine below_set ?_ GE238.out)|exact HB.out))) : w.heap.size ≤ gb239));have n5_:= mk ((by rw [hg];exact Nat.ne_of_lt (blk_lt (g:= gb238) (o:= .cells #[.int .i64 a0_0,.int .i64 a0_1] 96 (0,0)) (ub BK238.out)) : gb238 ≠ gb239));have n6_:= mk ((by rw [hg];exact Nat.ne_of_gt (blk_lt (g:= gb238) (o:= .cells #[.int .i64 a0_0,.int .i64 a0_1] 96 (0,0)) (ub BK238.out)) : gb239 ≠ gb238));clear BK238;clear HB;have BK238:= n0_;have HB:= n1_;have BK239:= n2_;have GW239:= n3_;have GE239:= n4_;have NB238_239:= n5_;have NB239_238:= n6_;clear n0_ n1_ n2_ n3_ n4_ n5_ n6_;clear hb hbox hg;have hnb12:= NB238_239.out;have hnc12:= NB239_238.out;have hcz13_0 : w11.cell? ⟨gb238,0,none⟩ = some (.int .i64 a0_0):= (blk_cell BK238.out 0).trans rfl;have hcz13_1 : w11.cell? ⟨gb238,1,none⟩ = some (.int .i64 a0_1):= (blk_cell BK238.out 1).trans rfl;have hfz13_0:= blk_frozen BK238.out 0;have hfz13_1:= blk_frozen BK238.out 1;have hcz14_0 : w11.cell? ⟨gb239,0,none⟩ = some (.int .i64 a1_0):= (blk_cell BK239.out 0).trans rfl;have hcz14_1 : w11.cell? ⟨gb239,1,none⟩ = some (.int .i64 a1_1):= (blk_cell BK239.out 1).trans rfl;have hfz14_0:= blk_frozen BK239.out 0;have hfz14_1:= blk_frozen BK239.out 1))
      go_ret
      exact ⟨by first|rfl|(simp [errW_none,errW_some] <;> rfl)|(simp [*,errW_none,errW_some] <;> rfl),by repeat (first|(with_reducible first|exact HB.out|apply below_alloc|apply pw_below_drewN|apply below_drew1|refine below_set ?_ GE238.out|refine below_set ?_ GE239.out)|exact HB.out)⟩
  · rw [if_neg c3] at H
    have c3b0 : (a0_0 == a1_0) = false:= beq_eq_false_iff_ne.mpr c3
    have c3b1 : (a0_0 != a1_0) = true:= bne_iff_ne.mpr c3
    obtain rfl:= Option.some.inj H
    go_enter Try.func100,Try.ntmps100
    go_wp2_with (first|((with_reducible refine gate_dst (N:= 2) rfl ?_);refine box_event ?hg (N:= 2) ?hd (cs:= #[.int .i64 a0_0,.int .i64 a0_1]) (t:= 96) ?hr ?_;(case hd => rfl);(case hg => rfl);(case hr => first|(go_simp;done)|(go_simp;rfl));intro gb238 hg w15 hbox hb;have n0_:= mk (below_step (by repeat (first|(with_reducible first|exact HB.out|apply below_alloc|apply pw_below_drewN|apply below_drew1)|exact HB.out)) hb);have n1_:= mk (hbox);have n2_:= mk ((by rw [hg];exact (below_size (by repeat (first|(with_reducible first|exact HB.out|apply below_alloc|apply pw_below_drewN|apply below_drew1)|exact HB.out))) : w.heap.size ≤ gb238));have n3_:= mk ((by rw [hg];exact (below_size (by repeat (first|(with_reducible first|exact HB.out|apply below_alloc|apply pw_below_drewN|apply below_drew1)|exact HB.out))) : w.heap.size ≤ gb238));clear HB;have HB:= n0_;have BK238:= n1_;have GW238:= n2_;have GE238:= n3_;clear n0_ n1_ n2_ n3_;clear hb hbox hg)|((with_reducible refine gate_dst (N:= 3) rfl ?_);refine box_event ?hg (N:= 3) ?hd (cs:= #[.int .i64 a1_0,.int .i64 a1_1]) (t:= 96) ?hr ?_;(case hd => rfl);(case hg => rfl);(case hr => first|(go_simp;done)|(go_simp;rfl));intro gb239 hg w16 hbox hb;have n0_:= mk (blk_below (g:= gb238) (o:= .cells #[.int .i64 a0_0,.int .i64 a0_1] 96 (0,0)) (ub BK238.out) hb);have n1_:= mk (below_step (by repeat (first|(with_reducible first|exact HB.out|apply below_alloc|apply pw_below_drewN|apply below_drew1|refine below_set ?_ GE238.out)|exact HB.out)) hb);have n2_:= mk (hbox);have n3_:= mk ((by rw [hg];exact (below_size (by repeat (first|(with_reducible first|exact HB.out|apply below_alloc|apply pw_below_drewN|apply below_drew1|refine below_set ?_ GE238.out)|exact HB.out))) : w.heap.size ≤ gb239));have n4_:= mk ((by rw [hg];exact (below_size (by repeat (first|(with_reducible first|exact HB.out|apply below_alloc|apply pw_below_drewN|apply below_drew1|refine below_set ?_ GE238.out)|exact HB.out))) : w.heap.size ≤ gb239));have n5_:= mk ((by rw [hg];exact Nat.ne_of_lt (blk_lt (g:= gb238) (o:= .cells #[.int .i64 a0_0,.int .i64 a0_1] 96 (0,0)) (ub BK238.out)) : gb238 ≠ gb239));have n6_:= mk ((by rw [hg];exact Nat.ne_of_gt (blk_lt (g:= gb238) (o:= .cells #[.int .i64 a0_0,.int .i64 a0_1] 96 (0,0)) (ub BK238.out)) : gb239 ≠ gb238));clear BK238;clear HB;have BK238:= n0_;have HB:= n1_;have BK239:= n2_;have GW239:= n3_;have GE239:= n4_;have NB238_239:= n5_;have NB239_238:= n6_;clear n0_ n1_ n2_ n3_ n4_ n5_ n6_;clear hb hbox hg;have hnb17:= NB238_239.out;have hnc17:= NB239_238.out;have hcz18_0 : w16.cell? ⟨gb238,0,none⟩ = some (.int .i64 a0_0):= (blk_cell BK238.out 0).trans rfl;have hcz18_1 : w16.cell? ⟨gb238,1,none⟩ = some (.int .i64 a0_1):= (blk_cell BK238.out 1).trans rfl;have hfz18_0:= blk_frozen BK238.out 0;have hfz18_1:= blk_frozen BK238.out 1;have hcz19_0 : w16.cell? ⟨gb239,0,none⟩ = some (.int .i64 a1_0):= (blk_cell BK239.out 0).trans rfl;have hcz19_1 : w16.cell? ⟨gb239,1,none⟩ = some (.int .i64 a1_1):= (blk_cell BK239.out 1).trans rfl;have hfz19_0:= blk_frozen BK239.out 0;have hfz19_1:= blk_frozen BK239.out 1))
    go_ret
    exact ⟨by first|rfl|(simp [errW_none,errW_some] <;> rfl)|(simp [*,errW_none,errW_some] <;> rfl),by repeat (first|(with_reducible first|exact HB.out|apply below_alloc|apply pw_below_drewN|apply below_drew1|refine below_set ?_ GE238.out|refine below_set ?_ GE239.out)|exact HB.out)⟩

end Go.Proofs.Ytbolealjmfbhjaa.PFnExactIsPending
