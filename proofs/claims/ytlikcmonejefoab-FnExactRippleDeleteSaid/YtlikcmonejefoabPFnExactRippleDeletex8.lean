-- printed by a program of this session, a turned copy of the print of the kit
import Derived.Test.YtlikcmonejefoabSq
import Derived.Test.YtlikcmonejefoabPFnExactRippleDeletex0
import Derived.Test.YtlikcmonejefoabPFnExactRippleDeletex6
namespace Go.Proofs.Ytlikcmonejefoab.PFnExactRippleDelete
open Go.RowKit Go.Proofs.YtlikcmonejefoabW.PrintWords Go.Proofs.YtlikcmonejefoabW.PrintLast Go.Proofs.YtlikcmonejefoabW.PrintMore Go.Proofs.Ytlikcmonejefoab.Sq
attribute [local go_sem] max2_int min2_int max_two min_two max_three min_three max_four min_four Giv.cell_twice   -- for this text's walks alone
set_option linter.unusedVariables false
set_option linter.unusedSimpArgs false

/-! ### impl_FindRow: function 24 -/
def impl_FindRow.f (k : Nat) (z0 : List Int) (o0 : List Int) (y0 : List (S50)) (a1 : Int) : Option (Int) := (slices_Index_int_int.f k o0 a1).bind fun m3 => (some m3)
theorem impl_FindRow.mono : ∀ a0 a1 a2 a3 k, LeO (impl_FindRow.f k a0 a1 a2 a3) (impl_FindRow.f (k + 1) a0 a1 a2 a3) := by
  intro a0 a1 a2 a3 k
  unfold impl_FindRow.f
  repeat' first
     |(with_reducible exact slices_Index_int_int.mono _ _ _)
     |(with_reducible exact LeO.refl _)
     |(with_reducible exact LeO.none _)
     |(with_reducible refine LeO.ite ?_ ?_)
     |(with_reducible refine LeO.bind ?_ (fun _ => ?_))
     |exact slices_Index_int_int.mono _ _ _
     |exact LeO.none _
     |refine LeO.ite ?_ ?_
     |refine LeO.bind ?_ (fun _ => ?_)
set_option maxHeartbeats 8000000 in
set_option maxRecDepth 100000 in
theorem impl_FindRow.calls (k : Nat) (g2 : Option Addr) (b2 : Nat) (z0 : List Int) (y1 : Option Addr) (o1 : Nat) (o0 : List Int) (d2 : Option Addr) (z1 : Nat) (y0 : List (S50)) (a1 : Int) (r : Int) (w : World) (b3 : Kd.C (Kd.int .i64) w g2 z0.length z0) (hc0_0 : z0.length ≤ b2) (z2 : Kd.C (Kd.int .i64) w y1 o0.length o0) (hc0_1 : o0.length ≤ o1) (y2 : Kd.C k50 w d2 y0.length y0) (hc0_2 : y0.length ≤ z1) (h : impl_FindRow.f k z0 o0 y0 a1 = some r) :
    Calls Try.prog 24 #[.agg #[.slice g2 z0.length b2, .slice y1 o0.length o1, .slice d2 y0.length z1], .int .i64 a1] w fun e w' => e = .returned (.int .i64 r) ∧ Below w.heap.size w w' := by
  have hu29:= Try.underlying29
  have y3:= mk b3
  have b4:= mk hc0_0
  clear b3 hc0_0
  have j3:= mk z2
  have k3:= mk hc0_1
  clear z2 hc0_1
  have v3:= mk y2
  have a4:= mk hc0_2
  clear y2 hc0_2
  have HB:= mk (Below.refl w.heap.size w)
  have H : ((slices_Index_int_int.f k o0 a1).bind fun m3 => (some m3)) = some r:= h
  clear h
  replace H:= Option.bind_eq_some_iff.mp H
  obtain ⟨m3,A30,H⟩:= H
  replace H : (some m3) = some r:= H
  have A3:= mk A30
  clear A30
  obtain rfl:= Option.some.inj H
  go_enter Try.func24,Try.ntmps24
  go_wp2_with (first|((with_reducible refine gate_dst (N:= 2) rfl ?_);refine box_event ?hg (N:= 2) ?hd (cs:= #[.slice g2 z0.length b2,.slice y1 o0.length o1,.slice d2 y0.length z1]) (t:= 29) ?hr ?_;(case hd => rfl);(case hg => rfl);(case hr => first|(go_simp;done)|(go_simp;rfl));intro d3 hg w4 hbox hb;have n0_:= mk (below_step (by repeat (first|(with_reducible first|exact HB.out|apply below_alloc|apply pw_below_drewN|apply below_drew1)|exact HB.out)) hb);have n1_:= mk (hbox);have n2_:= mk ((by rw [hg];exact (below_size (by repeat (first|(with_reducible first|exact HB.out|apply below_alloc|apply pw_below_drewN|apply below_drew1)|exact HB.out))) : w.heap.size ≤ d3));have n3_:= mk ((by rw [hg];exact (below_size (by repeat (first|(with_reducible first|exact HB.out|apply below_alloc|apply pw_below_drewN|apply below_drew1)|exact HB.out))) : w.heap.size ≤ d3));clear HB;have HB:= n0_;have q2:= n1_;have j5:= n2_;have k4:= n3_;clear n0_ n1_ n2_ n3_;clear hb hbox hg;have y4 : w4.cell? ⟨d3,0,none⟩ = some (.slice g2 z0.length b2):= (blk_cell q2.out 0).trans rfl;have v4 : w4.cell? ⟨d3,1,none⟩ = some (.slice y1 o0.length o1):= (blk_cell q2.out 1).trans rfl;have s4 : w4.cell? ⟨d3,2,none⟩ = some (.slice d2 y0.length z1):= (blk_cell q2.out 2).trans rfl;have q4:= blk_frozen q2.out 0;have o4:= blk_frozen q2.out 1;have m4:= blk_frozen q2.out 2)|((with_reducible refine gate_callee (f:= 57) rfl ?_);refine goesL_ (some 8) rfl rfl Try.func57 (by kernel_rfl) rfl #[.slice y1 o0.length o1,.int .i64 a1] rfl (by (try simp only [List.map_toArray,List.map_cons,List.map_nil]);first|done|rfl|(simp only [List.length_drop,List.length_take];rfl)) ?_;(with_reducible refine (slices_Index_int_int.calls k _ _ o0 a1 m3 _ ?side1 ?side2 A3.out).mono ?_);(case side1 => exact uc (Kd.C_below j3.out HB.out));(case side2 => exact k3.out);rintro e w' ⟨rfl,⟨nd,rfl⟩⟩;refine ⟨_,rfl,?_⟩))
  go_ret
  exact ⟨by first|rfl|(simp [errW_none,errW_some] <;> rfl)|(simp [*,errW_none,errW_some] <;> rfl),by repeat (first|(with_reducible first|exact HB.out|apply below_alloc|apply pw_below_drewN|apply below_drew1|refine below_set ?_ k4.out)|exact HB.out)⟩

/-! ### slices_Clone_int_int: function 59 -/
def slices_Clone_int_int.f (l0 : List Int) : Option (List Int) := if l0.length < 17592186044416 then some l0 else none
set_option maxHeartbeats 8000000 in
set_option maxRecDepth 100000 in
theorem slices_Clone_int_int.calls (A0 : Option Addr) (c0 : Nat) (l0 : List Int) (r : List Int) (w : World) (hr0 : Kd.C (Kd.int .i64) w A0 l0.length l0) (hc0 : l0.length ≤ c0) (h : slices_Clone_int_int.f l0 = some r) :
    Calls Try.prog 59 #[.slice A0 l0.length c0] w fun e w' => ∃ v0_ : Value, e = .returned (v0_) ∧ Kd.R (Kd.int .i64) 3 w' w.heap.size (fun _ => True) v0_ r ∧ Below w.heap.size w w' := by
  have hE : ∀ (w w' : World) base ok x cs,((Kd.int .i64)).K w x cs → ((Kd.int .i64)).M w' base ok x cs:= fun _ _ _ _ _ _ h => h
  have q:= fun (w : World) (a : Option Addr) (n c n' c' : Nat) => Go.Lib.run_eql_slice_nil (P:= Try.prog) w 22 3 a n c n' c' Try.underlying22
  obtain ⟨i0,hi,hzz⟩:= Option.map_eq_some_iff.1 info3
  simp only [Prod.mk.injEq] at hzz
  obtain ⟨hz0,hz1,hz2⟩:= hzz
  unfold slices_Clone_int_int.f at h
  by_cases hlen : l0.length < 17592186044416
  · rw [if_pos hlen] at h
    obtain rfl:= Option.some.inj h
    clear h
    have HR:= mk hr0
    clear hr0
    rcases A0 with _|ad
    · have hz : l0 = []:= by
        rcases Nat.eq_zero_or_pos l0.length with h0|h0
        · exact List.eq_nil_of_length_eq_zero h0
        · obtain ⟨ad,e,_⟩:= HR.out.2.2 h0
          cases e
      subst hz
      clear HR hc0 hlen
      go_enter Try.func59,Try.ntmps59
      go_wp2
      go_ret
      exact ⟨_,rfl,Kd.R_nil _ _ _ _ _,Below.refl _ _⟩
    · obtain ⟨inner,hrep,hcell⟩:= ReadsRow.inner_ HR.out
      have h1 : ∀ u ∈ inner,u.oneCell' = true:= by
        intro u hu
        obtain ⟨j,hj⟩:= List.mem_iff_getElem?.1 hu
        have hl:= hrep.1
        have hjl : j < inner.length:= (List.getElem?_eq_some_iff.1 hj).1
        have hs : ((Kd.int .i64)).sz = 1:= rfl
        rw [hs] at hl
        have hd : j / 1 < l0.length:= by omega
        obtain ⟨p,hp⟩ : ∃ p,l0[j / 1]? = some p:= ⟨_,List.getElem?_eq_getElem hd⟩
        refine ((Kd.int .i64)).K_one (hrep.2 _ p hp) u ?_
        refine List.mem_iff_getElem?.2 ⟨j % 1,?_⟩
        rw [hs,List.getElem?_take,if_pos (by omega),List.getElem?_drop,← hj]
        congr 1
        omega
      have HI:= mk hcell
      have HP:= mk hrep
      have HO:= mk h1
      clear hcell hrep h1
      have hlm : l0.length ≤ maxLen:= by unfold maxLen;omega
      have hlb : l0.length * 8 ≤ 140737488355328:= by omega
      go_enter Try.func59,Try.ntmps59
      go_wp2_with (at_builtin;refine wpList_append_own _ rfl _ _ 22 rfl w.heap.size 3 i0 (.int .i64 0) 1 8 Try.underlying22 hi hz0 hz1 hz2 rfl (by decide) _ _ _ rfl (World.ownsRow_made w #[] 0 (Nat.le_refl _) (Nat.zero_le _) (by simp)) ad l0.length c0 inner rfl ?qc1 ?qc2 ?qc3 ?qc4 ?qc5 ?qc6 ?_)
      case qc1 => exact HP.out.1
      case qc2 =>
        intro j u hj
        exact Go.Lib.cell?_alloc_some _ (HI.out j u hj)
      case qc3 => exact HO.out
      case qc4 => rw [Nat.zero_add];exact hlm
      case qc5 => rw [Nat.zero_add];exact hlb
      case qc6 => simp
      intro v' w1 hown hgrow hnil
      go_wp2
      go_ret
      refine ⟨v',rfl,⟨fun _ _ => trivial,inner,by have h2:= hown;(try simp only [Nat.zero_add,List.nil_append] at h2);exact h2,?_⟩,?_⟩
      · exact Reps.imp_ HP.out (fun _ _ hp => hE _ _ _ _ _ _ hp)
      · exact ((Below.refl _ w).alloc (Nat.le_refl _) _).grown hgrow (by simp) (by intro k hk;simp [Value.ownBlock] at hk;omega)
  · rw [if_neg hlen] at h
    cases h


/-! ### impl_Pivot: function 60 -/
def impl_Pivot.f (l0 : List (S50)) : Option ((List (S50))) := if l0.length < 8796093022208 then some l0 else none
set_option maxHeartbeats 8000000 in
set_option maxRecDepth 100000 in
theorem impl_Pivot.calls (A0 : Option Addr) (c0 : Nat) (l0 : List (S50)) (r : List (S50)) (w : World) (hr0 : Kd.C k50 w A0 l0.length l0) (hc0 : l0.length ≤ c0) (h : impl_Pivot.f l0 = some r) :
    Calls Try.prog 60 #[.slice A0 l0.length c0] w fun e w' => ∃ v0_ : Value, e = .returned (v0_) ∧ Kd.R k50 50 w' w.heap.size (fun _ => True) v0_ r ∧ Below w.heap.size w w' := by
  have hE : ∀ (w w' : World) base ok x cs,(k50).K w x cs → (k50).M w' base ok x cs:= fun _ _ _ _ _ _ h => h
  have q:= fun (w : World) (a : Option Addr) (n c n' c' : Nat) => Go.Lib.run_eql_slice_nil (P:= Try.prog) w 27 50 a n c n' c' Try.underlying27
  obtain ⟨i0,hi,hzz⟩:= Option.map_eq_some_iff.1 info50
  simp only [Prod.mk.injEq] at hzz
  obtain ⟨hz0,hz1,hz2⟩:= hzz
  unfold impl_Pivot.f at h
  by_cases hlen : l0.length < 8796093022208
  · rw [if_pos hlen] at h
    obtain rfl:= Option.some.inj h
    clear h
    have HR:= mk hr0
    clear hr0
    rcases A0 with _|ad
    · have hz : l0 = []:= by
        rcases Nat.eq_zero_or_pos l0.length with h0|h0
        · exact List.eq_nil_of_length_eq_zero h0
        · obtain ⟨ad,e,_⟩:= HR.out.2.2 h0
          cases e
      subst hz
      clear HR hc0 hlen
      go_enter Try.func60,Try.ntmps60
      go_wp2
      go_ret
      exact ⟨_,rfl,Kd.R_nil _ _ _ _ _,Below.refl _ _⟩
    · obtain ⟨inner,hrep,hcell⟩:= ReadsRow.inner_ HR.out
      have h1 : ∀ u ∈ inner,u.oneCell' = true:= by
        intro u hu
        obtain ⟨j,hj⟩:= List.mem_iff_getElem?.1 hu
        have hl:= hrep.1
        have hjl : j < inner.length:= (List.getElem?_eq_some_iff.1 hj).1
        have hs : (k50).sz = 2:= rfl
        rw [hs] at hl
        have hd : j / 2 < l0.length:= by omega
        obtain ⟨p,hp⟩ : ∃ p,l0[j / 2]? = some p:= ⟨_,List.getElem?_eq_getElem hd⟩
        refine (k50).K_one (hrep.2 _ p hp) u ?_
        refine List.mem_iff_getElem?.2 ⟨j % 2,?_⟩
        rw [hs,List.getElem?_take,if_pos (by omega),List.getElem?_drop,← hj]
        congr 1
        omega
      have HI:= mk hcell
      have HP:= mk hrep
      have HO:= mk h1
      clear hcell hrep h1
      have hlm : l0.length ≤ maxLen:= by unfold maxLen;omega
      have hlb : l0.length * 16 ≤ 140737488355328:= by omega
      go_enter Try.func60,Try.ntmps60
      go_wp2_with (at_builtin;refine wpList_append_own _ rfl _ _ 27 rfl w.heap.size 50 i0 (.agg #[(.int .i64 0),(.int .i64 0)]) 2 16 Try.underlying27 hi hz0 hz1 hz2 rfl (by decide) _ _ _ rfl (World.ownsRow_made w #[] 0 (Nat.le_refl _) (Nat.zero_le _) (by simp)) ad l0.length c0 inner rfl ?qc1 ?qc2 ?qc3 ?qc4 ?qc5 ?qc6 ?_)
      case qc1 => exact HP.out.1
      case qc2 =>
        intro j u hj
        exact Go.Lib.cell?_alloc_some _ (HI.out j u hj)
      case qc3 => exact HO.out
      case qc4 => rw [Nat.zero_add];exact hlm
      case qc5 => rw [Nat.zero_add];exact hlb
      case qc6 => simp
      intro v' w1 hown hgrow hnil
      go_wp2
      go_ret
      refine ⟨v',rfl,⟨fun _ _ => trivial,inner,by have h2:= hown;(try simp only [Nat.zero_add,List.nil_append] at h2);exact h2,?_⟩,?_⟩
      · exact Reps.imp_ HP.out (fun _ _ hp => hE _ _ _ _ _ _ hp)
      · exact ((Below.refl _ w).alloc (Nat.le_refl _) _).grown hgrow (by simp) (by intro k hk;simp [Value.ownBlock] at hk;omega)
  · rw [if_neg hlen] at h
    cases h


/-! ### impl_copyCracker: function 32 -/
def impl_copyCracker.f (z0 : List Int) (o0 : List Int) (y0 : List (S50)) : Option (List Int × List Int × (List (S50))) := (slices_Clone_int_int.f z0).bind fun o2 => ((slices_Clone_int_int.f o0).bind fun m2 => ((impl_Pivot.f y0).bind fun k2 => (some (o2, m2, k2))))
def impl_copyCracker.T1 : Bool × List (List Nat × List Nat) := (true, [([], []), ([0], [0]), ([1], [1]), ([], []), ([3], [3]), ([4, 2], [4]), ([], []), ([6], [6]), ([7, 5], [7]), ([2, 5, 8], [2, 5, 8]), ([9, 8, 0, 1, 2, 3, 4, 5, 6, 7, 8, 9], [9])])
def impl_copyCracker.B1 : List Nat := [0, 1, 3, 0, 8, 31, 0, 64, 255, 511, 1023]
theorem impl_copyCracker.tab1 : rtab .any (opsOf Try.f32 1) = impl_copyCracker.T1 := by kernel_rfl
theorem impl_copyCracker.bits1 : waitsOk impl_copyCracker.T1.2 impl_copyCracker.B1 = true := by kernel_rfl
set_option maxHeartbeats 8000000 in
set_option maxRecDepth 100000 in
theorem impl_copyCracker.calls (g2 : Option Addr) (b2 : Nat) (z0 : List Int) (y1 : Option Addr) (o1 : Nat) (o0 : List Int) (d2 : Option Addr) (z1 : Nat) (y0 : List (S50)) (r1 : List Int) (r2 : List Int) (r3 : List (S50)) (w : World) (b3 : Kd.C (Kd.int .i64) w g2 z0.length z0) (hc0_0 : z0.length ≤ b2) (z2 : Kd.C (Kd.int .i64) w y1 o0.length o0) (hc0_1 : o0.length ≤ o1) (y2 : Kd.C k50 w d2 y0.length y0) (hc0_2 : y0.length ≤ z1) (h : impl_copyCracker.f z0 o0 y0 = some (r1, r2, r3)) :
    Calls Try.prog 32 #[.agg #[.slice g2 z0.length b2, .slice y1 o0.length o1, .slice d2 y0.length z1]] w fun e w' => ∃ v0_ v1_ v2_ : Value, e = .returned (.agg #[v0_, v1_, v2_]) ∧ Kd.R (Kd.int .i64) 3 w' w.heap.size (fun k_ => some k_ ≠ (v1_ : Value).ownBlock) v0_ r1 ∧ Kd.R (Kd.int .i64) 3 w' w.heap.size (fun k_ => some k_ ≠ (v0_ : Value).ownBlock) v1_ r2 ∧ Kd.R k50 50 w' w.heap.size (fun _ => True) v2_ r3 ∧ Below w.heap.size w w' := by
  have hu29:= Try.underlying29
  have y3:= mk b3
  have b4:= mk hc0_0
  clear b3 hc0_0
  have j3:= mk z2
  have k3:= mk hc0_1
  clear z2 hc0_1
  have v3:= mk y2
  have a4:= mk hc0_2
  clear y2 hc0_2
  have HB:= mk (Below.refl w.heap.size w)
  have H : ((slices_Clone_int_int.f z0).bind fun o2 => ((slices_Clone_int_int.f o0).bind fun m2 => ((impl_Pivot.f y0).bind fun k2 => (some (o2,m2,k2))))) = some (r1,r2,r3):= h
  clear h
  replace H:= Option.bind_eq_some_iff.mp H
  obtain ⟨o2,A20,H⟩:= H
  replace H : ((slices_Clone_int_int.f o0).bind fun m2 => ((impl_Pivot.f y0).bind fun k2 => (some (o2,m2,k2)))) = some (r1,r2,r3):= H
  have A2:= mk A20
  clear A20
  replace H:= Option.bind_eq_some_iff.mp H
  obtain ⟨m2,A30,H⟩:= H
  replace H : ((impl_Pivot.f y0).bind fun k2 => (some (o2,m2,k2))) = some (r1,r2,r3):= H
  have A3:= mk A30
  clear A30
  replace H:= Option.bind_eq_some_iff.mp H
  obtain ⟨k2,A40,H⟩:= H
  replace H : (some (o2,m2,k2)) = some (r1,r2,r3):= H
  have A4:= mk A40
  clear A40
  simp only [Option.some.injEq,Prod.mk.injEq] at H
  obtain ⟨rfl,rfl,rfl⟩:= H
  go_enter Try.func32,Try.ntmps32
  try go_wp2_with (first|((with_reducible refine gate_dst (N:= 1) rfl ?_);refine box_event ?hg (N:= 1) ?hd (cs:= #[.slice g2 z0.length b2,.slice y1 o0.length o1,.slice d2 y0.length z1]) (t:= 29) ?hr ?_;(case hd => rfl);(case hg => rfl);(case hr => first|(go_simp;done)|(go_simp;rfl));intro d1 hg w5 hbox hb;have n0_:= mk (below_step (by repeat (first|(with_reducible first|exact HB.out|apply below_alloc|apply pw_below_drewN|apply below_drew1)|exact HB.out)) hb);have n1_:= mk (hbox);have n2_:= mk ((by rw [hg];exact (below_size (by repeat (first|(with_reducible first|exact HB.out|apply below_alloc|apply pw_below_drewN|apply below_drew1)|exact HB.out))) : w.heap.size ≤ d1));have n3_:= mk ((by rw [hg];exact (below_size (by repeat (first|(with_reducible first|exact HB.out|apply below_alloc|apply pw_below_drewN|apply below_drew1)|exact HB.out))) : w.heap.size ≤ d1));clear HB;have HB:= n0_;have j0:= n1_;have g5:= n2_;have k1:= n3_;clear n0_ n1_ n2_ n3_;clear hb hbox hg)|((with_reducible refine gate_dst (N:= 2) rfl ?_);refine box_event ?hg (N:= 2) ?hd (cs:= #[.slice none 0 0,.slice none 0 0,.slice none 0 0]) (t:= 29) ?hr ?_;(case hd => rfl);(case hg => rfl);(case hr => first|(go_simp;done)|(go_simp;rfl));intro k0 hg w6 hbox hb;have n0_:= mk (blk_below (g:= d1) (o:= .cells #[.slice g2 z0.length b2,.slice y1 o0.length o1,.slice d2 y0.length z1] 29 (0,0)) (ub j0.out) hb);have n1_:= mk (below_step (by repeat (first|(with_reducible first|exact HB.out|apply below_alloc|apply pw_below_drewN|apply below_drew1|refine below_set ?_ k1.out)|exact HB.out)) hb);have n2_:= mk (hbox);have n3_:= mk ((by rw [hg];exact (below_size (by repeat (first|(with_reducible first|exact HB.out|apply below_alloc|apply pw_below_drewN|apply below_drew1|refine below_set ?_ k1.out)|exact HB.out))) : w.heap.size ≤ k0));have n4_:= mk ((by rw [hg];exact (below_size (by repeat (first|(with_reducible first|exact HB.out|apply below_alloc|apply pw_below_drewN|apply below_drew1|refine below_set ?_ k1.out)|exact HB.out))) : w.heap.size ≤ k0));have n5_:= mk ((by rw [hg];exact Nat.ne_of_lt (blk_lt (g:= d1) (o:= .cells #[.slice g2 z0.length b2,.slice y1 o0.length o1,.slice d2 y0.length z1] 29 (0,0)) (ub j0.out)) : d1 ≠ k0));have n6_:= mk ((by rw [hg];exact Nat.ne_of_gt (blk_lt (g:= d1) (o:= .cells #[.slice g2 z0.length b2,.slice y1 o0.length o1,.slice d2 y0.length z1] 29 (0,0)) (ub j0.out)) : k0 ≠ d1));clear j0;clear HB;have j0:= n0_;have HB:= n1_;have m0:= n2_;have d5:= n3_;have j2:= n4_;have d0:= n5_;have j1:= n6_;clear n0_ n1_ n2_ n3_ n4_ n5_ n6_;clear hb hbox hg))
  have n0_:= mk (blk_drew j0.out)
  have n1_:= mk (blk_drew m0.out)
  have n2_:= mk (below_drew1 HB.out)
  clear j0
  clear m0
  clear HB
  have j0:= n0_
  have m0:= n1_
  have HB:= n2_
  clear n0_ n1_ n2_
  refine start_ (n:= 11) (S:= fun w' => w'.cell? ⟨d1,0,none⟩ = some (.slice g2 z0.length b2) ∧ w'.cell? ⟨d1,1,none⟩ = some (.slice y1 o0.length o1) ∧ w'.cell? ⟨d1,2,none⟩ = some (.slice d2 y0.length z1)) (ds:= []) #[false,false,false,false,false,false,false,false,false,false,false] (by kernel_rfl) rfl rfl ⟨(blk_cell j0.out 0).trans rfl,(blk_cell j0.out 1).trans rfl,(blk_cell j0.out 2).trans rfl⟩ (fun hHeld => ?_);refine with_tabW impl_copyCracker.tab1 impl_copyCracker.bits1 (fun HT_ HW_ => ?_)
  generalize w6.drew = w7 at j0 m0 HB hHeld ⊢
  refine pure_ (i:= 0) (N:= some 3) (v:= ?_) (a':= ?_) #[true,false,false,false,false,false,false,false,false,false,false] rfl rfl (any_of HT_.out (by kernel_rfl)) (fun _ _ _ h => h) (Or.inl ⟨by rfl,?_⟩) ?_ ?_
  rotate_left
  · intro w'
    go_simp
    with_reducible rfl
  rotate_left
  · simp only [sp,i64_w,i32_w]
    rfl
  refine pure_ (i:= 3) (N:= some 6) (v:= ?_) (a':= ?_) #[true,false,false,true,false,false,false,false,false,false,false] rfl rfl (any_of HT_.out (by kernel_rfl)) (fun _ _ _ h => h) (Or.inl ⟨by rfl,?_⟩) ?_ ?_
  rotate_left
  · intro w'
    go_simp
    with_reducible rfl
  rotate_left
  · simp only [sp,i64_w,i32_w]
    rfl
  refine pure_ (i:= 6) (N:= some 9) (v:= ?_) (a':= ?_) #[true,false,false,true,false,false,true,false,false,false,false] rfl rfl (any_of HT_.out (by kernel_rfl)) (fun _ _ _ h => h) (Or.inl ⟨by rfl,?_⟩) ?_ ?_
  rotate_left
  · intro w'
    go_simp
    with_reducible rfl
  rotate_left
  · simp only [sp,i64_w,i32_w]
    rfl
  refine take_ (i:= 1) (N:= some 4) (v:= ?_) (a':= ?_) #[true,true,false,true,false,false,true,false,false,false,false] rfl rfl (take_ofW HT_.out HW_.out (by kernel_rfl)) (fun _ _ _ h => h) (Or.inl ⟨by rfl,?_⟩) hHeld ?_ ?_
  rotate_left
  · rintro w' ⟨s0,s1,s2⟩
    go_simp
    with_reducible rfl
  rotate_left
  · simp only [sp,i64_w,i32_w]
    rfl
  refine take_ (i:= 4) (N:= some 7) (v:= ?_) (a':= ?_) #[true,true,false,true,true,false,true,false,false,false,false] rfl rfl (take_ofW HT_.out HW_.out (by kernel_rfl)) (fun _ _ _ h => h) (Or.inl ⟨by rfl,?_⟩) hHeld ?_ ?_
  rotate_left
  · rintro w' ⟨s0,s1,s2⟩
    go_simp
    with_reducible rfl
  rotate_left
  · simp only [sp,i64_w,i32_w]
    rfl
  refine take_ (i:= 7) (N:= some 10) (v:= ?_) (a':= ?_) #[true,true,false,true,true,false,true,true,false,false,false] rfl rfl (take_ofW HT_.out HW_.out (by kernel_rfl)) (fun _ _ _ h => h) (Or.inl ⟨by rfl,?_⟩) hHeld ?_ ?_
  rotate_left
  · rintro w' ⟨s0,s1,s2⟩
    go_simp
    with_reducible rfl
  rotate_left
  · simp only [sp,i64_w,i32_w]
    rfl
  refine one_ (i:= 2) (N:= some 5) #[true,true,true,true,true,false,true,true,false,false,false] rfl rfl (one_of HT_.out (by kernel_rfl)) (by decide) (fun K hK => ?_)
  refine goes_ Try.func59 (by kernel_rfl) rfl #[.slice g2 z0.length b2] (by rfl) rfl rfl (by (try simp only [List.map_toArray,List.map_cons,List.map_nil]);first|done|rfl|(simp only [List.length_drop,List.length_take];rfl)) ?_
  with_reducible refine (slices_Clone_int_int.calls _ _ z0 o2 _ ?side1 ?side2 A2.out).mono ?_
  (case side1 => exact uc (Kd.C_below y3.out HB.out))
  (case side2 => exact b4.out)
  rintro e w8 ⟨o5,rfl,ho0,hb⟩
  refine ⟨_,rfl,?_⟩
  have n0_:= mk (Kd.R_lower ho0 (below_size (by repeat (first|(with_reducible first|exact HB.out|apply below_alloc|apply pw_below_drewN|apply below_drew1|refine below_set ?_ k1.out|refine below_set ?_ j2.out)|exact HB.out))))
  have n1_:= mk (blk_below (g:= d1) (o:= .cells #[.slice g2 z0.length b2,.slice y1 o0.length o1,.slice d2 y0.length z1] 29 (0,0)) (ub j0.out) hb)
  have n2_:= mk (blk_below (g:= k0) (o:= .cells #[.slice none 0 0,.slice none 0 0,.slice none 0 0] 29 (0,0)) (ub m0.out) hb)
  have n3_:= mk (below_step (by repeat (first|(with_reducible first|exact HB.out|apply below_alloc|apply pw_below_drewN|apply below_drew1|refine below_set ?_ k1.out|refine below_set ?_ j2.out)|exact HB.out)) hb)
  clear j0
  clear m0
  clear HB
  have m1:= n0_
  have j0:= n1_
  have m0:= n2_
  have HB:= n3_
  clear n0_ n1_ n2_ n3_
  (try clear hb)
  (try clear hb2)
  (try clear hk)
  (try clear hi)
  (try clear ho0)
  refine hK.out _ _ ⟨(blk_cell j0.out 0).trans rfl,(blk_cell j0.out 1).trans rfl,(blk_cell j0.out 2).trans rfl⟩ (fun hHeld => ?_)
  clear hK K
  refine norm_ (a':= ?_) ?_ ?_
  rotate_left
  · show Act.put _ (some 5) _ = _
    simp only [sp,i64_w,i32_w]
    rfl
  refine one_ (i:= 5) (N:= some 8) #[true,true,true,true,true,true,true,true,false,false,false] rfl rfl (one_of HT_.out (by kernel_rfl)) (by decide) (fun K hK => ?_)
  refine goes_ Try.func59 (by kernel_rfl) rfl #[.slice y1 o0.length o1] (by rfl) rfl rfl (by (try simp only [List.map_toArray,List.map_cons,List.map_nil]);first|done|rfl|(simp only [List.length_drop,List.length_take];rfl)) ?_
  with_reducible refine (slices_Clone_int_int.calls _ _ o0 m2 _ ?side1 ?side2 A3.out).mono ?_
  (case side1 => exact uc (Kd.C_below j3.out HB.out))
  (case side2 => exact k3.out)
  rintro e w9 ⟨m5,rfl,ho0,hb⟩
  refine ⟨_,rfl,?_⟩
  have n0_:= mk (Kd.R_elder' (up m1.out) (Kd.R_base ho0) hb)
  have n1_:= mk (Kd.R_lower (Kd.R_new' ho0 (Kd.R_lt (up m1.out))) (below_size (by repeat (first|(with_reducible first|exact HB.out|apply below_alloc|apply pw_below_drewN|apply below_drew1|refine below_set ?_ k1.out|refine below_set ?_ j2.out)|exact HB.out))))
  have n2_:= mk (blk_below (g:= d1) (o:= .cells #[.slice g2 z0.length b2,.slice y1 o0.length o1,.slice d2 y0.length z1] 29 (0,0)) (ub j0.out) hb)
  have n3_:= mk (blk_below (g:= k0) (o:= .cells #[.slice none 0 0,.slice none 0 0,.slice none 0 0] 29 (0,0)) (ub m0.out) hb)
  have n4_:= mk (below_step (by repeat (first|(with_reducible first|exact HB.out|apply below_alloc|apply pw_below_drewN|apply below_drew1|refine below_set ?_ k1.out|refine below_set ?_ j2.out)|exact HB.out)) hb)
  clear m1
  clear j0
  clear m0
  clear HB
  have m1:= n0_
  have g3:= n1_
  have j0:= n2_
  have m0:= n3_
  have HB:= n4_
  clear n0_ n1_ n2_ n3_ n4_
  (try clear hb)
  (try clear hb2)
  (try clear hk)
  (try clear hi)
  (try clear ho0)
  refine hK.out _ _ ⟨(blk_cell j0.out 0).trans rfl,(blk_cell j0.out 1).trans rfl,(blk_cell j0.out 2).trans rfl⟩ (fun hHeld => ?_)
  clear hK K
  refine norm_ (a':= ?_) ?_ ?_
  rotate_left
  · show Act.put _ (some 8) _ = _
    simp only [sp,i64_w,i32_w]
    rfl
  refine one_ (i:= 8) (N:= some 11) #[true,true,true,true,true,true,true,true,true,false,false] rfl rfl (one_of HT_.out (by kernel_rfl)) (by decide) (fun K hK => ?_)
  refine goes_ Try.func60 (by kernel_rfl) rfl #[.slice d2 y0.length z1] (by rfl) rfl rfl (by (try simp only [List.map_toArray,List.map_cons,List.map_nil]);first|done|rfl|(simp only [List.length_drop,List.length_take];rfl)) ?_
  with_reducible refine (impl_Pivot.calls _ _ y0 k2 _ ?side1 ?side2 A4.out).mono ?_
  (case side1 => exact uc (Kd.C_below v3.out HB.out))
  (case side2 => exact a4.out)
  rintro e w10 ⟨k5,rfl,ho0,hb⟩
  refine ⟨_,rfl,?_⟩
  have n0_:= mk (Kd.R_below (up m1.out) hb)
  have n1_:= mk (Kd.R_below (up g3.out) hb)
  have n2_:= mk (Kd.R_lower ho0 (below_size (by repeat (first|(with_reducible first|exact HB.out|apply below_alloc|apply pw_below_drewN|apply below_drew1|refine below_set ?_ k1.out|refine below_set ?_ j2.out)|exact HB.out))))
  have n3_:= mk (blk_below (g:= d1) (o:= .cells #[.slice g2 z0.length b2,.slice y1 o0.length o1,.slice d2 y0.length z1] 29 (0,0)) (ub j0.out) hb)
  have n4_:= mk (blk_below (g:= k0) (o:= .cells #[.slice none 0 0,.slice none 0 0,.slice none 0 0] 29 (0,0)) (ub m0.out) hb)
  have n5_:= mk (below_step (by repeat (first|(with_reducible first|exact HB.out|apply below_alloc|apply pw_below_drewN|apply below_drew1|refine below_set ?_ k1.out|refine below_set ?_ j2.out)|exact HB.out)) hb)
  clear m1
  clear g3
  clear j0
  clear m0
  clear HB
  have m1:= n0_
  have g3:= n1_
  have z3:= n2_
  have j0:= n3_
  have m0:= n4_
  have HB:= n5_
  clear n0_ n1_ n2_ n3_ n4_ n5_
  (try clear hb)
  (try clear hb2)
  (try clear hk)
  (try clear hi)
  (try clear ho0)
  obtain ⟨j4,g4,b5⟩:= Kd.R_slice z3.out
  (first|subst b5|(injection b5 with f1_ f2_ f3_;have f4_:= f1_.symm;have f5_:= f3_.symm;clear f1_ f2_ f3_;subst f4_;subst f5_))
  obtain ⟨d4,s3,a5⟩:= Kd.R_slice g3.out
  (first|subst a5|(injection a5 with f1_ f2_ f3_;have f4_:= f1_.symm;have f5_:= f3_.symm;clear f1_ f2_ f3_;subst f4_;subst f5_))
  obtain ⟨q3,o3,z4⟩:= Kd.R_slice m1.out
  (first|subst z4|(injection z4 with f1_ f2_ f3_;have f4_:= f1_.symm;have f5_:= f3_.symm;clear f1_ f2_ f3_;subst f4_;subst f5_))
  refine hK.out _ _ ⟨(blk_cell j0.out 0).trans rfl,(blk_cell j0.out 1).trans rfl,(blk_cell j0.out 2).trans rfl⟩ (fun hHeld => ?_)
  clear hK K
  refine norm_ (a':= ?_) ?_ ?_
  rotate_left
  · show Act.put _ (some 11) _ = _
    simp only [sp,i64_w,i32_w]
    rfl
  refine pure_ (i:= 9) (N:= some 12) (v:= ?_) (a':= ?_) #[true,true,true,true,true,true,true,true,true,true,false] rfl rfl (any_of HT_.out (by kernel_rfl)) (fun _ _ _ h => h) (Or.inl ⟨by rfl,?_⟩) ?_ ?_
  rotate_left
  · intro w'
    go_simp
    with_reducible rfl
  rotate_left
  · simp only [sp,i64_w,i32_w]
    rfl
  refine one_ (i:= 10) (N:= none) #[true,true,true,true,true,true,true,true,true,true,true] rfl rfl (one_of HT_.out (by kernel_rfl)) (by decide) (fun K hK => ?_)
  have hs14 : w10.cell? ⟨k0,0,none⟩ = some (.slice none 0 0):= (blk_cell m0.out 0).trans rfl
  have hfs14:= blk_frozen m0.out 0
  have hns14_0:= d0.out
  have hms14_0:= j1.out
  have hs15 : w10.cell? ⟨k0,1,none⟩ = some (.slice none 0 0):= (blk_cell m0.out 1).trans rfl
  have hfs15:= blk_frozen m0.out 1
  have hns15_0:= d0.out
  have hms15_0:= j1.out
  have hs16 : w10.cell? ⟨k0,2,none⟩ = some (.slice none 0 0):= (blk_cell m0.out 2).trans rfl
  have hfs16:= blk_frozen m0.out 2
  have hns16_0:= d0.out
  have hms16_0:= j1.out
  refine skip_ (w1:= ?_) (by rfl) rfl ?_ ?_
  rotate_left
  · go_simp
    rfl
  refine hK.out _ _ ⟨((cell_far (p:= ⟨k0,_,none⟩) d0.out _).trans (((cell_far (p:= ⟨k0,_,none⟩) d0.out _).trans (((cell_far (p:= ⟨k0,_,none⟩) d0.out _).trans (hHeld.1)))))),((cell_far (p:= ⟨k0,_,none⟩) d0.out _).trans (((cell_far (p:= ⟨k0,_,none⟩) d0.out _).trans (((cell_far (p:= ⟨k0,_,none⟩) d0.out _).trans (hHeld.2.1)))))),((cell_far (p:= ⟨k0,_,none⟩) d0.out _).trans (((cell_far (p:= ⟨k0,_,none⟩) d0.out _).trans (((cell_far (p:= ⟨k0,_,none⟩) d0.out _).trans (hHeld.2.2))))))⟩ (fun hHeld => ?_)
  clear hK K
  refine done_ (done_of HT_.out (by kernel_rfl)) ?_
  try go_wp2
  refine bodyPost_ret (results_cell_row rfl _ _ k0 29 #[.slice q3 o2.length o3,.slice d4 m2.length s3,.slice j4 k2.length g4] (0,0) _ rfl (by (with_reducible repeat (first|refine blk_drewN ?_ _|refine blk_drew ?_|refine blk_alloc ?_ _));refine blk_put (cs:= #[.slice q3 o2.length o3,.slice d4 m2.length s3,.slice none 0 0]) ?_ 2 _ rfl;(with_reducible repeat (first|refine blk_drewN ?_ _|refine blk_drew ?_|refine blk_alloc ?_ _));refine blk_put (cs:= #[.slice q3 o2.length o3,.slice none 0 0,.slice none 0 0]) ?_ 1 _ rfl;(with_reducible repeat (first|refine blk_drewN ?_ _|refine blk_drew ?_|refine blk_alloc ?_ _));refine blk_put (cs:= #[.slice none 0 0,.slice none 0 0,.slice none 0 0]) ?_ 0 _ rfl;(with_reducible repeat (first|refine blk_drewN ?_ _|refine blk_drew ?_|refine blk_alloc ?_ _));exact m0.out) Try.underlying29 rfl (by kernel_rfl)) rfl ?_
  exact ⟨_,_,_,by first|rfl|(simp [errW_none,errW_some] <;> rfl)|(simp [*,errW_none,errW_some] <;> rfl),by exact up (Kd.R_mono (Kd.R_far (p:= ⟨k0,2,none⟩) (Kd.R_far (p:= ⟨k0,1,none⟩) (Kd.R_far (p:= ⟨k0,0,none⟩) (Kd.R_types m1.out m0.out (by decide)) (fun _ hk => hk.2) (.slice q3 o2.length o3)) (fun _ hk => hk.2) (.slice d4 m2.length s3)) (fun _ hk => hk.2) (.slice j4 k2.length g4)) (fun _ hk => by first|exact hk.1.2|(revert hk;simp only [and_imp];intros;(repeat' (refine And.intro ?_ ?_)) <;> assumption))),by exact up (Kd.R_mono (Kd.R_far (p:= ⟨k0,2,none⟩) (Kd.R_far (p:= ⟨k0,1,none⟩) (Kd.R_far (p:= ⟨k0,0,none⟩) (Kd.R_types g3.out m0.out (by decide)) (fun _ hk => hk.2) (.slice q3 o2.length o3)) (fun _ hk => hk.2) (.slice d4 m2.length s3)) (fun _ hk => hk.2) (.slice j4 k2.length g4)) (fun _ hk => by first|exact hk.1.2|(revert hk;simp only [and_imp];intros;(repeat' (refine And.intro ?_ ?_)) <;> assumption))),by exact up (Kd.R_mono (Kd.R_far (p:= ⟨k0,2,none⟩) (Kd.R_far (p:= ⟨k0,1,none⟩) (Kd.R_far (p:= ⟨k0,0,none⟩) (Kd.R_types z3.out m0.out (by decide)) (fun _ hk => hk.2) (.slice q3 o2.length o3)) (fun _ hk => hk.2) (.slice d4 m2.length s3)) (fun _ hk => hk.2) (.slice j4 k2.length g4)) (fun _ hk => trivial)),by repeat (first|(with_reducible first|exact HB.out|apply below_alloc|apply pw_below_drewN|apply below_drew1|refine below_set ?_ k1.out|refine below_set ?_ j2.out)|exact HB.out)⟩

/-! ### impl_Cracker_put: function 33 -/
def impl_Cracker_put.f (a0 : Int) (a1 : Int) : Option (Int) := some (if a0 = a1 then 0 else 1)
set_option maxHeartbeats 4000000 in
set_option maxRecDepth 1000000 in
theorem impl_Cracker_put.callsS {okP : Nat → Prop} (w0 W : World) (gb : Nat) (v0 v1 v2 : Value) (V R : List Int) (P : List (S50)) (a1 a2 r : Int) (hB : Below w0.heap.size w0 W) (h : Cs.CS okP k50 50 29 w0.heap.size W gb v0 v1 v2 V R P)
    (t0 : 0 ≤ a1) (t1 : a1 < (V.length : Int)) (t2 : a1 < (R.length : Int)) (f0 : 0 ≤ a2) (f1 : a2 < (V.length : Int)) (f2 : a2 < (R.length : Int)) (hr : impl_Cracker_put.f a1 a2 = some r) :
    Calls Try.prog 33 #[.pointer (some ⟨gb, 0, none⟩), .int .i64 a1, .int .i64 a2] W fun e w' => e = .returned (.int .i64 r) ∧
      (Cs.CS okP k50 50 29 w0.heap.size w' gb v0 v1 v2 (V.set a1.toNat (rd V a2)) (R.set a1.toNat (rd R a2)) P ∧ Below w0.heap.size w0 w' ∧ Cs.Far W w') := by
  have hu:= Try.underlying29
  obtain rfl:= Option.some.inj hr
  by_cases he : a1 = a2
  · subst he
    have H:= mk h
    have HB:= mk hB
    have e1:= mk (Cs.set_self V a1 t0 t1)
    have e2:= mk (Cs.set_self R a1 t0 t2)
    clear h hB hr
    go_enter Try.func33,Try.ntmps33
    go_wp2
    go_ret
    exact ⟨by simp,by rw [e1.out,e2.out];exact H.out,HB.out,Nat.le_refl _,fun _ _ _ _ h => h⟩
  · obtain ⟨g0,c0,e0,b0,l0,q0⟩:= Kd.R_form h.r0 (by omega)
    obtain ⟨g1,c1,e1,b1,l1,q1⟩:= Kd.R_form h.r1 (by omega)
    subst e0 e1
    have hg : g0 ≠ g1:= fun e => h.r0.1 g0 rfl (by rw [e];rfl)
    have hg' : g1 ≠ g0:= fun e => hg e.symm
    have n0 : gb ≠ g0:= fun e => Kd.R_ne h.r0 h.blk (by decide) (by rw [e];rfl)
    have n1 : gb ≠ g1:= fun e => Kd.R_ne h.r1 h.blk (by decide) (by rw [e];rfl)
    have n0' : g0 ≠ gb:= fun e => n0 e.symm
    have n1' : g1 ≠ gb:= fun e => n1 e.symm
    have hb0 : W.cell? ⟨gb,0,none⟩ = some (.slice (some ⟨g0,0,none⟩) V.length c0):= (blk_cell h.blk 0).trans rfl
    have hb1 : W.cell? ⟨gb,1,none⟩ = some (.slice (some ⟨g1,0,none⟩) R.length c1):= (blk_cell h.blk 1).trans rfl
    obtain ⟨ct0,ft0⟩:= Kd.R_celln 0 h.r0 a1 t0 t1
    obtain ⟨cf0,ff0⟩:= Kd.R_celln 0 h.r0 a2 f0 f1
    obtain ⟨ct1,ft1⟩:= Kd.R_celln 0 h.r1 a1 t0 t2
    obtain ⟨cf1,ff1⟩:= Kd.R_celln 0 h.r1 a2 f0 f2
    replace cf0 : W.cell? ⟨g0,a2.toNat,none⟩ = some (.int .i64 (rd V a2)):= cf0
    replace cf1 : W.cell? ⟨g1,a2.toNat,none⟩ = some (.int .i64 (rd R a2)):= cf1
    have HS:= mk ((h.drew.setV (by decide) (by decide) a1 (rd V a2)).setR (by decide) (by decide) a1 (rd R a2))
    have HB:= mk (below_set (j:= a1.toNat) (v:= .int .i64 (rd R a2)) (below_set (j:= a1.toNat) (v:= .int .i64 (rd V a2)) (below_drew1 hB) b0) b1)
    have HF:= mk (show Cs.Far W ((W.drew.setCell ⟨g0,a1.toNat,none⟩ (.int .i64 (rd V a2))).setCell ⟨g1,a1.toNat,none⟩ (.int .i64 (rd R a2))) from
      ⟨by simp,fun g cs T hT hh => Cs.far3 (Kd.R_mono (h.drew.setV (by decide) (by decide) a1 (rd V a2)).r1 (fun _ hk => hk)) (Cs.far3 h.drew.r0 hh hT _ _) hT _ _⟩)
    have hv : (a1 == a2) = false:= by simpa using he
    have he2 : ¬ a2 = a1:= fun e => he e.symm
    have hv2 : (a2 == a1) = false:= by simpa using he2
    clear h hB q0 q1 b0 l0 b1 l1 ff0 ff1
    go_enter Try.func33,Try.ntmps33
    go_wp2
    go_region
    go_wp2
    go_ret
    exact ⟨rfl,HS.out,HB.out,HF.out⟩


end Go.Proofs.Ytlikcmonejefoab.PFnExactRippleDelete
