-- printed by a program of this session, a turned copy of the print of the kit
import Derived.Test.YtlikcmonejefoabSq
import Derived.Test.YtlikcmonejefoabPFnExactRippleDeletex0
import Derived.Test.YtlikcmonejefoabPFnExactRippleDeletex6
namespace Go.Proofs.Ytlikcmonejefoab.PFnExactRippleDelete
open Go.RowKit Go.Proofs.YtlikcmonejefoabW.PrintWords Go.Proofs.YtlikcmonejefoabW.PrintLast Go.Proofs.YtlikcmonejefoabW.PrintMore Go.Proofs.Ytlikcmonejefoab.Sq
attribute [local go_sem] max2_int min2_int max_two min_two max_three min_three max_four min_four Giv.cell_twice   -- for this text's walks alone
set_option linter.unusedVariables false
set_option linter.unusedSimpArgs false

/-! ### impl_IsCracker: function 19 -/
mutual
def impl_IsCracker.j0 : Nat → Bool → List Int → List Int → List (S50) → Option (Bool)
 | 0, _, _, _, _ => none
 | k + 1, x33, j1, g1, d1 => if x33 = true then (some false) else (impl_IsCracker.l0 k g1 (g1.length : Int) 0 j1 g1 d1)
def impl_IsCracker.l0 : Nat → List Int → Int → Int → List Int → List Int → List (S50) → Option (Bool)
 | 0, _, _, _, _, _, _ => none
 | k + 1, x35, x36, x37, j1, g1, d1 => if x37 < x36 then (if 0 ≤ x37 then (if x37 < (x35.length : Int) then (if x37 ≤ (g1.length : Int) then ((slices_Contains_int_int.f k (g1.take (x37 : Int).toNat) (rd x35 x37)).bind fun ka3 => (if ka3 = true then (some false) else (impl_IsCracker.l0 k x35 x36 (wrap64 (x37 + 1)) j1 g1 d1))) else (none)) else (none)) else (none)) else (impl_IsCracker.l1 k d1 (d1.length : Int) 0 j1 g1 d1)
def impl_IsCracker.l1 : Nat → List (S50) → Int → Int → List Int → List Int → List (S50) → Option (Bool)
 | 0, _, _, _, _, _, _ => none
 | k + 1, x50, x51, x52, j1, g1, d1 => if x52 < x51 then (if 0 ≤ x52 then (if x52 < (x50.length : Int) then ((impl_bound.f ((rd_T50 x50 x52).f0)).bind fun ja3 => (if ja3 = true then (if ((rd_T50 x50 x52).f1) < 0 then (impl_IsCracker.j3 k x50 x51 x52 true j1 g1 d1 ((rd_T50 x50 x52).f0) ((rd_T50 x50 x52).f1)) else (if ((rd_T50 x50 x52).f1) > (j1.length : Int) then (impl_IsCracker.j3 k x50 x51 x52 true j1 g1 d1 ((rd_T50 x50 x52).f0) ((rd_T50 x50 x52).f1)) else (if x52 > 0 then (if 0 ≤ (wrap64 (x52 - 1)) then (if (wrap64 (x52 - 1)) < (d1.length : Int) then (if ((rd_T50 x50 x52).f0) ≤ ((rd_T50 d1 (wrap64 (x52 - 1))).f0) then (impl_IsCracker.j3 k x50 x51 x52 true j1 g1 d1 ((rd_T50 x50 x52).f0) ((rd_T50 x50 x52).f1)) else (impl_IsCracker.j3 k x50 x51 x52 (decide (((rd_T50 x50 x52).f1) < ((rd_T50 d1 (wrap64 (x52 - 1))).f1))) j1 g1 d1 ((rd_T50 x50 x52).f0) ((rd_T50 x50 x52).f1))) else (none)) else (none)) else (impl_IsCracker.j3 k x50 x51 x52 false j1 g1 d1 ((rd_T50 x50 x52).f0) ((rd_T50 x50 x52).f1))))) else (impl_IsCracker.j3 k x50 x51 x52 true j1 g1 d1 ((rd_T50 x50 x52).f0) ((rd_T50 x50 x52).f1)))) else (none)) else (none)) else (some true)
def impl_IsCracker.j3 : Nat → List (S50) → Int → Int → Bool → List Int → List Int → List (S50) → Int → Int → Option (Bool)
 | 0, _, _, _, _, _, _, _, _, _ => none
 | k + 1, x50, x51, x52, za6, j1, g1, d1, o3, m3 => if za6 = true then (some false) else (impl_IsCracker.l2 k x50 x51 x52 j1 (j1.length : Int) 0 j1 g1 d1 o3 m3)
def impl_IsCracker.l2 : Nat → List (S50) → Int → Int → List Int → Int → Int → List Int → List Int → List (S50) → Int → Int → Option (Bool)
 | 0, _, _, _, _, _, _, _, _, _, _, _ => none
 | k + 1, x50, x51, x52, sa3, ma6, oa2, j1, g1, d1, o3, m3 => if oa2 < ma6 then (if 0 ≤ oa2 then (if oa2 < (sa3.length : Int) then (if ((decide ((rd sa3 oa2) < o3)) != (decide (oa2 < m3))) = true then (some false) else (impl_IsCracker.l2 k x50 x51 x52 sa3 ma6 (wrap64 (oa2 + 1)) j1 g1 d1 o3 m3)) else (none)) else (none)) else (impl_IsCracker.l1 k x50 x51 (wrap64 (x52 + 1)) j1 g1 d1)
end
def impl_IsCracker.f (k : Nat) (v0 : List Int) (q0 : List Int) (g0 : List (S50)) : Option (Bool) := (impl_AreValues.f v0).bind fun qa2 => (if qa2 = true then (if (q0.length : Int) = (v0.length : Int) then ((impl_within.f q0 0 999).bind fun k9 => (if k9 = true then (impl_IsCracker.j0 k (decide ((g0.length : Int) > 2001)) v0 q0 g0) else (impl_IsCracker.j0 k true v0 q0 g0))) else (impl_IsCracker.j0 k true v0 q0 g0)) else (impl_IsCracker.j0 k true v0 q0 g0))
theorem impl_IsCracker.mono_l : ∀ k, (∀ y0 y1 y2 y3, LeO (impl_IsCracker.j0 k y0 y1 y2 y3) (impl_IsCracker.j0 (k + 1) y0 y1 y2 y3)) ∧ (∀ y0 y1 y2 y3 y4 y5, LeO (impl_IsCracker.l0 k y0 y1 y2 y3 y4 y5) (impl_IsCracker.l0 (k + 1) y0 y1 y2 y3 y4 y5)) ∧ (∀ y0 y1 y2 y3 y4 y5, LeO (impl_IsCracker.l1 k y0 y1 y2 y3 y4 y5) (impl_IsCracker.l1 (k + 1) y0 y1 y2 y3 y4 y5)) ∧ (∀ y0 y1 y2 y3 y4 y5 y6 y7 y8, LeO (impl_IsCracker.j3 k y0 y1 y2 y3 y4 y5 y6 y7 y8) (impl_IsCracker.j3 (k + 1) y0 y1 y2 y3 y4 y5 y6 y7 y8)) ∧ (∀ y0 y1 y2 y3 y4 y5 y6 y7 y8 y9 y10, LeO (impl_IsCracker.l2 k y0 y1 y2 y3 y4 y5 y6 y7 y8 y9 y10) (impl_IsCracker.l2 (k + 1) y0 y1 y2 y3 y4 y5 y6 y7 y8 y9 y10))
 | 0 => ⟨fun _ _ _ _ r h => by simp [impl_IsCracker.j0] at h, fun _ _ _ _ _ _ r h => by simp [impl_IsCracker.l0] at h, fun _ _ _ _ _ _ r h => by simp [impl_IsCracker.l1] at h, fun _ _ _ _ _ _ _ _ _ r h => by simp [impl_IsCracker.j3] at h, fun _ _ _ _ _ _ _ _ _ _ _ r h => by simp [impl_IsCracker.l2] at h⟩
 | k + 1 => by
  obtain ⟨ih0, ih1, ih2, ih3, ih4⟩ := impl_IsCracker.mono_l k
  refine ⟨?_, ?_, ?_, ?_, ?_⟩
  ·intro y0 y1 y2 y3
   unfold impl_IsCracker.j0
   repeat' first
   | (with_reducible exact ih0 _ _ _ _)
   | (with_reducible exact ih1 _ _ _ _ _ _)
   | (with_reducible exact ih2 _ _ _ _ _ _)
   | (with_reducible exact ih3 _ _ _ _ _ _ _ _ _)
   | (with_reducible exact ih4 _ _ _ _ _ _ _ _ _ _ _)
   | (with_reducible exact slices_Contains_int_int.mono _ _ _)
   | (with_reducible exact LeO.refl _)
   | (with_reducible exact LeO.none _)
   | (with_reducible refine LeO.ite ?_ ?_)
   | (with_reducible refine LeO.bind ?_ (fun _ => ?_))
   | exact ih0 _ _ _ _
   | exact ih1 _ _ _ _ _ _
   | exact ih2 _ _ _ _ _ _
   | exact ih3 _ _ _ _ _ _ _ _ _
   | exact ih4 _ _ _ _ _ _ _ _ _ _ _
   | exact slices_Contains_int_int.mono _ _ _
   | exact LeO.none _
   | refine LeO.ite ?_ ?_
   | refine LeO.bind ?_ (fun _ => ?_)
  ·intro y0 y1 y2 y3 y4 y5
   unfold impl_IsCracker.l0
   repeat' first
   | (with_reducible exact ih0 _ _ _ _)
   | (with_reducible exact ih1 _ _ _ _ _ _)
   | (with_reducible exact ih2 _ _ _ _ _ _)
   | (with_reducible exact ih3 _ _ _ _ _ _ _ _ _)
   | (with_reducible exact ih4 _ _ _ _ _ _ _ _ _ _ _)
   | (with_reducible exact slices_Contains_int_int.mono _ _ _)
   | (with_reducible exact LeO.refl _)
   | (with_reducible exact LeO.none _)
   | (with_reducible refine LeO.ite ?_ ?_)
   | (with_reducible refine LeO.bind ?_ (fun _ => ?_))
   | exact ih0 _ _ _ _
   | exact ih1 _ _ _ _ _ _
   | exact ih2 _ _ _ _ _ _
   | exact ih3 _ _ _ _ _ _ _ _ _
   | exact ih4 _ _ _ _ _ _ _ _ _ _ _
   | exact slices_Contains_int_int.mono _ _ _
   | exact LeO.none _
   | refine LeO.ite ?_ ?_
   | refine LeO.bind ?_ (fun _ => ?_)
  ·intro y0 y1 y2 y3 y4 y5
   unfold impl_IsCracker.l1
   repeat' first
   | (with_reducible exact ih0 _ _ _ _)
   | (with_reducible exact ih1 _ _ _ _ _ _)
   | (with_reducible exact ih2 _ _ _ _ _ _)
   | (with_reducible exact ih3 _ _ _ _ _ _ _ _ _)
   | (with_reducible exact ih4 _ _ _ _ _ _ _ _ _ _ _)
   | (with_reducible exact slices_Contains_int_int.mono _ _ _)
   | (with_reducible exact LeO.refl _)
   | (with_reducible exact LeO.none _)
   | (with_reducible refine LeO.ite ?_ ?_)
   | (with_reducible refine LeO.bind ?_ (fun _ => ?_))
   | exact ih0 _ _ _ _
   | exact ih1 _ _ _ _ _ _
   | exact ih2 _ _ _ _ _ _
   | exact ih3 _ _ _ _ _ _ _ _ _
   | exact ih4 _ _ _ _ _ _ _ _ _ _ _
   | exact slices_Contains_int_int.mono _ _ _
   | exact LeO.none _
   | refine LeO.ite ?_ ?_
   | refine LeO.bind ?_ (fun _ => ?_)
  ·intro y0 y1 y2 y3 y4 y5 y6 y7 y8
   unfold impl_IsCracker.j3
   repeat' first
   | (with_reducible exact ih0 _ _ _ _)
   | (with_reducible exact ih1 _ _ _ _ _ _)
   | (with_reducible exact ih2 _ _ _ _ _ _)
   | (with_reducible exact ih3 _ _ _ _ _ _ _ _ _)
   | (with_reducible exact ih4 _ _ _ _ _ _ _ _ _ _ _)
   | (with_reducible exact slices_Contains_int_int.mono _ _ _)
   | (with_reducible exact LeO.refl _)
   | (with_reducible exact LeO.none _)
   | (with_reducible refine LeO.ite ?_ ?_)
   | (with_reducible refine LeO.bind ?_ (fun _ => ?_))
   | exact ih0 _ _ _ _
   | exact ih1 _ _ _ _ _ _
   | exact ih2 _ _ _ _ _ _
   | exact ih3 _ _ _ _ _ _ _ _ _
   | exact ih4 _ _ _ _ _ _ _ _ _ _ _
   | exact slices_Contains_int_int.mono _ _ _
   | exact LeO.none _
   | refine LeO.ite ?_ ?_
   | refine LeO.bind ?_ (fun _ => ?_)
  ·intro y0 y1 y2 y3 y4 y5 y6 y7 y8 y9 y10
   unfold impl_IsCracker.l2
   repeat' first
   | (with_reducible exact ih0 _ _ _ _)
   | (with_reducible exact ih1 _ _ _ _ _ _)
   | (with_reducible exact ih2 _ _ _ _ _ _)
   | (with_reducible exact ih3 _ _ _ _ _ _ _ _ _)
   | (with_reducible exact ih4 _ _ _ _ _ _ _ _ _ _ _)
   | (with_reducible exact slices_Contains_int_int.mono _ _ _)
   | (with_reducible exact LeO.refl _)
   | (with_reducible exact LeO.none _)
   | (with_reducible refine LeO.ite ?_ ?_)
   | (with_reducible refine LeO.bind ?_ (fun _ => ?_))
   | exact ih0 _ _ _ _
   | exact ih1 _ _ _ _ _ _
   | exact ih2 _ _ _ _ _ _
   | exact ih3 _ _ _ _ _ _ _ _ _
   | exact ih4 _ _ _ _ _ _ _ _ _ _ _
   | exact slices_Contains_int_int.mono _ _ _
   | exact LeO.none _
   | refine LeO.ite ?_ ?_
   | refine LeO.bind ?_ (fun _ => ?_)
theorem impl_IsCracker.mono : ∀ a0 a1 a2 k, LeO (impl_IsCracker.f k a0 a1 a2) (impl_IsCracker.f (k + 1) a0 a1 a2) := by
 intro a0 a1 a2 k
 obtain ⟨ih0,ih1,ih2,ih3,ih4⟩:= impl_IsCracker.mono_l k
 unfold impl_IsCracker.f
 repeat' first
  |(with_reducible exact ih0 _ _ _ _)
  |(with_reducible exact ih1 _ _ _ _ _ _)
  |(with_reducible exact ih2 _ _ _ _ _ _)
  |(with_reducible exact ih3 _ _ _ _ _ _ _ _ _)
  |(with_reducible exact ih4 _ _ _ _ _ _ _ _ _ _ _)
  |(with_reducible exact slices_Contains_int_int.mono _ _ _)
  |(with_reducible exact LeO.refl _)
  |(with_reducible exact LeO.none _)
  |(with_reducible refine LeO.ite ?_ ?_)
  |(with_reducible refine LeO.bind ?_ (fun _ => ?_))
  |exact ih0 _ _ _ _
  |exact ih1 _ _ _ _ _ _
  |exact ih2 _ _ _ _ _ _
  |exact ih3 _ _ _ _ _ _ _ _ _
  |exact ih4 _ _ _ _ _ _ _ _ _ _ _
  |exact slices_Contains_int_int.mono _ _ _
  |exact LeO.none _
  |refine LeO.ite ?_ ?_
  |refine LeO.bind ?_ (fun _ => ?_)
def impl_IsCracker.T12 : Bool × List (List Nat × List Nat) := (true, [([], []), ([0], [0]), ([1], [1]), ([2], [2]), ([3, 2], [3]), ([4], [4]), ([5, 4], [4, 5]), ([6, 4], [4, 6]), ([4, 7], [4, 7]), ([8, 4], [8]), ([9], [9]), ([10, 9], [9, 10]), ([9], [9]), ([12, 9], [9, 12]), ([13, 9], [9, 13]), ([11, 14, 9], [9, 11, 14]), ([9, 15], [9, 15]), ([16, 9], [16]), ([17], [17]), ([18, 17], [17, 18]), ([19, 17, 17], [17, 19]), ([20], [20]), ([21, 20], [20, 21]), ([20], [20]), ([23, 20], [20, 23]), ([20], [20]), ([25, 20], [20, 25]), ([24, 26, 20], [20, 24, 26]), ([27, 20], [20, 27]), ([28, 20], [20, 28]), ([22, 29, 20], [20, 22, 29]), ([30, 20, 20], [20, 30]), ([31], [31]), ([32, 31], [31, 32]), ([31], [31]), ([34, 31], [31, 34]), ([31], [31]), ([36, 31], [31, 36]), ([35, 37, 31], [31, 35, 37]), ([38, 31], [31, 38]), ([39, 31], [31, 39]), ([33, 40, 31], [31, 33, 40]), ([31, 41, 20], [20, 31, 41]), ([20, 42, 17], [17, 20, 42]), ([17, 43], [17, 43])])
def impl_IsCracker.B12 : List Nat := [0, 1, 3, 7, 15, 31, 63, 127, 255, 511, 1023, 2047, 1023, 5119, 13311, 32767, 65535, 131071, 262143, 524287, 1048575, 2097151, 4194303, 2097151, 10485759, 2097151, 35651583, 127926271, 262143999, 530579455, 1073741823, 2147483647, 4294967295, 8589934591, 4294967295, 21474836479, 4294967295, 73014444031, 261993005055, 536870911999, 1086626725887, 2199023255551, 4398046511103, 8796093022207, 17592186044415]
theorem impl_IsCracker.tab12 : rtab .any (opsOf Try.f19 12) = impl_IsCracker.T12 := by kernel_rfl
theorem impl_IsCracker.bits12 : waitsOk impl_IsCracker.T12.2 impl_IsCracker.B12 = true := by kernel_rfl
set_option maxHeartbeats 8000000 in
set_option maxRecDepth 100000 in
theorem impl_IsCracker.calls (k : Nat) (d2 : Option Addr) (b2 : Nat) (v0 : List Int) (j2 : Option Addr) (z1 : Nat) (q0 : List Int) (b3 : Option Addr) (g2 : Nat) (g0 : List (S50)) (r : Bool) (w : World) (aa3 : Kd.C (Kd.int .i64) w d2 v0.length v0) (hc0_0 : v0.length ≤ b2) (za2 : Kd.C (Kd.int .i64) w j2 q0.length q0) (hc0_1 : q0.length ≤ z1) (ya2 : Kd.C k50 w b3 g0.length g0) (hc0_2 : g0.length ≤ g2) (h : impl_IsCracker.f k v0 q0 g0 = some r) :
  Calls Try.prog 19 #[.agg #[.slice d2 v0.length b2, .slice j2 q0.length z1, .slice b3 g0.length g2]] w fun e w' => e = .returned (.bool r) ∧ Below w.heap.size w w' := by
 have hu29:= Try.underlying29
 have hu50:= Try.underlying50
 have b8:= mk aa3
 have s9:= mk hc0_0
 clear aa3 hc0_0
 have a8:= mk za2
 have q9:= mk hc0_1
 clear za2 hc0_1
 have o9:= mk ya2
 have ma8:= mk hc0_2
 clear ya2 hc0_2
 have HB:= mk (Below.refl w.heap.size w)
 have H : ((impl_AreValues.f v0).bind fun qa2 => (if qa2 = true then (if (q0.length : Int) = (v0.length : Int) then ((impl_within.f q0 0 999).bind fun k9 => (if k9 = true then (impl_IsCracker.j0 k (decide ((g0.length : Int) > 2001)) v0 q0 g0) else (impl_IsCracker.j0 k true v0 q0 g0))) else (impl_IsCracker.j0 k true v0 q0 g0)) else (impl_IsCracker.j0 k true v0 q0 g0))) = some r:= h
 clear h
 have HC2:= mk H
 clear H
 go_enter Try.func19,Try.ntmps19
 go_upto_region 1 with (first|((with_reducible refine gate_dst (N:= 1) rfl ?_);(try (refine gate_guard (by rfl) ?_;dsimp only));refine box_event ?hg (N:= 1) ?hd (cs:= #[.slice d2 v0.length b2,.slice j2 q0.length z1,.slice b3 g0.length g2]) (t:= 29) ?hr ?_;(case hd => rfl);(case hg => rfl);(case hr => first|(go_simp;done)|(go_simp;rfl));intro o0 hg w3 hbox hb;have n0_:= mk (below_step (by repeat (first|(with_reducible first|exact HB.out|apply below_alloc|apply pw_below_drewN|apply below_drew1)|exact HB.out)) hb);have n1_:= mk (hbox);have n2_:= mk ((by rw [hg];exact (below_size (by repeat (first|(with_reducible first|exact HB.out|apply below_alloc|apply pw_below_drewN|apply below_drew1)|exact HB.out))) : w.heap.size ≤ o0));have n3_:= mk ((by rw [hg];exact (below_size (by repeat (first|(with_reducible first|exact HB.out|apply below_alloc|apply pw_below_drewN|apply below_drew1)|exact HB.out))) : w.heap.size ≤ o0));clear HB;have HB:= n0_;have d0:= n1_;have qa8:= n2_;have m1:= n3_;clear n0_ n1_ n2_ n3_;clear hb hbox hg))
 (try simp only [Act.put,List.setIfInBounds_toArray,List.set_cons_zero,List.set_cons_succ])
 go_cut [33] (fun v33 wc => ∃ (kq : Nat) (m9 : Bool),v33 = .bool m9 ∧ Aside0 (impl_IsCracker.j0 kq m9 v0 q0 g0 = some r) ∧ Aside0 (kq ≤ k) ∧ Aside0 (wc.heap[o0]? = some (.cells #[(.slice d2 v0.length b2),(.slice j2 q0.length z1),(.slice b3 g0.length g2)] 29 (0,0))) ∧ Aside0 (Below w.heap.size w wc))
 case first =>
  have H:= HC2.out
  clear HC2
  replace H:= Option.bind_eq_some_iff.mp H
  obtain ⟨qa2,A40,H⟩:= H
  replace H : (if qa2 = true then (if (q0.length : Int) = (v0.length : Int) then ((impl_within.f q0 0 999).bind fun k9 => (if k9 = true then (impl_IsCracker.j0 k (decide ((g0.length : Int) > 2001)) v0 q0 g0) else (impl_IsCracker.j0 k true v0 q0 g0))) else (impl_IsCracker.j0 k true v0 q0 g0)) else (impl_IsCracker.j0 k true v0 q0 g0)) = some r:= H
  have A4:= mk A40
  clear A40
  by_cases c5 : qa2 = true
  ·subst c5
   have H1 : (if (q0.length : Int) = (v0.length : Int) then ((impl_within.f q0 0 999).bind fun k9 => (if k9 = true then (impl_IsCracker.j0 k (decide ((g0.length : Int) > 2001)) v0 q0 g0) else (impl_IsCracker.j0 k true v0 q0 g0))) else (impl_IsCracker.j0 k true v0 q0 g0)) = some r:= by rw [if_pos rfl] at H;exact H
   clear H
   have H:= H1
   clear H1
   by_cases c6 : (q0.length : Int) = (v0.length : Int)
   ·rw [if_pos c6] at H
    have aa0 : ((q0.length : Int) == (v0.length : Int)) = true:= beq_iff_eq.mpr c6
    have oa3 : ((q0.length : Int) != (v0.length : Int)) = false:= bne_eq_false_iff_eq.mpr c6
    have ma3 : (q0.length == v0.length) = true:= by first|simpa using c6|(simp at c6 ⊢;omega)
    clear c6
    (first|rw [aa0]|(simp only [i64_w,i32_w];rw [aa0])|skip)
    replace H:= Option.bind_eq_some_iff.mp H
    obtain ⟨k9,A70,H⟩:= H
    replace H : (if k9 = true then (impl_IsCracker.j0 k (decide ((g0.length : Int) > 2001)) v0 q0 g0) else (impl_IsCracker.j0 k true v0 q0 g0)) = some r:= H
    have A7:= mk A70
    clear A70
    by_cases c8 : k9 = true
    ·subst c8
     have H1 : (impl_IsCracker.j0 k (decide ((g0.length : Int) > 2001)) v0 q0 g0) = some r:= by rw [if_pos rfl] at H;exact H
     clear H
     have H:= H1
     clear H1
     have H':= mk H
     clear H
     have a9 : w3.cell? ⟨o0,0,none⟩ = some (.slice d2 v0.length b2):= (blk_cell d0.out 0).trans rfl
     have z8 : w3.cell? ⟨o0,1,none⟩ = some (.slice j2 q0.length z1):= (blk_cell d0.out 1).trans rfl
     have v8 : w3.cell? ⟨o0,2,none⟩ = some (.slice b3 g0.length g2):= (blk_cell d0.out 2).trans rfl
     have k8:= blk_frozen d0.out 0
     have j8:= blk_frozen d0.out 1
     have g8:= blk_frozen d0.out 2
     go_wp2_with (first|((with_reducible refine gate_callee (f:= 47) rfl ?_);refine goesL_ (some 11) rfl rfl Try.func47 (by kernel_rfl) rfl #[.slice d2 v0.length b2] rfl (by (try simp only [List.map_toArray,List.map_cons,List.map_nil]);first|done|rfl|(simp only [List.length_drop,List.length_take];rfl)) ?_;(with_reducible refine (impl_AreValues.calls _ _ v0 true _ ?side1 ?side2 A4.out).mono ?_);(case side1 => exact uc (Kd.C_below b8.out HB.out));(case side2 => exact s9.out);rintro e w10 ⟨rfl,hb⟩;refine ⟨_,rfl,?_⟩;have n0_:= mk (blk_below (g:= o0) (o:= .cells #[.slice d2 v0.length b2,.slice j2 q0.length z1,.slice b3 g0.length g2] 29 (0,0)) (ub d0.out) hb);have n1_:= mk (below_step (by repeat (first|(with_reducible first|exact HB.out|apply below_alloc|apply pw_below_drewN|apply below_drew1|refine below_set ?_ m1.out)|exact HB.out)) hb);clear d0;clear HB;have d0:= n0_;have HB:= n1_;clear n0_ n1_;(try clear hb);(try clear hb2);(try clear hk);(try clear hi);have v7 : w10.cell? ⟨o0,0,none⟩ = some (.slice d2 v0.length b2):= (blk_cell d0.out 0).trans rfl;have q7 : w10.cell? ⟨o0,1,none⟩ = some (.slice j2 q0.length z1):= (blk_cell d0.out 1).trans rfl;have o7 : w10.cell? ⟨o0,2,none⟩ = some (.slice b3 g0.length g2):= (blk_cell d0.out 2).trans rfl;have z5:= blk_frozen d0.out 0;have v5:= blk_frozen d0.out 1;have q5:= blk_frozen d0.out 2)|(go_at_call 48;(with_reducible refine (impl_within.calls _ _ q0 0 999 true _ ?side1 ?side2 A7.out).mono ?_);(case side1 => exact uc (Kd.C_below a8.out HB.out));(case side2 => exact q9.out);rintro e w12 ⟨rfl,hb⟩;have n0_:= mk (blk_below (g:= o0) (o:= .cells #[.slice d2 v0.length b2,.slice j2 q0.length z1,.slice b3 g0.length g2] 29 (0,0)) (ub d0.out) hb);have n1_:= mk (below_step (by repeat (first|(with_reducible first|exact HB.out|apply below_alloc|apply pw_below_drewN|apply below_drew1|refine below_set ?_ m1.out)|exact HB.out)) hb);clear d0;clear HB;have d0:= n0_;have HB:= n1_;clear n0_ n1_;(try clear hb);(try clear hb2);(try clear hk);(try clear hi);have m7 : w12.cell? ⟨o0,0,none⟩ = some (.slice d2 v0.length b2):= (blk_cell d0.out 0).trans rfl;have k7 : w12.cell? ⟨o0,1,none⟩ = some (.slice j2 q0.length z1):= (blk_cell d0.out 1).trans rfl;have j7 : w12.cell? ⟨o0,2,none⟩ = some (.slice b3 g0.length g2):= (blk_cell d0.out 2).trans rfl;have o5:= blk_frozen d0.out 0;have m5:= blk_frozen d0.out 1;have j5:= blk_frozen d0.out 2))
     go_meet
     case rel => exact ⟨_,(decide ((g0.length : Int) > 2001)),(by first|rfl|(simp;done)|(simp [*];done)),H',⟨by first|omega|exact Nat.le_refl _⟩,⟨ub d0.out⟩,⟨by repeat (first|(with_reducible first|exact HB.out|apply below_alloc|apply pw_below_drewN|apply below_drew1|refine below_set ?_ m1.out)|exact HB.out)⟩⟩
    ·replace c8:= Bool.eq_false_iff.mpr c8
     subst c8
     have H1 : (impl_IsCracker.j0 k true v0 q0 g0) = some r:= by rw [if_neg (show ¬ (false = true) by decide)] at H;exact H
     clear H
     have H:= H1
     clear H1
     have H':= mk H
     clear H
     have g7 : w3.cell? ⟨o0,0,none⟩ = some (.slice d2 v0.length b2):= (blk_cell d0.out 0).trans rfl
     have d7 : w3.cell? ⟨o0,1,none⟩ = some (.slice j2 q0.length z1):= (blk_cell d0.out 1).trans rfl
     have b7 : w3.cell? ⟨o0,2,none⟩ = some (.slice b3 g0.length g2):= (blk_cell d0.out 2).trans rfl
     have g5:= blk_frozen d0.out 0
     have d5:= blk_frozen d0.out 1
     have b5:= blk_frozen d0.out 2
     go_wp2_with (first|((with_reducible refine gate_callee (f:= 47) rfl ?_);refine goesL_ (some 11) rfl rfl Try.func47 (by kernel_rfl) rfl #[.slice d2 v0.length b2] rfl (by (try simp only [List.map_toArray,List.map_cons,List.map_nil]);first|done|rfl|(simp only [List.length_drop,List.length_take];rfl)) ?_;(with_reducible refine (impl_AreValues.calls _ _ v0 true _ ?side1 ?side2 A4.out).mono ?_);(case side1 => exact uc (Kd.C_below b8.out HB.out));(case side2 => exact s9.out);rintro e w15 ⟨rfl,hb⟩;refine ⟨_,rfl,?_⟩;have n0_:= mk (blk_below (g:= o0) (o:= .cells #[.slice d2 v0.length b2,.slice j2 q0.length z1,.slice b3 g0.length g2] 29 (0,0)) (ub d0.out) hb);have n1_:= mk (below_step (by repeat (first|(with_reducible first|exact HB.out|apply below_alloc|apply pw_below_drewN|apply below_drew1|refine below_set ?_ m1.out)|exact HB.out)) hb);clear d0;clear HB;have d0:= n0_;have HB:= n1_;clear n0_ n1_;(try clear hb);(try clear hb2);(try clear hk);(try clear hi);have a7 : w15.cell? ⟨o0,0,none⟩ = some (.slice d2 v0.length b2):= (blk_cell d0.out 0).trans rfl;have z6 : w15.cell? ⟨o0,1,none⟩ = some (.slice j2 q0.length z1):= (blk_cell d0.out 1).trans rfl;have v6 : w15.cell? ⟨o0,2,none⟩ = some (.slice b3 g0.length g2):= (blk_cell d0.out 2).trans rfl;have a5:= blk_frozen d0.out 0;have z4:= blk_frozen d0.out 1;have v4:= blk_frozen d0.out 2)|(go_at_call 48;(with_reducible refine (impl_within.calls _ _ q0 0 999 false _ ?side1 ?side2 A7.out).mono ?_);(case side1 => exact uc (Kd.C_below a8.out HB.out));(case side2 => exact q9.out);rintro e w17 ⟨rfl,hb⟩;have n0_:= mk (blk_below (g:= o0) (o:= .cells #[.slice d2 v0.length b2,.slice j2 q0.length z1,.slice b3 g0.length g2] 29 (0,0)) (ub d0.out) hb);have n1_:= mk (below_step (by repeat (first|(with_reducible first|exact HB.out|apply below_alloc|apply pw_below_drewN|apply below_drew1|refine below_set ?_ m1.out)|exact HB.out)) hb);clear d0;clear HB;have d0:= n0_;have HB:= n1_;clear n0_ n1_;(try clear hb);(try clear hb2);(try clear hk);(try clear hi)))
     go_meet
     case rel => exact ⟨_,(true),(by first|rfl|(simp;done)|(simp [*];done)),H',⟨by first|omega|exact Nat.le_refl _⟩,⟨ub d0.out⟩,⟨by repeat (first|(with_reducible first|exact HB.out|apply below_alloc|apply pw_below_drewN|apply below_drew1|refine below_set ?_ m1.out)|exact HB.out)⟩⟩
   ·rw [if_neg c6] at H
    have aa0 : ((q0.length : Int) == (v0.length : Int)) = false:= beq_eq_false_iff_ne.mpr c6
    have oa3 : ((q0.length : Int) != (v0.length : Int)) = true:= bne_iff_ne.mpr c6
    have ma3 : (q0.length == v0.length) = false:= by first|simpa using c6|(simp at c6 ⊢;omega)
    (first|rw [aa0]|(simp only [i64_w,i32_w];rw [aa0])|skip)
    have H':= mk H
    clear H
    have q6 : w3.cell? ⟨o0,0,none⟩ = some (.slice d2 v0.length b2):= (blk_cell d0.out 0).trans rfl
    have o6 : w3.cell? ⟨o0,1,none⟩ = some (.slice j2 q0.length z1):= (blk_cell d0.out 1).trans rfl
    have m6 : w3.cell? ⟨o0,2,none⟩ = some (.slice b3 g0.length g2):= (blk_cell d0.out 2).trans rfl
    have q4:= blk_frozen d0.out 0
    have o4:= blk_frozen d0.out 1
    have m4:= blk_frozen d0.out 2
    go_wp2_with (first|((with_reducible refine gate_callee (f:= 47) rfl ?_);refine goesL_ (some 11) rfl rfl Try.func47 (by kernel_rfl) rfl #[.slice d2 v0.length b2] rfl (by (try simp only [List.map_toArray,List.map_cons,List.map_nil]);first|done|rfl|(simp only [List.length_drop,List.length_take];rfl)) ?_;(with_reducible refine (impl_AreValues.calls _ _ v0 true _ ?side1 ?side2 A4.out).mono ?_);(case side1 => exact uc (Kd.C_below b8.out HB.out));(case side2 => exact s9.out);rintro e w19 ⟨rfl,hb⟩;refine ⟨_,rfl,?_⟩;have n0_:= mk (blk_below (g:= o0) (o:= .cells #[.slice d2 v0.length b2,.slice j2 q0.length z1,.slice b3 g0.length g2] 29 (0,0)) (ub d0.out) hb);have n1_:= mk (below_step (by repeat (first|(with_reducible first|exact HB.out|apply below_alloc|apply pw_below_drewN|apply below_drew1|refine below_set ?_ m1.out)|exact HB.out)) hb);clear d0;clear HB;have d0:= n0_;have HB:= n1_;clear n0_ n1_;(try clear hb);(try clear hb2);(try clear hk);(try clear hi);have k6 : w19.cell? ⟨o0,0,none⟩ = some (.slice d2 v0.length b2):= (blk_cell d0.out 0).trans rfl;have j6 : w19.cell? ⟨o0,1,none⟩ = some (.slice j2 q0.length z1):= (blk_cell d0.out 1).trans rfl;have g6 : w19.cell? ⟨o0,2,none⟩ = some (.slice b3 g0.length g2):= (blk_cell d0.out 2).trans rfl;have k4:= blk_frozen d0.out 0;have j4:= blk_frozen d0.out 1;have g4:= blk_frozen d0.out 2))
    go_meet
    case rel => exact ⟨_,(true),(by first|rfl|(simp;done)|(simp [*];done)),H',⟨by first|omega|exact Nat.le_refl _⟩,⟨ub d0.out⟩,⟨by repeat (first|(with_reducible first|exact HB.out|apply below_alloc|apply pw_below_drewN|apply below_drew1|refine below_set ?_ m1.out)|exact HB.out)⟩⟩
  ·replace c5:= Bool.eq_false_iff.mpr c5
   subst c5
   have H1 : (impl_IsCracker.j0 k true v0 q0 g0) = some r:= by rw [if_neg (show ¬ (false = true) by decide)] at H;exact H
   clear H
   have H:= H1
   clear H1
   have H':= mk H
   clear H
   have d6 : w3.cell? ⟨o0,0,none⟩ = some (.slice d2 v0.length b2):= (blk_cell d0.out 0).trans rfl
   have b6 : w3.cell? ⟨o0,1,none⟩ = some (.slice j2 q0.length z1):= (blk_cell d0.out 1).trans rfl
   have a6 : w3.cell? ⟨o0,2,none⟩ = some (.slice b3 g0.length g2):= (blk_cell d0.out 2).trans rfl
   have d4:= blk_frozen d0.out 0
   have b4:= blk_frozen d0.out 1
   have a4:= blk_frozen d0.out 2
   go_wp2_with (first|((with_reducible refine gate_callee (f:= 47) rfl ?_);refine goesL_ (some 11) rfl rfl Try.func47 (by kernel_rfl) rfl #[.slice d2 v0.length b2] rfl (by (try simp only [List.map_toArray,List.map_cons,List.map_nil]);first|done|rfl|(simp only [List.length_drop,List.length_take];rfl)) ?_;(with_reducible refine (impl_AreValues.calls _ _ v0 false _ ?side1 ?side2 A4.out).mono ?_);(case side1 => exact uc (Kd.C_below b8.out HB.out));(case side2 => exact s9.out);rintro e w22 ⟨rfl,hb⟩;refine ⟨_,rfl,?_⟩;have n0_:= mk (blk_below (g:= o0) (o:= .cells #[.slice d2 v0.length b2,.slice j2 q0.length z1,.slice b3 g0.length g2] 29 (0,0)) (ub d0.out) hb);have n1_:= mk (below_step (by repeat (first|(with_reducible first|exact HB.out|apply below_alloc|apply pw_below_drewN|apply below_drew1|refine below_set ?_ m1.out)|exact HB.out)) hb);clear d0;clear HB;have d0:= n0_;have HB:= n1_;clear n0_ n1_;(try clear hb);(try clear hb2);(try clear hk);(try clear hi)))
   go_meet
   case rel => exact ⟨_,(true),(by first|rfl|(simp;done)|(simp [*];done)),H',⟨by first|omega|exact Nat.le_refl _⟩,⟨ub d0.out⟩,⟨by repeat (first|(with_reducible first|exact HB.out|apply below_alloc|apply pw_below_drewN|apply below_drew1|refine below_set ?_ m1.out)|exact HB.out)⟩⟩
 case rest =>
  clear HC2
  try clear c1
  try clear p2
  try clear c4
  try clear c5
  try clear c6
  try clear aa0
  try clear oa3
  try clear ma3
  try clear c8
  try clear c19
  try clear v7
  try clear q7
  try clear o7
  try clear m7
  try clear k7
  try clear j7
  try clear g7
  try clear d7
  try clear b7
  try clear a7
  try clear z6
  try clear v6
  try clear q6
  try clear o6
  try clear m6
  try clear k6
  try clear j6
  try clear g6
  try clear d6
  try clear b6
  try clear a6
  try clear a9
  try clear z8
  try clear v8
  try clear z5
  try clear v5
  try clear q5
  try clear o5
  try clear m5
  try clear j5
  try clear g5
  try clear d5
  try clear b5
  try clear a5
  try clear z4
  try clear v4
  try clear q4
  try clear o4
  try clear m4
  try clear k4
  try clear j4
  try clear g4
  try clear d4
  try clear b4
  try clear a4
  try clear k8
  try clear j8
  try clear g8
  obtain ⟨kq,m9,rfl,HA,HJ1,d0,HB⟩:= hcut
  cases kq with
 |zero => exact absurd HA.out (by simp [impl_IsCracker.j0])
 |succ kj1 =>
   have H:= HA.out
   clear HA
   simp only [impl_IsCracker.j0] at H
   by_cases c23 : m9 = true
   ·subst c23
    have H1 : (some false) = some r:= by rw [if_pos rfl] at H;exact H
    clear H
    have H:= H1
    clear H1
    obtain rfl:= Option.some.inj H
    go_wp2
    go_ret
    exact ⟨by first|rfl|(simp [errW_none,errW_some] <;> rfl)|(simp [*,errW_none,errW_some] <;> rfl),by repeat (first|(with_reducible first|exact HB.out|apply below_alloc|apply pw_below_drewN|apply below_drew1|refine below_set ?_ m1.out)|exact HB.out)⟩
   ·replace c23:= Bool.eq_false_iff.mpr c23
    subst c23
    have H1 : (impl_IsCracker.l0 kj1 q0 (q0.length : Int) 0 v0 q0 g0) = some r:= by rw [if_neg (show ¬ (false = true) by decide)] at H;exact H
    clear H
    have H:= H1
    clear H1
    have H':= mk H
    clear H
    have g9 : wc.cell? ⟨o0,0,none⟩ = some (.slice d2 v0.length b2):= (blk_cell d0.out 0).trans rfl
    have d9 : wc.cell? ⟨o0,1,none⟩ = some (.slice j2 q0.length z1):= (blk_cell d0.out 1).trans rfl
    have b9 : wc.cell? ⟨o0,2,none⟩ = some (.slice b3 g0.length g2):= (blk_cell d0.out 2).trans rfl
    have q8:= blk_frozen d0.out 0
    have o8:= blk_frozen d0.out 1
    have m8:= blk_frozen d0.out 2
    go_wp2
    go_loopg [37] kj1 (fun kq v37 w' => ∃ (k1 : Int),v37 = .int .i64 k1 ∧ Aside0 (impl_IsCracker.l0 kq q0 (q0.length : Int) k1 v0 q0 g0 = some r) ∧ Aside0 (kq ≤ kj1) ∧ Aside0 (w'.heap[o0]? = some (.cells #[(.slice d2 v0.length b2),(.slice j2 q0.length z1),(.slice b3 g0.length g2)] 29 (0,0))) ∧ Aside0 (Below w.heap.size w w'))
    case atStart => exact ⟨(0),(by first|rfl|(simp;done)|(simp [*];done)),H',⟨Nat.le_refl _⟩,⟨ub d0.out⟩,⟨by repeat (first|(with_reducible first|exact HB.out|apply below_alloc|apply pw_below_drewN|apply below_drew1|refine below_set ?_ m1.out)|exact HB.out)⟩⟩
    case round =>
     clear H'
     try clear c1
     try clear c2
     try clear p2
     try clear c4
     try clear c5
     try clear c6
     try clear aa0
     try clear oa3
     try clear ma3
     try clear c8
     try clear c19
     try clear c23
     try clear v7
     try clear q7
     try clear o7
     try clear m7
     try clear k7
     try clear j7
     try clear g7
     try clear d7
     try clear b7
     try clear a7
     try clear z6
     try clear v6
     try clear q6
     try clear o6
     try clear m6
     try clear k6
     try clear j6
     try clear g6
     try clear d6
     try clear b6
     try clear a6
     try clear g9
     try clear d9
     try clear b9
     try clear a9
     try clear z8
     try clear v8
     try clear z5
     try clear v5
     try clear q5
     try clear o5
     try clear m5
     try clear j5
     try clear g5
     try clear d5
     try clear b5
     try clear a5
     try clear z4
     try clear v4
     try clear q4
     try clear o4
     try clear m4
     try clear k4
     try clear j4
     try clear g4
     try clear d4
     try clear b4
     try clear a4
     try clear q8
     try clear o8
     try clear m8
     try clear k8
     try clear j8
     try clear g8
     try clear p2
     obtain ⟨k1,rfl,HA,HK2,d0,HB⟩:= hrel
     cases gk with
    |zero => exact absurd HA.out (by simp [impl_IsCracker.l0])
    |succ k2 =>
      have H:= HA.out
      clear HA
      simp only [impl_IsCracker.l0] at H
      by_cases c25 : k1 < (q0.length : Int)
      ·rw [if_pos c25] at H
       have ga3 : decide (k1 < (q0.length : Int)) = true:= decide_eq_true c25
       clear c25
       by_cases c26 : 0 ≤ k1
       ·rw [if_pos c26] at H
        have da6 : decide (0 ≤ k1) = true:= decide_eq_true c26
        clear c26
        by_cases c27 : k1 < (q0.length : Int)
        ·rw [if_pos c27] at H
         have ba6 : decide (k1 < (q0.length : Int)) = true:= decide_eq_true c27
         clear c27
         have aa6:= eq_true (of_decide_eq_true (by first|(with_reducible assumption)|assumption) : 0 ≤ k1)
         by_cases c29 : k1 ≤ (q0.length : Int)
         ·rw [if_pos c29] at H
          have za5:= eq_true c29
          have ya5 : decide (k1 ≤ (q0.length : Int)) = true:= decide_eq_true c29
          clear c29
          replace H:= Option.bind_eq_some_iff.mp H
          obtain ⟨ka3,ya6,H⟩:= H
          replace H : (if ka3 = true then (some false) else (impl_IsCracker.l0 k2 q0 (q0.length : Int) (wrap64 (k1 + 1)) v0 q0 g0)) = some r:= H
          have A30:= mk ya6
          clear ya6
          by_cases c31 : ka3 = true
          ·subst c31
           have H1 : (some false) = some r:= by rw [if_pos rfl] at H;exact H
           clear H
           have H:= H1
           clear H1
           obtain rfl:= Option.some.inj H
           have z9 : 0 ≤ (k1 : Int):= of_decide_eq_true (by first|(with_reducible assumption)|assumption)
           have v9 : k1 < (q0.length : Int):= of_decide_eq_true (by first|(with_reducible assumption)|assumption)
           obtain ⟨z7,ga5,o2⟩:= Kd.at_int a8.out k1 z9 v9
           cases ga5
           replace o2:= (HB.out.cell (World.block_lt_of_cell? w _ o2)).trans o2
           replace z9:= eq_true z9
           replace v9:= eq_true v9
           have da2 : wr.cell? ⟨o0,0,none⟩ = some (.slice d2 v0.length b2):= (blk_cell d0.out 0).trans rfl
           have ba2 : wr.cell? ⟨o0,1,none⟩ = some (.slice (some z7) q0.length z1):= (blk_cell d0.out 1).trans rfl
           have aa2 : wr.cell? ⟨o0,2,none⟩ = some (.slice b3 g0.length g2):= (blk_cell d0.out 2).trans rfl
           have ga1:= blk_frozen d0.out 0
           have da1:= blk_frozen d0.out 1
           have ba1:= blk_frozen d0.out 2
           obtain ⟨va8,da3,_,va2,_⟩:= info_parts info3
           obtain ⟨sa6,hA33,hC33⟩:= print_take_of (P:= Try.prog) (Value.int .i64) 0 22 3 .i64 Try.underlying22 da3 va2 (some z7) z1 q0 k1 (of_decide_eq_true (by first|(with_reducible assumption)|assumption)) (of_decide_eq_true (by first|(with_reducible assumption)|assumption)) q9.out
           have ka2:= mk (Kd.C_of_reads (h1:= fun _ => rfl) (hA33 _ (Kd.reads_of_C a8.out)))
           have ma2:= mk hC33
           clear hA33 hC33 da3 va2
           go_wp2_with (first|((with_reducible refine gate_callee (f:= 49) rfl ?_);refine goesL_ (some 47) rfl rfl Try.func49 (by kernel_rfl) rfl #[.slice (some z7) (q0.take (k1 : Int).toNat).length z1,.int .i64 (rd q0 k1)] rfl (by (try simp only [List.map_toArray,List.map_cons,List.map_nil]);first|done|(rw [show (q0.take (k1 : Int).toNat).length = k1.toNat from (by rw [List.length_take];have h_ : (k1 : Int) ≤ (q0.length : Int):= of_decide_eq_true (by first|(with_reducible assumption)|assumption);omega)] <;> rfl)|rfl|(simp only [List.length_drop,List.length_take];rfl)) ?_;(with_reducible refine (slices_Contains_int_int.calls k2 _ _ (q0.take (k1 : Int).toNat) (rd q0 k1) true _ ?side1 ?side2 A30.out).mono ?_);(case side1 => exact uc (Kd.C_below ka2.out HB.out));(case side2 => exact ma2.out);rintro e w' ⟨rfl,⟨nd,rfl⟩⟩;refine ⟨_,rfl,?_⟩))
           go_ret
           exact ⟨by first|rfl|(simp [errW_none,errW_some] <;> rfl)|(simp [*,errW_none,errW_some] <;> rfl),by repeat (first|(with_reducible first|exact HB.out|apply below_alloc|apply pw_below_drewN|apply below_drew1|refine below_set ?_ m1.out)|exact HB.out)⟩
          ·replace c31:= Bool.eq_false_iff.mpr c31
           subst c31
           have H1 : (impl_IsCracker.l0 k2 q0 (q0.length : Int) (wrap64 (k1 + 1)) v0 q0 g0) = some r:= by rw [if_neg (show ¬ (false = true) by decide)] at H;exact H
           clear H
           have H:= H1
           clear H1
           have H':= mk H
           clear H
           have z9 : 0 ≤ (k1 : Int):= of_decide_eq_true (by first|(with_reducible assumption)|assumption)
           have v9 : k1 < (q0.length : Int):= of_decide_eq_true (by first|(with_reducible assumption)|assumption)
           obtain ⟨z7,ga5,o2⟩:= Kd.at_int a8.out k1 z9 v9
           cases ga5
           replace o2:= (HB.out.cell (World.block_lt_of_cell? w _ o2)).trans o2
           replace z9:= eq_true z9
           replace v9:= eq_true v9
           have za1 : wr.cell? ⟨o0,0,none⟩ = some (.slice d2 v0.length b2):= (blk_cell d0.out 0).trans rfl
           have ya1 : wr.cell? ⟨o0,1,none⟩ = some (.slice (some z7) q0.length z1):= (blk_cell d0.out 1).trans rfl
           have va1 : wr.cell? ⟨o0,2,none⟩ = some (.slice b3 g0.length g2):= (blk_cell d0.out 2).trans rfl
           have aa1:= blk_frozen d0.out 0
           have za0:= blk_frozen d0.out 1
           have ya0:= blk_frozen d0.out 2
           obtain ⟨sa8,ba3,_,sa2,_⟩:= info_parts info3
           obtain ⟨qa6,hA35,hC35⟩:= print_take_of (P:= Try.prog) (Value.int .i64) 0 22 3 .i64 Try.underlying22 ba3 sa2 (some z7) z1 q0 k1 (of_decide_eq_true (by first|(with_reducible assumption)|assumption)) (of_decide_eq_true (by first|(with_reducible assumption)|assumption)) q9.out
           have ka2:= mk (Kd.C_of_reads (h1:= fun _ => rfl) (hA35 _ (Kd.reads_of_C a8.out)))
           have ma2:= mk hC35
           clear hA35 hC35 ba3 sa2
           go_wp2_with (first|((with_reducible refine gate_callee (f:= 49) rfl ?_);refine goesL_ (some 47) rfl rfl Try.func49 (by kernel_rfl) rfl #[.slice (some z7) (q0.take (k1 : Int).toNat).length z1,.int .i64 (rd q0 k1)] rfl (by (try simp only [List.map_toArray,List.map_cons,List.map_nil]);first|done|(rw [show (q0.take (k1 : Int).toNat).length = k1.toNat from (by rw [List.length_take];have h_ : (k1 : Int) ≤ (q0.length : Int):= of_decide_eq_true (by first|(with_reducible assumption)|assumption);omega)] <;> rfl)|rfl|(simp only [List.length_drop,List.length_take];rfl)) ?_;(with_reducible refine (slices_Contains_int_int.calls k2 _ _ (q0.take (k1 : Int).toNat) (rd q0 k1) false _ ?side1 ?side2 A30.out).mono ?_);(case side1 => exact uc (Kd.C_below ka2.out HB.out));(case side2 => exact ma2.out);rintro e w' ⟨rfl,⟨nd,rfl⟩⟩;refine ⟨_,rfl,?_⟩))
           go_roundg k2
           case measure => have:= HJ1.out;have:= HK2.out;omega
           case rel => exact ⟨(wrap64 (k1 + 1)),(by first|rfl|(simp;done)|(simp [*];done)),H',⟨by have:= HJ1.out;have:= HK2.out;omega⟩,⟨ub d0.out⟩,⟨by repeat (first|(with_reducible first|exact HB.out|apply below_alloc|apply pw_below_drewN|apply below_drew1|refine below_set ?_ m1.out)|exact HB.out)⟩⟩
         ·rw [if_neg c29] at H
          exact absurd H (by simp)
        ·rw [if_neg c27] at H
         exact absurd H (by simp)
       ·rw [if_neg c26] at H
        exact absurd H (by simp)
      ·rw [if_neg c25] at H
       have ga3 : decide (k1 < (q0.length : Int)) = false:= decide_eq_false c25
       clear c25
       have H':= mk H
       clear H
       have sa1 : wr.cell? ⟨o0,0,none⟩ = some (.slice d2 v0.length b2):= (blk_cell d0.out 0).trans rfl
       have qa1 : wr.cell? ⟨o0,1,none⟩ = some (.slice j2 q0.length z1):= (blk_cell d0.out 1).trans rfl
       have oa1 : wr.cell? ⟨o0,2,none⟩ = some (.slice b3 g0.length g2):= (blk_cell d0.out 2).trans rfl
       have va0:= blk_frozen d0.out 0
       have sa0:= blk_frozen d0.out 1
       have qa0:= blk_frozen d0.out 2
       go_wp2
       go_loopg [52] k2 (fun kq v52 w' => ∃ (b0 : Int),v52 = .int .i64 b0 ∧ Aside0 (impl_IsCracker.l1 kq g0 (g0.length : Int) b0 v0 q0 g0 = some r) ∧ Aside0 (kq ≤ k2) ∧ Aside0 (w'.heap[o0]? = some (.cells #[(.slice d2 v0.length b2),(.slice j2 q0.length z1),(.slice b3 g0.length g2)] 29 (0,0))) ∧ Aside0 (Below w.heap.size w w'))
       case atStart => exact ⟨(0),(by first|rfl|(simp;done)|(simp [*];done)),H',⟨Nat.le_refl _⟩,⟨ub d0.out⟩,⟨by repeat (first|(with_reducible first|exact HB.out|apply below_alloc|apply pw_below_drewN|apply below_drew1|refine below_set ?_ m1.out)|exact HB.out)⟩⟩
       case round =>
        clear H'
        try clear c1
        try clear c2
        try clear p2
        try clear q2
        try clear hx2
        try clear c3
        try clear c4
        try clear c5
        try clear c6
        try clear aa0
        try clear oa3
        try clear ma3
        try clear p6
        try clear c8
        try clear c19
        try clear p22
        try clear q22
        try clear ya8
        try clear c23
        try clear c25
        try clear ga3
        try clear c26
        try clear da6
        try clear c27
        try clear ba6
        try clear c28
        try clear aa6
        try clear c29
        try clear za5
        try clear ya5
        try clear c31
        try clear v7
        try clear q7
        try clear o7
        try clear m7
        try clear k7
        try clear j7
        try clear g7
        try clear d7
        try clear b7
        try clear a7
        try clear z6
        try clear v6
        try clear q6
        try clear o6
        try clear m6
        try clear k6
        try clear j6
        try clear g6
        try clear d6
        try clear b6
        try clear a6
        try clear g9
        try clear d9
        try clear b9
        try clear da2
        try clear ba2
        try clear aa2
        try clear za1
        try clear ya1
        try clear va1
        try clear sa1
        try clear qa1
        try clear oa1
        try clear a9
        try clear z8
        try clear v8
        try clear z5
        try clear v5
        try clear q5
        try clear o5
        try clear m5
        try clear j5
        try clear g5
        try clear d5
        try clear b5
        try clear a5
        try clear z4
        try clear v4
        try clear q4
        try clear o4
        try clear m4
        try clear k4
        try clear j4
        try clear g4
        try clear d4
        try clear b4
        try clear a4
        try clear q8
        try clear o8
        try clear m8
        try clear ga1
        try clear da1
        try clear ba1
        try clear aa1
        try clear za0
        try clear ya0
        try clear va0
        try clear sa0
        try clear qa0
        try clear k8
        try clear j8
        try clear g8
        try clear o2
        try clear p2
        try clear z9
        try clear v9
        obtain ⟨b0,rfl,HA,HK3,d0,HB⟩:= hrel
        cases gk with
       |zero => exact absurd HA.out (by simp [impl_IsCracker.l1])
       |succ k3 =>
         have H:= HA.out
         clear HA
         simp only [impl_IsCracker.l1] at H
         by_cases c37 : b0 < (g0.length : Int)
         ·rw [if_pos c37] at H
          have va5 : decide (b0 < (g0.length : Int)) = true:= decide_eq_true c37
          clear c37
          by_cases c38 : 0 ≤ b0
          ·rw [if_pos c38] at H
           have ka8 : decide (0 ≤ b0) = true:= decide_eq_true c38
           clear c38
           by_cases c39 : b0 < (g0.length : Int)
           ·rw [if_pos c39] at H
            have ja8 : decide (b0 < (g0.length : Int)) = true:= decide_eq_true c39
            clear c39
            have ka6:= mk H
            clear H
            have aa4 : 0 ≤ (b0 : Int):= of_decide_eq_true (by first|(with_reducible assumption)|assumption)
            have ya3 : b0 < (g0.length : Int):= of_decide_eq_true (by first|(with_reducible assumption)|assumption)
            obtain ⟨o1,ya7,z3,v3⟩:= at_T50 o9.out b0 aa4 ya3
            cases ya7
            replace z3:= (HB.out.cell (World.block_lt_of_cell? w _ z3)).trans z3
            replace v3:= (HB.out.cell (World.block_lt_of_cell? w _ v3)).trans v3
            replace aa4:= eq_true aa4
            replace ya3:= eq_true ya3
            go_upto_region 12 with (first|((with_reducible refine gate_dst (N:= 6) rfl ?_);(try (refine gate_guard (by rfl) ?_;dsimp only));refine box_event ?hg (N:= 6) ?hd (cs:= #[.int .i64 0,.int .i64 0]) (t:= 50) ?hr ?_;(case hd => rfl);(case hg => rfl);(case hr => first|(go_simp;done)|(go_simp;rfl));intro m0 hg w41 hbox hb;have n0_:= mk (blk_below (g:= o0) (o:= .cells #[.slice d2 v0.length b2,.slice j2 q0.length z1,.slice (some o1) g0.length g2] 29 (0,0)) (ub d0.out) hb);have n1_:= mk (below_step (by repeat (first|(with_reducible first|exact HB.out|apply below_alloc|apply pw_below_drewN|apply below_drew1|refine below_set ?_ m1.out)|exact HB.out)) hb);have n2_:= mk (hbox);have n3_:= mk ((by rw [hg];exact (below_size (by repeat (first|(with_reducible first|exact HB.out|apply below_alloc|apply pw_below_drewN|apply below_drew1|refine below_set ?_ m1.out)|exact HB.out))) : w.heap.size ≤ m0));have n4_:= mk ((by rw [hg];exact (below_size (by repeat (first|(with_reducible first|exact HB.out|apply below_alloc|apply pw_below_drewN|apply below_drew1|refine below_set ?_ m1.out)|exact HB.out))) : w.heap.size ≤ m0));have n5_:= mk ((by rw [hg];exact Nat.ne_of_lt (blk_lt (g:= o0) (o:= .cells #[.slice d2 v0.length b2,.slice j2 q0.length z1,.slice (some o1) g0.length g2] 29 (0,0)) (ub d0.out)) : o0 ≠ m0));have n6_:= mk ((by rw [hg];exact Nat.ne_of_gt (blk_lt (g:= o0) (o:= .cells #[.slice d2 v0.length b2,.slice j2 q0.length z1,.slice (some o1) g0.length g2] 29 (0,0)) (ub d0.out)) : m0 ≠ o0));clear d0;clear HB;have d0:= n0_;have HB:= n1_;have k0:= n2_;have oa8:= n3_;have v2:= n4_;have b1:= n5_;have a3:= n6_;clear n0_ n1_ n2_ n3_ n4_ n5_ n6_;clear hb hbox hg;have sa7:= a3.out;have ka7:= b1.out;have aa5 : w41.cell? ⟨m0,0,none⟩ = some (.int .i64 0):= (blk_cell k0.out 0).trans rfl;have za4 : w41.cell? ⟨m0,1,none⟩ = some (.int .i64 0):= (blk_cell k0.out 1).trans rfl;have oa4:= blk_frozen k0.out 0;have ma4:= blk_frozen k0.out 1))
            (try simp only [Act.put,List.setIfInBounds_toArray,List.set_cons_zero,List.set_cons_succ])
            go_cut [101] (fun ba7 wc => ∃ (kq : Nat) (q3 : Bool),ba7 = .bool q3 ∧ Aside0 (impl_IsCracker.j3 kq g0 (g0.length : Int) b0 q3 v0 q0 g0 ((rd_T50 g0 b0).f0) ((rd_T50 g0 b0).f1) = some r) ∧ Aside0 (kq ≤ k3) ∧ Aside0 (wc.heap[o0]? = some (.cells #[(.slice d2 v0.length b2),(.slice j2 q0.length z1),(.slice (some o1) g0.length g2)] 29 (0,0))) ∧ Aside0 (wc.heap[m0]? = some (.cells #[.int .i64 ((rd_T50 g0 b0).f0),.int .i64 ((rd_T50 g0 b0).f1)] 50 (0,0))) ∧ Aside0 (Below w.heap.size w wc))
            case first =>
             have H:= ka6.out
             clear ka6
             replace H:= Option.bind_eq_some_iff.mp H
             obtain ⟨ja3,va6,H⟩:= H
             replace H : (if ja3 = true then (if ((rd_T50 g0 b0).f1) < 0 then (impl_IsCracker.j3 k3 g0 (g0.length : Int) b0 true v0 q0 g0 ((rd_T50 g0 b0).f0) ((rd_T50 g0 b0).f1)) else (if ((rd_T50 g0 b0).f1) > (v0.length : Int) then (impl_IsCracker.j3 k3 g0 (g0.length : Int) b0 true v0 q0 g0 ((rd_T50 g0 b0).f0) ((rd_T50 g0 b0).f1)) else (if b0 > 0 then (if 0 ≤ (wrap64 (b0 - 1)) then (if (wrap64 (b0 - 1)) < (g0.length : Int) then (if ((rd_T50 g0 b0).f0) ≤ ((rd_T50 g0 (wrap64 (b0 - 1))).f0) then (impl_IsCracker.j3 k3 g0 (g0.length : Int) b0 true v0 q0 g0 ((rd_T50 g0 b0).f0) ((rd_T50 g0 b0).f1)) else (impl_IsCracker.j3 k3 g0 (g0.length : Int) b0 (decide (((rd_T50 g0 b0).f1) < ((rd_T50 g0 (wrap64 (b0 - 1))).f1))) v0 q0 g0 ((rd_T50 g0 b0).f0) ((rd_T50 g0 b0).f1))) else (none)) else (none)) else (impl_IsCracker.j3 k3 g0 (g0.length : Int) b0 false v0 q0 g0 ((rd_T50 g0 b0).f0) ((rd_T50 g0 b0).f1))))) else (impl_IsCracker.j3 k3 g0 (g0.length : Int) b0 true v0 q0 g0 ((rd_T50 g0 b0).f0) ((rd_T50 g0 b0).f1))) = some r:= H
             have A44:= mk va6
             clear va6
             by_cases c45 : ja3 = true
             ·subst c45
              have H1 : (if ((rd_T50 g0 b0).f1) < 0 then (impl_IsCracker.j3 k3 g0 (g0.length : Int) b0 true v0 q0 g0 ((rd_T50 g0 b0).f0) ((rd_T50 g0 b0).f1)) else (if ((rd_T50 g0 b0).f1) > (v0.length : Int) then (impl_IsCracker.j3 k3 g0 (g0.length : Int) b0 true v0 q0 g0 ((rd_T50 g0 b0).f0) ((rd_T50 g0 b0).f1)) else (if b0 > 0 then (if 0 ≤ (wrap64 (b0 - 1)) then (if (wrap64 (b0 - 1)) < (g0.length : Int) then (if ((rd_T50 g0 b0).f0) ≤ ((rd_T50 g0 (wrap64 (b0 - 1))).f0) then (impl_IsCracker.j3 k3 g0 (g0.length : Int) b0 true v0 q0 g0 ((rd_T50 g0 b0).f0) ((rd_T50 g0 b0).f1)) else (impl_IsCracker.j3 k3 g0 (g0.length : Int) b0 (decide (((rd_T50 g0 b0).f1) < ((rd_T50 g0 (wrap64 (b0 - 1))).f1))) v0 q0 g0 ((rd_T50 g0 b0).f0) ((rd_T50 g0 b0).f1))) else (none)) else (none)) else (impl_IsCracker.j3 k3 g0 (g0.length : Int) b0 false v0 q0 g0 ((rd_T50 g0 b0).f0) ((rd_T50 g0 b0).f1))))) = some r:= by rw [if_pos rfl] at H;exact H
              clear H
              have H:= H1
              clear H1
              by_cases c46 : ((rd_T50 g0 b0).f1) < 0
              ·rw [if_pos c46] at H
               have j9 : decide (((rd_T50 g0 b0).f1) < 0) = true:= decide_eq_true c46
               clear c46
               (first|rw [j9]|(simp only [i64_w,i32_w];rw [j9])|skip)
               have H':= mk H
               clear H
               try go_wp2
               have n0_ : Aside0 (((w41.setCell ⟨m0,0,none⟩ (.int .i64 ((rd_T50 g0 b0).f0))).setCell ⟨m0,1,none⟩ (.int .i64 ((rd_T50 g0 b0).f1))).heap[o0]? = some (.cells #[.slice d2 v0.length b2,.slice j2 q0.length z1,.slice (some o1) g0.length g2] 29 (0,0))):= ⟨by (with_reducible repeat (first|refine blk_drewN ?_ _|refine blk_drew ?_|refine blk_alloc ?_ _));refine blk_far ?_ b1.out _;(with_reducible repeat (first|refine blk_drewN ?_ _|refine blk_drew ?_|refine blk_alloc ?_ _));refine blk_far ?_ b1.out _;(with_reducible repeat (first|refine blk_drewN ?_ _|refine blk_drew ?_|refine blk_alloc ?_ _));exact d0.out⟩
               have n1_ : Aside0 (((w41.setCell ⟨m0,0,none⟩ (.int .i64 ((rd_T50 g0 b0).f0))).setCell ⟨m0,1,none⟩ (.int .i64 ((rd_T50 g0 b0).f1))).heap[m0]? = some (.cells #[.int .i64 ((rd_T50 g0 b0).f0),.int .i64 ((rd_T50 g0 b0).f1)] 50 (0,0))):= ⟨by (with_reducible repeat (first|refine blk_drewN ?_ _|refine blk_drew ?_|refine blk_alloc ?_ _));refine blk_put (cs:= #[.int .i64 ((rd_T50 g0 b0).f0),.int .i64 0]) ?_ 1 _ rfl;(with_reducible repeat (first|refine blk_drewN ?_ _|refine blk_drew ?_|refine blk_alloc ?_ _));refine blk_put (cs:= #[.int .i64 0,.int .i64 0]) ?_ 0 _ rfl;(with_reducible repeat (first|refine blk_drewN ?_ _|refine blk_drew ?_|refine blk_alloc ?_ _));exact k0.out⟩
               have n2_ : Aside0 (Below w.heap.size w ((w41.setCell ⟨m0,0,none⟩ (.int .i64 ((rd_T50 g0 b0).f0))).setCell ⟨m0,1,none⟩ (.int .i64 ((rd_T50 g0 b0).f1)))):= ⟨by repeat (first|(with_reducible first|exact HB.out|apply below_alloc|apply pw_below_drewN|apply below_drew1|refine below_set ?_ m1.out|refine below_set ?_ v2.out)|exact HB.out)⟩
               (try clear d0)
               (try clear k0)
               (try clear HB)
               generalize ((w41.setCell ⟨m0,0,none⟩ (.int .i64 ((rd_T50 g0 b0).f0))).setCell ⟨m0,1,none⟩ (.int .i64 ((rd_T50 g0 b0).f1))) = w47 at n0_ n1_ n2_ ⊢
               have d0:= n0_
               have k0:= n1_
               have HB:= n2_
               clear n0_ n1_ n2_
               have n0_:= mk (blk_drew d0.out)
               have n1_:= mk (blk_drew k0.out)
               have n2_:= mk (below_drew1 HB.out)
               clear d0
               clear k0
               clear HB
               have d0:= n0_
               have k0:= n1_
               have HB:= n2_
               clear n0_ n1_ n2_
               refine start_ (n:= 45) (S:= fun w' => w'.cell? ⟨m0,0,none⟩ = some (.int .i64 ((rd_T50 g0 b0).f0)) ∧ w'.cell? ⟨m0,1,none⟩ = some (.int .i64 ((rd_T50 g0 b0).f1))) (ds:= []) #[F_,F_,F_,F_,F_,F_,F_,F_,F_,F_,F_,F_,F_,F_,F_,F_,F_,F_,F_,F_,F_,F_,F_,F_,F_,F_,F_,F_,F_,F_,F_,F_,F_,F_,F_,F_,F_,F_,F_,F_,F_,F_,F_,F_,F_] (by kernel_rfl) rfl rfl ⟨(blk_cell k0.out 0).trans rfl,(blk_cell k0.out 1).trans rfl⟩ (fun hHeld => ?_);refine with_tabW impl_IsCracker.tab12 impl_IsCracker.bits12 (fun HT_ HW_ => ?_)
               generalize w47.drew = w48 at d0 k0 HB hHeld ⊢
               refine pure_ (i:= 0) (N:= some 57) (v:= ?_) (a':= ?_) #[T_,F_,F_,F_,F_,F_,F_,F_,F_,F_,F_,F_,F_,F_,F_,F_,F_,F_,F_,F_,F_,F_,F_,F_,F_,F_,F_,F_,F_,F_,F_,F_,F_,F_,F_,F_,F_,F_,F_,F_,F_,F_,F_,F_,F_] rfl rfl (any_of HT_.out (by kernel_rfl)) (fun _ _ _ h => h) (Or.inl ⟨by rfl,?_⟩) ?_ ?_
               rotate_left
               ·intro w'
                go_simp
                with_reducible rfl
               rotate_left
               ·simp only [sp,i64_w,i32_w]
                rfl
               refine take_ (i:= 1) (N:= some 58) (v:= ?_) (a':= ?_) #[T_,T_,F_,F_,F_,F_,F_,F_,F_,F_,F_,F_,F_,F_,F_,F_,F_,F_,F_,F_,F_,F_,F_,F_,F_,F_,F_,F_,F_,F_,F_,F_,F_,F_,F_,F_,F_,F_,F_,F_,F_,F_,F_,F_,F_] rfl rfl (take_ofW HT_.out HW_.out (by kernel_rfl)) (fun _ _ _ h => h) (Or.inl ⟨by rfl,?_⟩) hHeld ?_ ?_
               rotate_left
               ·rintro w' ⟨s0,s1⟩
                go_simp
                with_reducible rfl
               rotate_left
               ·simp only [sp,i64_w,i32_w]
                rfl
               refine one_ (i:= 2) (N:= some 59) #[T_,T_,T_,F_,F_,F_,F_,F_,F_,F_,F_,F_,F_,F_,F_,F_,F_,F_,F_,F_,F_,F_,F_,F_,F_,F_,F_,F_,F_,F_,F_,F_,F_,F_,F_,F_,F_,F_,F_,F_,F_,F_,F_,F_,F_] rfl rfl (one_of HT_.out (by kernel_rfl)) (by decide) (fun K hK => ?_)
               refine goes_ Try.func50 (by kernel_rfl) rfl #[.int .i64 ((rd_T50 g0 b0).f0)] (by rfl) rfl rfl (by (try simp only [List.map_toArray,List.map_cons,List.map_nil]);first|done|rfl|(simp only [List.length_drop,List.length_take];rfl)) ?_
               with_reducible refine (impl_bound.calls ((rd_T50 g0 b0).f0) true _ A44.out).mono ?_
               rintro e w' ⟨rfl,⟨nd,rfl⟩⟩
               refine ⟨_,rfl,?_⟩
               refine hK.out _ _ ⟨(blk_cell k0.out 0).trans rfl,(blk_cell k0.out 1).trans rfl⟩ (fun hHeld => ?_)
               clear hK K
               refine norm_ (a':= ?_) ?_ ?_
               rotate_left
               ·show Act.put _ (some 59) _ = _
                simp only [sp,i64_w,i32_w]
                rfl
               refine pure_ (i:= 3) (N:= some 60) (v:= ?_) (a':= ?_) #[T_,T_,T_,T_,F_,F_,F_,F_,F_,F_,F_,F_,F_,F_,F_,F_,F_,F_,F_,F_,F_,F_,F_,F_,F_,F_,F_,F_,F_,F_,F_,F_,F_,F_,F_,F_,F_,F_,F_,F_,F_,F_,F_,F_,F_] rfl rfl (any_of HT_.out (by kernel_rfl)) (fun _ _ _ h => h) (Or.inl ⟨by rfl,?_⟩) ?_ ?_
               rotate_left
               ·intro w'
                go_simp
                with_reducible rfl
               rotate_left
               ·simp only [sp,i64_w,i32_w]
                rfl
               refine pure_ (i:= 4) (N:= some 61) (v:= ?_) (a':= ?_) #[T_,T_,T_,T_,T_,F_,F_,F_,F_,F_,F_,F_,F_,F_,F_,F_,F_,F_,F_,F_,F_,F_,F_,F_,F_,F_,F_,F_,F_,F_,F_,F_,F_,F_,F_,F_,F_,F_,F_,F_,F_,F_,F_,F_,F_] rfl rfl (any_of HT_.out (by kernel_rfl)) (fun _ _ _ h => h) (Or.inl ⟨by rfl,?_⟩) ?_ ?_
               rotate_left
               ·intro w'
                go_simp
                with_reducible rfl
               rotate_left
               ·simp only [sp,i64_w,i32_w]
                rfl
               refine pure_ (i:= 5) (N:= some 62) (v:= ?_) (a':= ?_) #[T_,T_,T_,T_,T_,T_,F_,F_,F_,F_,F_,F_,F_,F_,F_,F_,F_,F_,F_,F_,F_,F_,F_,F_,F_,F_,F_,F_,F_,F_,F_,F_,F_,F_,F_,F_,F_,F_,F_,F_,F_,F_,F_,F_,F_] rfl rfl (any_of HT_.out (by kernel_rfl)) (fun _ _ _ h => h) (Or.inl ⟨by rfl,?_⟩) ?_ ?_
               rotate_left
               ·intro w'
                go_simp
                with_reducible rfl
               rotate_left
               ·simp only [sp,i64_w,i32_w]
                rfl
               refine take_ (i:= 6) (N:= some 63) (v:= ?_) (a':= ?_) #[T_,T_,T_,T_,T_,T_,T_,F_,F_,F_,F_,F_,F_,F_,F_,F_,F_,F_,F_,F_,F_,F_,F_,F_,F_,F_,F_,F_,F_,F_,F_,F_,F_,F_,F_,F_,F_,F_,F_,F_,F_,F_,F_,F_,F_] rfl rfl (take_ofW HT_.out HW_.out (by kernel_rfl)) (fun _ _ _ h => h) (Or.inl ⟨by rfl,?_⟩) hHeld ?_ ?_
               rotate_left
               ·rintro w' ⟨s0,s1⟩
                go_simp
                with_reducible rfl
               rotate_left
               ·simp only [sp,i64_w,i32_w]
                rfl
               refine pure_ (i:= 7) (N:= some 64) (v:= ?_) (a':= ?_) #[T_,T_,T_,T_,T_,T_,T_,T_,F_,F_,F_,F_,F_,F_,F_,F_,F_,F_,F_,F_,F_,F_,F_,F_,F_,F_,F_,F_,F_,F_,F_,F_,F_,F_,F_,F_,F_,F_,F_,F_,F_,F_,F_,F_,F_] rfl rfl (any_of HT_.out (by kernel_rfl)) (fun _ _ _ h => h) (Or.inl ⟨by rfl,?_⟩) ?_ ?_
               rotate_left
               ·intro w'
                go_simp
                with_reducible rfl
               rotate_left
               ·simp only [sp,i64_w,i32_w]
                rfl
               refine pure_ (i:= 8) (N:= some 65) (v:= ?_) (a':= ?_) #[T_,T_,T_,T_,T_,T_,T_,T_,T_,F_,F_,F_,F_,F_,F_,F_,F_,F_,F_,F_,F_,F_,F_,F_,F_,F_,F_,F_,F_,F_,F_,F_,F_,F_,F_,F_,F_,F_,F_,F_,F_,F_,F_,F_,F_] rfl rfl (any_of HT_.out (by kernel_rfl)) (fun _ _ _ h => h) (Or.inl ⟨by rfl,?_⟩) ?_ ?_
               rotate_left
               ·intro w'
                go_simp
                with_reducible rfl
               rotate_left
               ·simp only [sp,i64_w,i32_w]
                rfl
               refine pure_ (i:= 9) (N:= some 66) (v:= ?_) (a':= ?_) #[T_,T_,T_,T_,T_,T_,T_,T_,T_,T_,F_,F_,F_,F_,F_,F_,F_,F_,F_,F_,F_,F_,F_,F_,F_,F_,F_,F_,F_,F_,F_,F_,F_,F_,F_,F_,F_,F_,F_,F_,F_,F_,F_,F_,F_] rfl rfl (any_of HT_.out (by kernel_rfl)) (fun _ _ _ h => h) (Or.inl ⟨by rfl,?_⟩) ?_ ?_
               rotate_left
               ·intro w'
                go_simp
                with_reducible rfl
               rotate_left
               ·simp only [sp,i64_w,i32_w]
                rfl
               refine pure_ (i:= 10) (N:= some 67) (v:= undef) (a':= ?_) #[T_,T_,T_,T_,T_,T_,T_,T_,T_,T_,T_,F_,F_,F_,F_,F_,F_,F_,F_,F_,F_,F_,F_,F_,F_,F_,F_,F_,F_,F_,F_,F_,F_,F_,F_,F_,F_,F_,F_,F_,F_,F_,F_,F_,F_] rfl rfl (any_of HT_.out (by kernel_rfl)) (fun _ _ _ h => h) (Or.inr ⟨by rfl,rfl⟩) ?_ ?_
               rotate_left
               ·simp only [sp,i64_w,i32_w]
                rfl
               refine pure_ (i:= 11) (N:= some 68) (v:= undef) (a':= ?_) #[T_,T_,T_,T_,T_,T_,T_,T_,T_,T_,T_,T_,F_,F_,F_,F_,F_,F_,F_,F_,F_,F_,F_,F_,F_,F_,F_,F_,F_,F_,F_,F_,F_,F_,F_,F_,F_,F_,F_,F_,F_,F_,F_,F_,F_] rfl rfl (any_of HT_.out (by kernel_rfl)) (fun _ _ _ h => h) (Or.inr ⟨by rfl,rfl⟩) ?_ ?_
               rotate_left
               ·simp only [sp,i64_w,i32_w]
                rfl
               refine pure_ (i:= 12) (N:= some 69) (v:= undef) (a':= ?_) #[T_,T_,T_,T_,T_,T_,T_,T_,T_,T_,T_,T_,T_,F_,F_,F_,F_,F_,F_,F_,F_,F_,F_,F_,F_,F_,F_,F_,F_,F_,F_,F_,F_,F_,F_,F_,F_,F_,F_,F_,F_,F_,F_,F_,F_] rfl rfl (any_of HT_.out (by kernel_rfl)) (fun _ _ _ h => h) (Or.inr ⟨by rfl,rfl⟩) ?_ ?_
               rotate_left
               ·simp only [sp,i64_w,i32_w]
                rfl
               refine pure_ (i:= 13) (N:= some 70) (v:= undef) (a':= ?_) #[T_,T_,T_,T_,T_,T_,T_,T_,T_,T_,T_,T_,T_,T_,F_,F_,F_,F_,F_,F_,F_,F_,F_,F_,F_,F_,F_,F_,F_,F_,F_,F_,F_,F_,F_,F_,F_,F_,F_,F_,F_,F_,F_,F_,F_] rfl rfl (any_of HT_.out (by kernel_rfl)) (fun _ _ _ h => h) (Or.inr ⟨by rfl,rfl⟩) ?_ ?_
               rotate_left
               ·simp only [sp,i64_w,i32_w]
                rfl
               refine pure_ (i:= 14) (N:= some 71) (v:= undef) (a':= ?_) #[T_,T_,T_,T_,T_,T_,T_,T_,T_,T_,T_,T_,T_,T_,T_,F_,F_,F_,F_,F_,F_,F_,F_,F_,F_,F_,F_,F_,F_,F_,F_,F_,F_,F_,F_,F_,F_,F_,F_,F_,F_,F_,F_,F_,F_] rfl rfl (any_of HT_.out (by kernel_rfl)) (fun _ _ _ h => h) (Or.inr ⟨by rfl,rfl⟩) ?_ ?_
               rotate_left
               ·simp only [sp,i64_w,i32_w]
                rfl
               refine pure_ (i:= 15) (N:= some 72) (v:= undef) (a':= ?_) #[T_,T_,T_,T_,T_,T_,T_,T_,T_,T_,T_,T_,T_,T_,T_,T_,F_,F_,F_,F_,F_,F_,F_,F_,F_,F_,F_,F_,F_,F_,F_,F_,F_,F_,F_,F_,F_,F_,F_,F_,F_,F_,F_,F_,F_] rfl rfl (any_of HT_.out (by kernel_rfl)) (fun _ _ _ h => h) (Or.inr ⟨by rfl,rfl⟩) ?_ ?_
               rotate_left
               ·simp only [sp,i64_w,i32_w]
                rfl
               refine pure_ (i:= 16) (N:= some 73) (v:= ?_) (a':= ?_) #[T_,T_,T_,T_,T_,T_,T_,T_,T_,T_,T_,T_,T_,T_,T_,T_,T_,F_,F_,F_,F_,F_,F_,F_,F_,F_,F_,F_,F_,F_,F_,F_,F_,F_,F_,F_,F_,F_,F_,F_,F_,F_,F_,F_,F_] rfl rfl (any_of HT_.out (by kernel_rfl)) (fun _ _ _ h => h) (Or.inl ⟨by rfl,?_⟩) ?_ ?_
               rotate_left
               ·intro w'
                go_simp
                with_reducible rfl
               rotate_left
               ·simp only [sp,i64_w,i32_w]
                rfl
               refine pure_ (i:= 17) (N:= some 74) (v:= ?_) (a':= ?_) #[T_,T_,T_,T_,T_,T_,T_,T_,T_,T_,T_,T_,T_,T_,T_,T_,T_,T_,F_,F_,F_,F_,F_,F_,F_,F_,F_,F_,F_,F_,F_,F_,F_,F_,F_,F_,F_,F_,F_,F_,F_,F_,F_,F_,F_] rfl rfl (any_of HT_.out (by kernel_rfl)) (fun _ _ _ h => h) (Or.inl ⟨by rfl,?_⟩) ?_ ?_
               rotate_left
               ·intro w'
                go_simp
                with_reducible rfl
               rotate_left
               ·simp only [sp,i64_w,i32_w]
                rfl
               refine pure_ (i:= 18) (N:= some 75) (v:= undef) (a':= ?_) #[T_,T_,T_,T_,T_,T_,T_,T_,T_,T_,T_,T_,T_,T_,T_,T_,T_,T_,T_,F_,F_,F_,F_,F_,F_,F_,F_,F_,F_,F_,F_,F_,F_,F_,F_,F_,F_,F_,F_,F_,F_,F_,F_,F_,F_] rfl rfl (any_of HT_.out (by kernel_rfl)) (fun _ _ _ h => h) (Or.inr ⟨by rfl,rfl⟩) ?_ ?_
               rotate_left
               ·simp only [sp,i64_w,i32_w]
                rfl
               refine pure_ (i:= 19) (N:= some 76) (v:= undef) (a':= ?_) #[T_,T_,T_,T_,T_,T_,T_,T_,T_,T_,T_,T_,T_,T_,T_,T_,T_,T_,T_,T_,F_,F_,F_,F_,F_,F_,F_,F_,F_,F_,F_,F_,F_,F_,F_,F_,F_,F_,F_,F_,F_,F_,F_,F_,F_] rfl rfl (any_of HT_.out (by kernel_rfl)) (fun _ _ _ h => h) (Or.inr ⟨by rfl,rfl⟩) ?_ ?_
               rotate_left
               ·simp only [sp,i64_w,i32_w]
                rfl
               refine pure_ (i:= 20) (N:= some 77) (v:= undef) (a':= ?_) #[T_,T_,T_,T_,T_,T_,T_,T_,T_,T_,T_,T_,T_,T_,T_,T_,T_,T_,T_,T_,T_,F_,F_,F_,F_,F_,F_,F_,F_,F_,F_,F_,F_,F_,F_,F_,F_,F_,F_,F_,F_,F_,F_,F_,F_] rfl rfl (any_of HT_.out (by kernel_rfl)) (fun _ _ _ h => h) (Or.inr ⟨by rfl,rfl⟩) ?_ ?_
               rotate_left
               ·simp only [sp,i64_w,i32_w]
                rfl
               refine pure_ (i:= 21) (N:= some 78) (v:= undef) (a':= ?_) #[T_,T_,T_,T_,T_,T_,T_,T_,T_,T_,T_,T_,T_,T_,T_,T_,T_,T_,T_,T_,T_,T_,F_,F_,F_,F_,F_,F_,F_,F_,F_,F_,F_,F_,F_,F_,F_,F_,F_,F_,F_,F_,F_,F_,F_] rfl rfl (any_of HT_.out (by kernel_rfl)) (fun _ _ _ h => h) (Or.inr ⟨by rfl,rfl⟩) ?_ ?_
               rotate_left
               ·simp only [sp,i64_w,i32_w]
                rfl
               refine pure_ (i:= 22) (N:= some 79) (v:= undef) (a':= ?_) #[T_,T_,T_,T_,T_,T_,T_,T_,T_,T_,T_,T_,T_,T_,T_,T_,T_,T_,T_,T_,T_,T_,T_,F_,F_,F_,F_,F_,F_,F_,F_,F_,F_,F_,F_,F_,F_,F_,F_,F_,F_,F_,F_,F_,F_] rfl rfl (any_of HT_.out (by kernel_rfl)) (fun _ _ _ h => h) (Or.inr ⟨by rfl,rfl⟩) ?_ ?_
               rotate_left
               ·simp only [sp,i64_w,i32_w]
                rfl
               refine pure_ (i:= 23) (N:= some 80) (v:= undef) (a':= ?_) #[T_,T_,T_,T_,T_,T_,T_,T_,T_,T_,T_,T_,T_,T_,T_,T_,T_,T_,T_,T_,T_,T_,T_,T_,F_,F_,F_,F_,F_,F_,F_,F_,F_,F_,F_,F_,F_,F_,F_,F_,F_,F_,F_,F_,F_] rfl rfl (any_of HT_.out (by kernel_rfl)) (fun _ _ _ h => h) (Or.inr ⟨by rfl,rfl⟩) ?_ ?_
               rotate_left
               ·simp only [sp,i64_w,i32_w]
                rfl
               refine pure_ (i:= 24) (N:= some 81) (v:= undef) (a':= ?_) #[T_,T_,T_,T_,T_,T_,T_,T_,T_,T_,T_,T_,T_,T_,T_,T_,T_,T_,T_,T_,T_,T_,T_,T_,T_,F_,F_,F_,F_,F_,F_,F_,F_,F_,F_,F_,F_,F_,F_,F_,F_,F_,F_,F_,F_] rfl rfl (any_of HT_.out (by kernel_rfl)) (fun _ _ _ h => h) (Or.inr ⟨by rfl,rfl⟩) ?_ ?_
               rotate_left
               ·simp only [sp,i64_w,i32_w]
                rfl
               refine pure_ (i:= 25) (N:= some 82) (v:= undef) (a':= ?_) #[T_,T_,T_,T_,T_,T_,T_,T_,T_,T_,T_,T_,T_,T_,T_,T_,T_,T_,T_,T_,T_,T_,T_,T_,T_,T_,F_,F_,F_,F_,F_,F_,F_,F_,F_,F_,F_,F_,F_,F_,F_,F_,F_,F_,F_] rfl rfl (any_of HT_.out (by kernel_rfl)) (fun _ _ _ h => h) (Or.inr ⟨by rfl,rfl⟩) ?_ ?_
               rotate_left
               ·simp only [sp,i64_w,i32_w]
                rfl
               refine pure_ (i:= 26) (N:= some 83) (v:= undef) (a':= ?_) #[T_,T_,T_,T_,T_,T_,T_,T_,T_,T_,T_,T_,T_,T_,T_,T_,T_,T_,T_,T_,T_,T_,T_,T_,T_,T_,T_,F_,F_,F_,F_,F_,F_,F_,F_,F_,F_,F_,F_,F_,F_,F_,F_,F_,F_] rfl rfl (any_of HT_.out (by kernel_rfl)) (fun _ _ _ h => h) (Or.inr ⟨by rfl,rfl⟩) ?_ ?_
               rotate_left
               ·simp only [sp,i64_w,i32_w]
                rfl
               refine pure_ (i:= 27) (N:= some 84) (v:= undef) (a':= ?_) #[T_,T_,T_,T_,T_,T_,T_,T_,T_,T_,T_,T_,T_,T_,T_,T_,T_,T_,T_,T_,T_,T_,T_,T_,T_,T_,T_,T_,F_,F_,F_,F_,F_,F_,F_,F_,F_,F_,F_,F_,F_,F_,F_,F_,F_] rfl rfl (any_of HT_.out (by kernel_rfl)) (fun _ _ _ h => h) (Or.inr ⟨by rfl,rfl⟩) ?_ ?_
               rotate_left
               ·simp only [sp,i64_w,i32_w]
                rfl
               refine pure_ (i:= 28) (N:= some 85) (v:= undef) (a':= ?_) #[T_,T_,T_,T_,T_,T_,T_,T_,T_,T_,T_,T_,T_,T_,T_,T_,T_,T_,T_,T_,T_,T_,T_,T_,T_,T_,T_,T_,T_,F_,F_,F_,F_,F_,F_,F_,F_,F_,F_,F_,F_,F_,F_,F_,F_] rfl rfl (any_of HT_.out (by kernel_rfl)) (fun _ _ _ h => h) (Or.inr ⟨by rfl,rfl⟩) ?_ ?_
               rotate_left
               ·simp only [sp,i64_w,i32_w]
                rfl
               refine pure_ (i:= 29) (N:= some 86) (v:= undef) (a':= ?_) #[T_,T_,T_,T_,T_,T_,T_,T_,T_,T_,T_,T_,T_,T_,T_,T_,T_,T_,T_,T_,T_,T_,T_,T_,T_,T_,T_,T_,T_,T_,F_,F_,F_,F_,F_,F_,F_,F_,F_,F_,F_,F_,F_,F_,F_] rfl rfl (any_of HT_.out (by kernel_rfl)) (fun _ _ _ h => h) (Or.inr ⟨by rfl,rfl⟩) ?_ ?_
               rotate_left
               ·simp only [sp,i64_w,i32_w]
                rfl
               refine pure_ (i:= 30) (N:= some 87) (v:= undef) (a':= ?_) #[T_,T_,T_,T_,T_,T_,T_,T_,T_,T_,T_,T_,T_,T_,T_,T_,T_,T_,T_,T_,T_,T_,T_,T_,T_,T_,T_,T_,T_,T_,T_,F_,F_,F_,F_,F_,F_,F_,F_,F_,F_,F_,F_,F_,F_] rfl rfl (any_of HT_.out (by kernel_rfl)) (fun _ _ _ h => h) (Or.inr ⟨by rfl,rfl⟩) ?_ ?_
               rotate_left
               ·simp only [sp,i64_w,i32_w]
                rfl
               refine pure_ (i:= 31) (N:= some 88) (v:= undef) (a':= ?_) #[T_,T_,T_,T_,T_,T_,T_,T_,T_,T_,T_,T_,T_,T_,T_,T_,T_,T_,T_,T_,T_,T_,T_,T_,T_,T_,T_,T_,T_,T_,T_,T_,F_,F_,F_,F_,F_,F_,F_,F_,F_,F_,F_,F_,F_] rfl rfl (any_of HT_.out (by kernel_rfl)) (fun _ _ _ h => h) (Or.inr ⟨by rfl,rfl⟩) ?_ ?_
               rotate_left
               ·simp only [sp,i64_w,i32_w]
                rfl
               refine pure_ (i:= 32) (N:= some 89) (v:= undef) (a':= ?_) #[T_,T_,T_,T_,T_,T_,T_,T_,T_,T_,T_,T_,T_,T_,T_,T_,T_,T_,T_,T_,T_,T_,T_,T_,T_,T_,T_,T_,T_,T_,T_,T_,T_,F_,F_,F_,F_,F_,F_,F_,F_,F_,F_,F_,F_] rfl rfl (any_of HT_.out (by kernel_rfl)) (fun _ _ _ h => h) (Or.inr ⟨by rfl,rfl⟩) ?_ ?_
               rotate_left
               ·simp only [sp,i64_w,i32_w]
                rfl
               refine pure_ (i:= 33) (N:= some 90) (v:= undef) (a':= ?_) #[T_,T_,T_,T_,T_,T_,T_,T_,T_,T_,T_,T_,T_,T_,T_,T_,T_,T_,T_,T_,T_,T_,T_,T_,T_,T_,T_,T_,T_,T_,T_,T_,T_,T_,F_,F_,F_,F_,F_,F_,F_,F_,F_,F_,F_] rfl rfl (any_of HT_.out (by kernel_rfl)) (fun _ _ _ h => h) (Or.inr ⟨by rfl,rfl⟩) ?_ ?_
               rotate_left
               ·simp only [sp,i64_w,i32_w]
                rfl
               refine pure_ (i:= 34) (N:= some 91) (v:= undef) (a':= ?_) #[T_,T_,T_,T_,T_,T_,T_,T_,T_,T_,T_,T_,T_,T_,T_,T_,T_,T_,T_,T_,T_,T_,T_,T_,T_,T_,T_,T_,T_,T_,T_,T_,T_,T_,T_,F_,F_,F_,F_,F_,F_,F_,F_,F_,F_] rfl rfl (any_of HT_.out (by kernel_rfl)) (fun _ _ _ h => h) (Or.inr ⟨by rfl,rfl⟩) ?_ ?_
               rotate_left
               ·simp only [sp,i64_w,i32_w]
                rfl
               refine pure_ (i:= 35) (N:= some 92) (v:= undef) (a':= ?_) #[T_,T_,T_,T_,T_,T_,T_,T_,T_,T_,T_,T_,T_,T_,T_,T_,T_,T_,T_,T_,T_,T_,T_,T_,T_,T_,T_,T_,T_,T_,T_,T_,T_,T_,T_,T_,F_,F_,F_,F_,F_,F_,F_,F_,F_] rfl rfl (any_of HT_.out (by kernel_rfl)) (fun _ _ _ h => h) (Or.inr ⟨by rfl,rfl⟩) ?_ ?_
               rotate_left
               ·simp only [sp,i64_w,i32_w]
                rfl
               refine pure_ (i:= 36) (N:= some 93) (v:= undef) (a':= ?_) #[T_,T_,T_,T_,T_,T_,T_,T_,T_,T_,T_,T_,T_,T_,T_,T_,T_,T_,T_,T_,T_,T_,T_,T_,T_,T_,T_,T_,T_,T_,T_,T_,T_,T_,T_,T_,T_,F_,F_,F_,F_,F_,F_,F_,F_] rfl rfl (any_of HT_.out (by kernel_rfl)) (fun _ _ _ h => h) (Or.inr ⟨by rfl,rfl⟩) ?_ ?_
               rotate_left
               ·simp only [sp,i64_w,i32_w]
                rfl
               refine pure_ (i:= 37) (N:= some 94) (v:= undef) (a':= ?_) #[T_,T_,T_,T_,T_,T_,T_,T_,T_,T_,T_,T_,T_,T_,T_,T_,T_,T_,T_,T_,T_,T_,T_,T_,T_,T_,T_,T_,T_,T_,T_,T_,T_,T_,T_,T_,T_,T_,F_,F_,F_,F_,F_,F_,F_] rfl rfl (any_of HT_.out (by kernel_rfl)) (fun _ _ _ h => h) (Or.inr ⟨by rfl,rfl⟩) ?_ ?_
               rotate_left
               ·simp only [sp,i64_w,i32_w]
                rfl
               refine pure_ (i:= 38) (N:= some 95) (v:= undef) (a':= ?_) #[T_,T_,T_,T_,T_,T_,T_,T_,T_,T_,T_,T_,T_,T_,T_,T_,T_,T_,T_,T_,T_,T_,T_,T_,T_,T_,T_,T_,T_,T_,T_,T_,T_,T_,T_,T_,T_,T_,T_,F_,F_,F_,F_,F_,F_] rfl rfl (any_of HT_.out (by kernel_rfl)) (fun _ _ _ h => h) (Or.inr ⟨by rfl,rfl⟩) ?_ ?_
               rotate_left
               ·simp only [sp,i64_w,i32_w]
                rfl
               refine pure_ (i:= 39) (N:= some 96) (v:= undef) (a':= ?_) #[T_,T_,T_,T_,T_,T_,T_,T_,T_,T_,T_,T_,T_,T_,T_,T_,T_,T_,T_,T_,T_,T_,T_,T_,T_,T_,T_,T_,T_,T_,T_,T_,T_,T_,T_,T_,T_,T_,T_,T_,F_,F_,F_,F_,F_] rfl rfl (any_of HT_.out (by kernel_rfl)) (fun _ _ _ h => h) (Or.inr ⟨by rfl,rfl⟩) ?_ ?_
               rotate_left
               ·simp only [sp,i64_w,i32_w]
                rfl
               refine pure_ (i:= 40) (N:= some 97) (v:= undef) (a':= ?_) #[T_,T_,T_,T_,T_,T_,T_,T_,T_,T_,T_,T_,T_,T_,T_,T_,T_,T_,T_,T_,T_,T_,T_,T_,T_,T_,T_,T_,T_,T_,T_,T_,T_,T_,T_,T_,T_,T_,T_,T_,T_,F_,F_,F_,F_] rfl rfl (any_of HT_.out (by kernel_rfl)) (fun _ _ _ h => h) (Or.inr ⟨by rfl,rfl⟩) ?_ ?_
               rotate_left
               ·simp only [sp,i64_w,i32_w]
                rfl
               refine pure_ (i:= 41) (N:= some 98) (v:= undef) (a':= ?_) #[T_,T_,T_,T_,T_,T_,T_,T_,T_,T_,T_,T_,T_,T_,T_,T_,T_,T_,T_,T_,T_,T_,T_,T_,T_,T_,T_,T_,T_,T_,T_,T_,T_,T_,T_,T_,T_,T_,T_,T_,T_,T_,F_,F_,F_] rfl rfl (any_of HT_.out (by kernel_rfl)) (fun _ _ _ h => h) (Or.inr ⟨by rfl,rfl⟩) ?_ ?_
               rotate_left
               ·simp only [sp,i64_w,i32_w]
                rfl
               refine pure_ (i:= 42) (N:= some 99) (v:= undef) (a':= ?_) #[T_,T_,T_,T_,T_,T_,T_,T_,T_,T_,T_,T_,T_,T_,T_,T_,T_,T_,T_,T_,T_,T_,T_,T_,T_,T_,T_,T_,T_,T_,T_,T_,T_,T_,T_,T_,T_,T_,T_,T_,T_,T_,T_,F_,F_] rfl rfl (any_of HT_.out (by kernel_rfl)) (fun _ _ _ h => h) (Or.inr ⟨by rfl,rfl⟩) ?_ ?_
               rotate_left
               ·simp only [sp,i64_w,i32_w]
                rfl
               refine pure_ (i:= 43) (N:= some 100) (v:= undef) (a':= ?_) #[T_,T_,T_,T_,T_,T_,T_,T_,T_,T_,T_,T_,T_,T_,T_,T_,T_,T_,T_,T_,T_,T_,T_,T_,T_,T_,T_,T_,T_,T_,T_,T_,T_,T_,T_,T_,T_,T_,T_,T_,T_,T_,T_,T_,F_] rfl rfl (any_of HT_.out (by kernel_rfl)) (fun _ _ _ h => h) (Or.inr ⟨by rfl,rfl⟩) ?_ ?_
               rotate_left
               ·simp only [sp,i64_w,i32_w]
                rfl
               refine pure_ (i:= 44) (N:= some 101) (v:= ?_) (a':= ?_) #[T_,T_,T_,T_,T_,T_,T_,T_,T_,T_,T_,T_,T_,T_,T_,T_,T_,T_,T_,T_,T_,T_,T_,T_,T_,T_,T_,T_,T_,T_,T_,T_,T_,T_,T_,T_,T_,T_,T_,T_,T_,T_,T_,T_,T_] rfl rfl (any_of HT_.out (by kernel_rfl)) (fun _ _ _ h => h) (Or.inl ⟨by rfl,?_⟩) ?_ ?_
               rotate_left
               ·intro w'
                go_simp
                with_reducible rfl
               rotate_left
               ·simp only [sp,i64_w,i32_w]
                rfl
               refine done_ (done_of HT_.out (by kernel_rfl)) ?_
               try go_wp2
               go_meet
               case rel => exact ⟨_,(true),(by first|rfl|(simp;done)|(simp [*];done)),H',⟨by have:= HJ1.out;have:= HK2.out;have:= HK3.out;first|omega|exact Nat.le_refl _⟩,⟨ub d0.out⟩,⟨ub k0.out⟩,⟨by repeat (first|(with_reducible first|exact HB.out|apply below_alloc|apply pw_below_drewN|apply below_drew1|refine below_set ?_ m1.out|refine below_set ?_ v2.out)|exact HB.out)⟩⟩
              ·rw [if_neg c46] at H
               have j9 : decide (((rd_T50 g0 b0).f1) < 0) = false:= decide_eq_false c46
               clear c46
               (first|rw [j9]|(simp only [i64_w,i32_w];rw [j9])|skip)
               by_cases c49 : ((rd_T50 g0 b0).f1) > (v0.length : Int)
               ·rw [if_pos c49] at H
                have sa5 : decide ((v0.length : Int) < ((rd_T50 g0 b0).f1)) = true:= decide_eq_true c49
                clear c49
                have H':= mk H
                clear H
                try go_wp2
                have n0_ : Aside0 (((w41.setCell ⟨m0,0,none⟩ (.int .i64 ((rd_T50 g0 b0).f0))).setCell ⟨m0,1,none⟩ (.int .i64 ((rd_T50 g0 b0).f1))).heap[o0]? = some (.cells #[.slice d2 v0.length b2,.slice j2 q0.length z1,.slice (some o1) g0.length g2] 29 (0,0))):= ⟨by (with_reducible repeat (first|refine blk_drewN ?_ _|refine blk_drew ?_|refine blk_alloc ?_ _));refine blk_far ?_ b1.out _;(with_reducible repeat (first|refine blk_drewN ?_ _|refine blk_drew ?_|refine blk_alloc ?_ _));refine blk_far ?_ b1.out _;(with_reducible repeat (first|refine blk_drewN ?_ _|refine blk_drew ?_|refine blk_alloc ?_ _));exact d0.out⟩
                have n1_ : Aside0 (((w41.setCell ⟨m0,0,none⟩ (.int .i64 ((rd_T50 g0 b0).f0))).setCell ⟨m0,1,none⟩ (.int .i64 ((rd_T50 g0 b0).f1))).heap[m0]? = some (.cells #[.int .i64 ((rd_T50 g0 b0).f0),.int .i64 ((rd_T50 g0 b0).f1)] 50 (0,0))):= ⟨by (with_reducible repeat (first|refine blk_drewN ?_ _|refine blk_drew ?_|refine blk_alloc ?_ _));refine blk_put (cs:= #[.int .i64 ((rd_T50 g0 b0).f0),.int .i64 0]) ?_ 1 _ rfl;(with_reducible repeat (first|refine blk_drewN ?_ _|refine blk_drew ?_|refine blk_alloc ?_ _));refine blk_put (cs:= #[.int .i64 0,.int .i64 0]) ?_ 0 _ rfl;(with_reducible repeat (first|refine blk_drewN ?_ _|refine blk_drew ?_|refine blk_alloc ?_ _));exact k0.out⟩
                have n2_ : Aside0 (Below w.heap.size w ((w41.setCell ⟨m0,0,none⟩ (.int .i64 ((rd_T50 g0 b0).f0))).setCell ⟨m0,1,none⟩ (.int .i64 ((rd_T50 g0 b0).f1)))):= ⟨by repeat (first|(with_reducible first|exact HB.out|apply below_alloc|apply pw_below_drewN|apply below_drew1|refine below_set ?_ m1.out|refine below_set ?_ v2.out)|exact HB.out)⟩
                (try clear d0)
                (try clear k0)
                (try clear HB)
                generalize ((w41.setCell ⟨m0,0,none⟩ (.int .i64 ((rd_T50 g0 b0).f0))).setCell ⟨m0,1,none⟩ (.int .i64 ((rd_T50 g0 b0).f1))) = w50 at n0_ n1_ n2_ ⊢
                have d0:= n0_
                have k0:= n1_
                have HB:= n2_
                clear n0_ n1_ n2_
                have n0_:= mk (blk_drew d0.out)
                have n1_:= mk (blk_drew k0.out)
                have n2_:= mk (below_drew1 HB.out)
                clear d0
                clear k0
                clear HB
                have d0:= n0_
                have k0:= n1_
                have HB:= n2_
                clear n0_ n1_ n2_
                refine start_ (n:= 45) (S:= fun w' => w'.cell? ⟨m0,0,none⟩ = some (.int .i64 ((rd_T50 g0 b0).f0)) ∧ w'.cell? ⟨m0,1,none⟩ = some (.int .i64 ((rd_T50 g0 b0).f1)) ∧ w'.cell? ⟨o0,0,none⟩ = some (.slice d2 v0.length b2) ∧ w'.cell? ⟨o0,1,none⟩ = some (.slice j2 q0.length z1) ∧ w'.cell? ⟨o0,2,none⟩ = some (.slice (some o1) g0.length g2)) (ds:= []) #[F_,F_,F_,F_,F_,F_,F_,F_,F_,F_,F_,F_,F_,F_,F_,F_,F_,F_,F_,F_,F_,F_,F_,F_,F_,F_,F_,F_,F_,F_,F_,F_,F_,F_,F_,F_,F_,F_,F_,F_,F_,F_,F_,F_,F_] (by kernel_rfl) rfl rfl ⟨(blk_cell k0.out 0).trans rfl,(blk_cell k0.out 1).trans rfl,(blk_cell d0.out 0).trans rfl,(blk_cell d0.out 1).trans rfl,(blk_cell d0.out 2).trans rfl⟩ (fun hHeld => ?_);refine with_tabW impl_IsCracker.tab12 impl_IsCracker.bits12 (fun HT_ HW_ => ?_)
                generalize w50.drew = w51 at d0 k0 HB hHeld ⊢
                refine pure_ (i:= 0) (N:= some 57) (v:= ?_) (a':= ?_) #[T_,F_,F_,F_,F_,F_,F_,F_,F_,F_,F_,F_,F_,F_,F_,F_,F_,F_,F_,F_,F_,F_,F_,F_,F_,F_,F_,F_,F_,F_,F_,F_,F_,F_,F_,F_,F_,F_,F_,F_,F_,F_,F_,F_,F_] rfl rfl (any_of HT_.out (by kernel_rfl)) (fun _ _ _ h => h) (Or.inl ⟨by rfl,?_⟩) ?_ ?_
                rotate_left
                ·intro w'
                 go_simp
                 with_reducible rfl
                rotate_left
                ·simp only [sp,i64_w,i32_w]
                 rfl
                refine take_ (i:= 1) (N:= some 58) (v:= ?_) (a':= ?_) #[T_,T_,F_,F_,F_,F_,F_,F_,F_,F_,F_,F_,F_,F_,F_,F_,F_,F_,F_,F_,F_,F_,F_,F_,F_,F_,F_,F_,F_,F_,F_,F_,F_,F_,F_,F_,F_,F_,F_,F_,F_,F_,F_,F_,F_] rfl rfl (take_ofW HT_.out HW_.out (by kernel_rfl)) (fun _ _ _ h => h) (Or.inl ⟨by rfl,?_⟩) hHeld ?_ ?_
                rotate_left
                ·rintro w' ⟨s0,s1,s2,s3,s4⟩
                 go_simp
                 with_reducible rfl
                rotate_left
                ·simp only [sp,i64_w,i32_w]
                 rfl
                refine one_ (i:= 2) (N:= some 59) #[T_,T_,T_,F_,F_,F_,F_,F_,F_,F_,F_,F_,F_,F_,F_,F_,F_,F_,F_,F_,F_,F_,F_,F_,F_,F_,F_,F_,F_,F_,F_,F_,F_,F_,F_,F_,F_,F_,F_,F_,F_,F_,F_,F_,F_] rfl rfl (one_of HT_.out (by kernel_rfl)) (by decide) (fun K hK => ?_)
                refine goes_ Try.func50 (by kernel_rfl) rfl #[.int .i64 ((rd_T50 g0 b0).f0)] (by rfl) rfl rfl (by (try simp only [List.map_toArray,List.map_cons,List.map_nil]);first|done|rfl|(simp only [List.length_drop,List.length_take];rfl)) ?_
                with_reducible refine (impl_bound.calls ((rd_T50 g0 b0).f0) true _ A44.out).mono ?_
                rintro e w' ⟨rfl,⟨nd,rfl⟩⟩
                refine ⟨_,rfl,?_⟩
                refine hK.out _ _ ⟨(blk_cell k0.out 0).trans rfl,(blk_cell k0.out 1).trans rfl,(blk_cell d0.out 0).trans rfl,(blk_cell d0.out 1).trans rfl,(blk_cell d0.out 2).trans rfl⟩ (fun hHeld => ?_)
                clear hK K
                refine norm_ (a':= ?_) ?_ ?_
                rotate_left
                ·show Act.put _ (some 59) _ = _
                 simp only [sp,i64_w,i32_w]
                 rfl
                refine pure_ (i:= 3) (N:= some 60) (v:= ?_) (a':= ?_) #[T_,T_,T_,T_,F_,F_,F_,F_,F_,F_,F_,F_,F_,F_,F_,F_,F_,F_,F_,F_,F_,F_,F_,F_,F_,F_,F_,F_,F_,F_,F_,F_,F_,F_,F_,F_,F_,F_,F_,F_,F_,F_,F_,F_,F_] rfl rfl (any_of HT_.out (by kernel_rfl)) (fun _ _ _ h => h) (Or.inl ⟨by rfl,?_⟩) ?_ ?_
                rotate_left
                ·intro w'
                 go_simp
                 with_reducible rfl
                rotate_left
                ·simp only [sp,i64_w,i32_w]
                 rfl
                refine pure_ (i:= 4) (N:= some 61) (v:= ?_) (a':= ?_) #[T_,T_,T_,T_,T_,F_,F_,F_,F_,F_,F_,F_,F_,F_,F_,F_,F_,F_,F_,F_,F_,F_,F_,F_,F_,F_,F_,F_,F_,F_,F_,F_,F_,F_,F_,F_,F_,F_,F_,F_,F_,F_,F_,F_,F_] rfl rfl (any_of HT_.out (by kernel_rfl)) (fun _ _ _ h => h) (Or.inl ⟨by rfl,?_⟩) ?_ ?_
                rotate_left
                ·intro w'
                 go_simp
                 with_reducible rfl
                rotate_left
                ·simp only [sp,i64_w,i32_w]
                 rfl
                refine pure_ (i:= 5) (N:= some 62) (v:= ?_) (a':= ?_) #[T_,T_,T_,T_,T_,T_,F_,F_,F_,F_,F_,F_,F_,F_,F_,F_,F_,F_,F_,F_,F_,F_,F_,F_,F_,F_,F_,F_,F_,F_,F_,F_,F_,F_,F_,F_,F_,F_,F_,F_,F_,F_,F_,F_,F_] rfl rfl (any_of HT_.out (by kernel_rfl)) (fun _ _ _ h => h) (Or.inl ⟨by rfl,?_⟩) ?_ ?_
                rotate_left
                ·intro w'
                 go_simp
                 with_reducible rfl
                rotate_left
                ·simp only [sp,i64_w,i32_w]
                 rfl
                refine take_ (i:= 6) (N:= some 63) (v:= ?_) (a':= ?_) #[T_,T_,T_,T_,T_,T_,T_,F_,F_,F_,F_,F_,F_,F_,F_,F_,F_,F_,F_,F_,F_,F_,F_,F_,F_,F_,F_,F_,F_,F_,F_,F_,F_,F_,F_,F_,F_,F_,F_,F_,F_,F_,F_,F_,F_] rfl rfl (take_ofW HT_.out HW_.out (by kernel_rfl)) (fun _ _ _ h => h) (Or.inl ⟨by rfl,?_⟩) hHeld ?_ ?_
                rotate_left
                ·rintro w' ⟨s0,s1,s2,s3,s4⟩
                 go_simp
                 with_reducible rfl
                rotate_left
                ·simp only [sp,i64_w,i32_w]
                 rfl
                refine pure_ (i:= 7) (N:= some 64) (v:= ?_) (a':= ?_) #[T_,T_,T_,T_,T_,T_,T_,T_,F_,F_,F_,F_,F_,F_,F_,F_,F_,F_,F_,F_,F_,F_,F_,F_,F_,F_,F_,F_,F_,F_,F_,F_,F_,F_,F_,F_,F_,F_,F_,F_,F_,F_,F_,F_,F_] rfl rfl (any_of HT_.out (by kernel_rfl)) (fun _ _ _ h => h) (Or.inl ⟨by rfl,?_⟩) ?_ ?_
                rotate_left
                ·intro w'
                 go_simp
                 with_reducible rfl
                rotate_left
                ·simp only [sp,i64_w,i32_w]
                 rfl
                refine pure_ (i:= 8) (N:= some 65) (v:= ?_) (a':= ?_) #[T_,T_,T_,T_,T_,T_,T_,T_,T_,F_,F_,F_,F_,F_,F_,F_,F_,F_,F_,F_,F_,F_,F_,F_,F_,F_,F_,F_,F_,F_,F_,F_,F_,F_,F_,F_,F_,F_,F_,F_,F_,F_,F_,F_,F_] rfl rfl (any_of HT_.out (by kernel_rfl)) (fun _ _ _ h => h) (Or.inl ⟨by rfl,?_⟩) ?_ ?_
                rotate_left
                ·intro w'
                 go_simp
                 with_reducible rfl
                rotate_left
                ·simp only [sp,i64_w,i32_w]
                 rfl
                refine pure_ (i:= 9) (N:= some 66) (v:= ?_) (a':= ?_) #[T_,T_,T_,T_,T_,T_,T_,T_,T_,T_,F_,F_,F_,F_,F_,F_,F_,F_,F_,F_,F_,F_,F_,F_,F_,F_,F_,F_,F_,F_,F_,F_,F_,F_,F_,F_,F_,F_,F_,F_,F_,F_,F_,F_,F_] rfl rfl (any_of HT_.out (by kernel_rfl)) (fun _ _ _ h => h) (Or.inl ⟨by rfl,?_⟩) ?_ ?_
                rotate_left
                ·intro w'
                 go_simp
                 with_reducible rfl
                rotate_left
                ·simp only [sp,i64_w,i32_w]
                 rfl
                refine pure_ (i:= 10) (N:= some 67) (v:= ?_) (a':= ?_) #[T_,T_,T_,T_,T_,T_,T_,T_,T_,T_,T_,F_,F_,F_,F_,F_,F_,F_,F_,F_,F_,F_,F_,F_,F_,F_,F_,F_,F_,F_,F_,F_,F_,F_,F_,F_,F_,F_,F_,F_,F_,F_,F_,F_,F_] rfl rfl (any_of HT_.out (by kernel_rfl)) (fun _ _ _ h => h) (Or.inl ⟨by rfl,?_⟩) ?_ ?_
                rotate_left
                ·intro w'
                 go_simp
                 with_reducible rfl
                rotate_left
                ·simp only [sp,i64_w,i32_w]
                 rfl
                refine pure_ (i:= 12) (N:= some 69) (v:= ?_) (a':= ?_) #[T_,T_,T_,T_,T_,T_,T_,T_,T_,T_,T_,F_,T_,F_,F_,F_,F_,F_,F_,F_,F_,F_,F_,F_,F_,F_,F_,F_,F_,F_,F_,F_,F_,F_,F_,F_,F_,F_,F_,F_,F_,F_,F_,F_,F_] rfl rfl (any_of HT_.out (by kernel_rfl)) (fun _ _ _ h => h) (Or.inl ⟨by rfl,?_⟩) ?_ ?_
                rotate_left
                ·intro w'
                 go_simp
                 with_reducible rfl
                rotate_left
                ·simp only [sp,i64_w,i32_w]
                 rfl
                refine take_ (i:= 11) (N:= some 68) (v:= ?_) (a':= ?_) #[T_,T_,T_,T_,T_,T_,T_,T_,T_,T_,T_,T_,T_,F_,F_,F_,F_,F_,F_,F_,F_,F_,F_,F_,F_,F_,F_,F_,F_,F_,F_,F_,F_,F_,F_,F_,F_,F_,F_,F_,F_,F_,F_,F_,F_] rfl rfl (take_ofW HT_.out HW_.out (by kernel_rfl)) (fun _ _ _ h => h) (Or.inl ⟨by rfl,?_⟩) hHeld ?_ ?_
                rotate_left
                ·rintro w' ⟨s0,s1,s2,s3,s4⟩
                 go_simp
                 with_reducible rfl
                rotate_left
                ·simp only [sp,i64_w,i32_w]
                 rfl
                refine take_ (i:= 13) (N:= some 70) (v:= ?_) (a':= ?_) #[T_,T_,T_,T_,T_,T_,T_,T_,T_,T_,T_,T_,T_,T_,F_,F_,F_,F_,F_,F_,F_,F_,F_,F_,F_,F_,F_,F_,F_,F_,F_,F_,F_,F_,F_,F_,F_,F_,F_,F_,F_,F_,F_,F_,F_] rfl rfl (take_ofW HT_.out HW_.out (by kernel_rfl)) (fun _ _ _ h => h) (Or.inl ⟨by rfl,?_⟩) hHeld ?_ ?_
                rotate_left
                ·rintro w' ⟨s0,s1,s2,s3,s4⟩
                 go_simp
                 with_reducible rfl
                rotate_left
                ·simp only [sp,i64_w,i32_w]
                 rfl
                refine pure_ (i:= 14) (N:= some 71) (v:= ?_) (a':= ?_) #[T_,T_,T_,T_,T_,T_,T_,T_,T_,T_,T_,T_,T_,T_,T_,F_,F_,F_,F_,F_,F_,F_,F_,F_,F_,F_,F_,F_,F_,F_,F_,F_,F_,F_,F_,F_,F_,F_,F_,F_,F_,F_,F_,F_,F_] rfl rfl (any_of HT_.out (by kernel_rfl)) (fun _ _ _ h => h) (Or.inl ⟨by rfl,?_⟩) ?_ ?_
                rotate_left
                ·intro w'
                 go_simp
                 with_reducible rfl
                rotate_left
                ·simp only [sp,i64_w,i32_w]
                 rfl
                refine pure_ (i:= 15) (N:= some 72) (v:= ?_) (a':= ?_) #[T_,T_,T_,T_,T_,T_,T_,T_,T_,T_,T_,T_,T_,T_,T_,T_,F_,F_,F_,F_,F_,F_,F_,F_,F_,F_,F_,F_,F_,F_,F_,F_,F_,F_,F_,F_,F_,F_,F_,F_,F_,F_,F_,F_,F_] rfl rfl (any_of HT_.out (by kernel_rfl)) (fun _ _ _ h => h) (Or.inl ⟨by rfl,?_⟩) ?_ ?_
                rotate_left
                ·intro w'
                 go_simp
                 with_reducible rfl
                rotate_left
                ·simp only [sp,i64_w,i32_w]
                 rfl
                refine pure_ (i:= 16) (N:= some 73) (v:= ?_) (a':= ?_) #[T_,T_,T_,T_,T_,T_,T_,T_,T_,T_,T_,T_,T_,T_,T_,T_,T_,F_,F_,F_,F_,F_,F_,F_,F_,F_,F_,F_,F_,F_,F_,F_,F_,F_,F_,F_,F_,F_,F_,F_,F_,F_,F_,F_,F_] rfl rfl (any_of HT_.out (by kernel_rfl)) (fun _ _ _ h => h) (Or.inl ⟨by rfl,?_⟩) ?_ ?_
                rotate_left
                ·intro w'
                 go_simp
                 with_reducible rfl
                rotate_left
                ·simp only [sp,i64_w,i32_w]
                 rfl
                refine pure_ (i:= 17) (N:= some 74) (v:= ?_) (a':= ?_) #[T_,T_,T_,T_,T_,T_,T_,T_,T_,T_,T_,T_,T_,T_,T_,T_,T_,T_,F_,F_,F_,F_,F_,F_,F_,F_,F_,F_,F_,F_,F_,F_,F_,F_,F_,F_,F_,F_,F_,F_,F_,F_,F_,F_,F_] rfl rfl (any_of HT_.out (by kernel_rfl)) (fun _ _ _ h => h) (Or.inl ⟨by rfl,?_⟩) ?_ ?_
                rotate_left
                ·intro w'
                 go_simp
                 with_reducible rfl
                rotate_left
                ·simp only [sp,i64_w,i32_w]
                 rfl
                refine pure_ (i:= 18) (N:= some 75) (v:= undef) (a':= ?_) #[T_,T_,T_,T_,T_,T_,T_,T_,T_,T_,T_,T_,T_,T_,T_,T_,T_,T_,T_,F_,F_,F_,F_,F_,F_,F_,F_,F_,F_,F_,F_,F_,F_,F_,F_,F_,F_,F_,F_,F_,F_,F_,F_,F_,F_] rfl rfl (any_of HT_.out (by kernel_rfl)) (fun _ _ _ h => h) (Or.inr ⟨by rfl,rfl⟩) ?_ ?_
                rotate_left
                ·simp only [sp,i64_w,i32_w]
                 rfl
                refine pure_ (i:= 19) (N:= some 76) (v:= undef) (a':= ?_) #[T_,T_,T_,T_,T_,T_,T_,T_,T_,T_,T_,T_,T_,T_,T_,T_,T_,T_,T_,T_,F_,F_,F_,F_,F_,F_,F_,F_,F_,F_,F_,F_,F_,F_,F_,F_,F_,F_,F_,F_,F_,F_,F_,F_,F_] rfl rfl (any_of HT_.out (by kernel_rfl)) (fun _ _ _ h => h) (Or.inr ⟨by rfl,rfl⟩) ?_ ?_
                rotate_left
                ·simp only [sp,i64_w,i32_w]
                 rfl
                refine pure_ (i:= 20) (N:= some 77) (v:= undef) (a':= ?_) #[T_,T_,T_,T_,T_,T_,T_,T_,T_,T_,T_,T_,T_,T_,T_,T_,T_,T_,T_,T_,T_,F_,F_,F_,F_,F_,F_,F_,F_,F_,F_,F_,F_,F_,F_,F_,F_,F_,F_,F_,F_,F_,F_,F_,F_] rfl rfl (any_of HT_.out (by kernel_rfl)) (fun _ _ _ h => h) (Or.inr ⟨by rfl,rfl⟩) ?_ ?_
                rotate_left
                ·simp only [sp,i64_w,i32_w]
                 rfl
                refine pure_ (i:= 21) (N:= some 78) (v:= undef) (a':= ?_) #[T_,T_,T_,T_,T_,T_,T_,T_,T_,T_,T_,T_,T_,T_,T_,T_,T_,T_,T_,T_,T_,T_,F_,F_,F_,F_,F_,F_,F_,F_,F_,F_,F_,F_,F_,F_,F_,F_,F_,F_,F_,F_,F_,F_,F_] rfl rfl (any_of HT_.out (by kernel_rfl)) (fun _ _ _ h => h) (Or.inr ⟨by rfl,rfl⟩) ?_ ?_
                rotate_left
                ·simp only [sp,i64_w,i32_w]
                 rfl
                refine pure_ (i:= 22) (N:= some 79) (v:= undef) (a':= ?_) #[T_,T_,T_,T_,T_,T_,T_,T_,T_,T_,T_,T_,T_,T_,T_,T_,T_,T_,T_,T_,T_,T_,T_,F_,F_,F_,F_,F_,F_,F_,F_,F_,F_,F_,F_,F_,F_,F_,F_,F_,F_,F_,F_,F_,F_] rfl rfl (any_of HT_.out (by kernel_rfl)) (fun _ _ _ h => h) (Or.inr ⟨by rfl,rfl⟩) ?_ ?_
                rotate_left
                ·simp only [sp,i64_w,i32_w]
                 rfl
                refine pure_ (i:= 23) (N:= some 80) (v:= undef) (a':= ?_) #[T_,T_,T_,T_,T_,T_,T_,T_,T_,T_,T_,T_,T_,T_,T_,T_,T_,T_,T_,T_,T_,T_,T_,T_,F_,F_,F_,F_,F_,F_,F_,F_,F_,F_,F_,F_,F_,F_,F_,F_,F_,F_,F_,F_,F_] rfl rfl (any_of HT_.out (by kernel_rfl)) (fun _ _ _ h => h) (Or.inr ⟨by rfl,rfl⟩) ?_ ?_
                rotate_left
                ·simp only [sp,i64_w,i32_w]
                 rfl
                refine pure_ (i:= 24) (N:= some 81) (v:= undef) (a':= ?_) #[T_,T_,T_,T_,T_,T_,T_,T_,T_,T_,T_,T_,T_,T_,T_,T_,T_,T_,T_,T_,T_,T_,T_,T_,T_,F_,F_,F_,F_,F_,F_,F_,F_,F_,F_,F_,F_,F_,F_,F_,F_,F_,F_,F_,F_] rfl rfl (any_of HT_.out (by kernel_rfl)) (fun _ _ _ h => h) (Or.inr ⟨by rfl,rfl⟩) ?_ ?_
                rotate_left
                ·simp only [sp,i64_w,i32_w]
                 rfl
                refine pure_ (i:= 25) (N:= some 82) (v:= undef) (a':= ?_) #[T_,T_,T_,T_,T_,T_,T_,T_,T_,T_,T_,T_,T_,T_,T_,T_,T_,T_,T_,T_,T_,T_,T_,T_,T_,T_,F_,F_,F_,F_,F_,F_,F_,F_,F_,F_,F_,F_,F_,F_,F_,F_,F_,F_,F_] rfl rfl (any_of HT_.out (by kernel_rfl)) (fun _ _ _ h => h) (Or.inr ⟨by rfl,rfl⟩) ?_ ?_
                rotate_left
                ·simp only [sp,i64_w,i32_w]
                 rfl
                refine pure_ (i:= 26) (N:= some 83) (v:= undef) (a':= ?_) #[T_,T_,T_,T_,T_,T_,T_,T_,T_,T_,T_,T_,T_,T_,T_,T_,T_,T_,T_,T_,T_,T_,T_,T_,T_,T_,T_,F_,F_,F_,F_,F_,F_,F_,F_,F_,F_,F_,F_,F_,F_,F_,F_,F_,F_] rfl rfl (any_of HT_.out (by kernel_rfl)) (fun _ _ _ h => h) (Or.inr ⟨by rfl,rfl⟩) ?_ ?_
                rotate_left
                ·simp only [sp,i64_w,i32_w]
                 rfl
                refine pure_ (i:= 27) (N:= some 84) (v:= undef) (a':= ?_) #[T_,T_,T_,T_,T_,T_,T_,T_,T_,T_,T_,T_,T_,T_,T_,T_,T_,T_,T_,T_,T_,T_,T_,T_,T_,T_,T_,T_,F_,F_,F_,F_,F_,F_,F_,F_,F_,F_,F_,F_,F_,F_,F_,F_,F_] rfl rfl (any_of HT_.out (by kernel_rfl)) (fun _ _ _ h => h) (Or.inr ⟨by rfl,rfl⟩) ?_ ?_
                rotate_left
                ·simp only [sp,i64_w,i32_w]
                 rfl
                refine pure_ (i:= 28) (N:= some 85) (v:= undef) (a':= ?_) #[T_,T_,T_,T_,T_,T_,T_,T_,T_,T_,T_,T_,T_,T_,T_,T_,T_,T_,T_,T_,T_,T_,T_,T_,T_,T_,T_,T_,T_,F_,F_,F_,F_,F_,F_,F_,F_,F_,F_,F_,F_,F_,F_,F_,F_] rfl rfl (any_of HT_.out (by kernel_rfl)) (fun _ _ _ h => h) (Or.inr ⟨by rfl,rfl⟩) ?_ ?_
                rotate_left
                ·simp only [sp,i64_w,i32_w]
                 rfl
                refine pure_ (i:= 29) (N:= some 86) (v:= undef) (a':= ?_) #[T_,T_,T_,T_,T_,T_,T_,T_,T_,T_,T_,T_,T_,T_,T_,T_,T_,T_,T_,T_,T_,T_,T_,T_,T_,T_,T_,T_,T_,T_,F_,F_,F_,F_,F_,F_,F_,F_,F_,F_,F_,F_,F_,F_,F_] rfl rfl (any_of HT_.out (by kernel_rfl)) (fun _ _ _ h => h) (Or.inr ⟨by rfl,rfl⟩) ?_ ?_
                rotate_left
                ·simp only [sp,i64_w,i32_w]
                 rfl
                refine pure_ (i:= 30) (N:= some 87) (v:= undef) (a':= ?_) #[T_,T_,T_,T_,T_,T_,T_,T_,T_,T_,T_,T_,T_,T_,T_,T_,T_,T_,T_,T_,T_,T_,T_,T_,T_,T_,T_,T_,T_,T_,T_,F_,F_,F_,F_,F_,F_,F_,F_,F_,F_,F_,F_,F_,F_] rfl rfl (any_of HT_.out (by kernel_rfl)) (fun _ _ _ h => h) (Or.inr ⟨by rfl,rfl⟩) ?_ ?_
                rotate_left
                ·simp only [sp,i64_w,i32_w]
                 rfl
                refine pure_ (i:= 31) (N:= some 88) (v:= undef) (a':= ?_) #[T_,T_,T_,T_,T_,T_,T_,T_,T_,T_,T_,T_,T_,T_,T_,T_,T_,T_,T_,T_,T_,T_,T_,T_,T_,T_,T_,T_,T_,T_,T_,T_,F_,F_,F_,F_,F_,F_,F_,F_,F_,F_,F_,F_,F_] rfl rfl (any_of HT_.out (by kernel_rfl)) (fun _ _ _ h => h) (Or.inr ⟨by rfl,rfl⟩) ?_ ?_
                rotate_left
                ·simp only [sp,i64_w,i32_w]
                 rfl
                refine pure_ (i:= 32) (N:= some 89) (v:= undef) (a':= ?_) #[T_,T_,T_,T_,T_,T_,T_,T_,T_,T_,T_,T_,T_,T_,T_,T_,T_,T_,T_,T_,T_,T_,T_,T_,T_,T_,T_,T_,T_,T_,T_,T_,T_,F_,F_,F_,F_,F_,F_,F_,F_,F_,F_,F_,F_] rfl rfl (any_of HT_.out (by kernel_rfl)) (fun _ _ _ h => h) (Or.inr ⟨by rfl,rfl⟩) ?_ ?_
                rotate_left
                ·simp only [sp,i64_w,i32_w]
                 rfl
                refine pure_ (i:= 33) (N:= some 90) (v:= undef) (a':= ?_) #[T_,T_,T_,T_,T_,T_,T_,T_,T_,T_,T_,T_,T_,T_,T_,T_,T_,T_,T_,T_,T_,T_,T_,T_,T_,T_,T_,T_,T_,T_,T_,T_,T_,T_,F_,F_,F_,F_,F_,F_,F_,F_,F_,F_,F_] rfl rfl (any_of HT_.out (by kernel_rfl)) (fun _ _ _ h => h) (Or.inr ⟨by rfl,rfl⟩) ?_ ?_
                rotate_left
                ·simp only [sp,i64_w,i32_w]
                 rfl
                refine pure_ (i:= 34) (N:= some 91) (v:= undef) (a':= ?_) #[T_,T_,T_,T_,T_,T_,T_,T_,T_,T_,T_,T_,T_,T_,T_,T_,T_,T_,T_,T_,T_,T_,T_,T_,T_,T_,T_,T_,T_,T_,T_,T_,T_,T_,T_,F_,F_,F_,F_,F_,F_,F_,F_,F_,F_] rfl rfl (any_of HT_.out (by kernel_rfl)) (fun _ _ _ h => h) (Or.inr ⟨by rfl,rfl⟩) ?_ ?_
                rotate_left
                ·simp only [sp,i64_w,i32_w]
                 rfl
                refine pure_ (i:= 35) (N:= some 92) (v:= undef) (a':= ?_) #[T_,T_,T_,T_,T_,T_,T_,T_,T_,T_,T_,T_,T_,T_,T_,T_,T_,T_,T_,T_,T_,T_,T_,T_,T_,T_,T_,T_,T_,T_,T_,T_,T_,T_,T_,T_,F_,F_,F_,F_,F_,F_,F_,F_,F_] rfl rfl (any_of HT_.out (by kernel_rfl)) (fun _ _ _ h => h) (Or.inr ⟨by rfl,rfl⟩) ?_ ?_
                rotate_left
                ·simp only [sp,i64_w,i32_w]
                 rfl
                refine pure_ (i:= 36) (N:= some 93) (v:= undef) (a':= ?_) #[T_,T_,T_,T_,T_,T_,T_,T_,T_,T_,T_,T_,T_,T_,T_,T_,T_,T_,T_,T_,T_,T_,T_,T_,T_,T_,T_,T_,T_,T_,T_,T_,T_,T_,T_,T_,T_,F_,F_,F_,F_,F_,F_,F_,F_] rfl rfl (any_of HT_.out (by kernel_rfl)) (fun _ _ _ h => h) (Or.inr ⟨by rfl,rfl⟩) ?_ ?_
                rotate_left
                ·simp only [sp,i64_w,i32_w]
                 rfl
                refine pure_ (i:= 37) (N:= some 94) (v:= undef) (a':= ?_) #[T_,T_,T_,T_,T_,T_,T_,T_,T_,T_,T_,T_,T_,T_,T_,T_,T_,T_,T_,T_,T_,T_,T_,T_,T_,T_,T_,T_,T_,T_,T_,T_,T_,T_,T_,T_,T_,T_,F_,F_,F_,F_,F_,F_,F_] rfl rfl (any_of HT_.out (by kernel_rfl)) (fun _ _ _ h => h) (Or.inr ⟨by rfl,rfl⟩) ?_ ?_
                rotate_left
                ·simp only [sp,i64_w,i32_w]
                 rfl
                refine pure_ (i:= 38) (N:= some 95) (v:= undef) (a':= ?_) #[T_,T_,T_,T_,T_,T_,T_,T_,T_,T_,T_,T_,T_,T_,T_,T_,T_,T_,T_,T_,T_,T_,T_,T_,T_,T_,T_,T_,T_,T_,T_,T_,T_,T_,T_,T_,T_,T_,T_,F_,F_,F_,F_,F_,F_] rfl rfl (any_of HT_.out (by kernel_rfl)) (fun _ _ _ h => h) (Or.inr ⟨by rfl,rfl⟩) ?_ ?_
                rotate_left
                ·simp only [sp,i64_w,i32_w]
                 rfl
                refine pure_ (i:= 39) (N:= some 96) (v:= undef) (a':= ?_) #[T_,T_,T_,T_,T_,T_,T_,T_,T_,T_,T_,T_,T_,T_,T_,T_,T_,T_,T_,T_,T_,T_,T_,T_,T_,T_,T_,T_,T_,T_,T_,T_,T_,T_,T_,T_,T_,T_,T_,T_,F_,F_,F_,F_,F_] rfl rfl (any_of HT_.out (by kernel_rfl)) (fun _ _ _ h => h) (Or.inr ⟨by rfl,rfl⟩) ?_ ?_
                rotate_left
                ·simp only [sp,i64_w,i32_w]
                 rfl
                refine pure_ (i:= 40) (N:= some 97) (v:= undef) (a':= ?_) #[T_,T_,T_,T_,T_,T_,T_,T_,T_,T_,T_,T_,T_,T_,T_,T_,T_,T_,T_,T_,T_,T_,T_,T_,T_,T_,T_,T_,T_,T_,T_,T_,T_,T_,T_,T_,T_,T_,T_,T_,T_,F_,F_,F_,F_] rfl rfl (any_of HT_.out (by kernel_rfl)) (fun _ _ _ h => h) (Or.inr ⟨by rfl,rfl⟩) ?_ ?_
                rotate_left
                ·simp only [sp,i64_w,i32_w]
                 rfl
                refine pure_ (i:= 41) (N:= some 98) (v:= undef) (a':= ?_) #[T_,T_,T_,T_,T_,T_,T_,T_,T_,T_,T_,T_,T_,T_,T_,T_,T_,T_,T_,T_,T_,T_,T_,T_,T_,T_,T_,T_,T_,T_,T_,T_,T_,T_,T_,T_,T_,T_,T_,T_,T_,T_,F_,F_,F_] rfl rfl (any_of HT_.out (by kernel_rfl)) (fun _ _ _ h => h) (Or.inr ⟨by rfl,rfl⟩) ?_ ?_
                rotate_left
                ·simp only [sp,i64_w,i32_w]
                 rfl
                refine pure_ (i:= 42) (N:= some 99) (v:= undef) (a':= ?_) #[T_,T_,T_,T_,T_,T_,T_,T_,T_,T_,T_,T_,T_,T_,T_,T_,T_,T_,T_,T_,T_,T_,T_,T_,T_,T_,T_,T_,T_,T_,T_,T_,T_,T_,T_,T_,T_,T_,T_,T_,T_,T_,T_,F_,F_] rfl rfl (any_of HT_.out (by kernel_rfl)) (fun _ _ _ h => h) (Or.inr ⟨by rfl,rfl⟩) ?_ ?_
                rotate_left
                ·simp only [sp,i64_w,i32_w]
                 rfl
                refine pure_ (i:= 43) (N:= some 100) (v:= undef) (a':= ?_) #[T_,T_,T_,T_,T_,T_,T_,T_,T_,T_,T_,T_,T_,T_,T_,T_,T_,T_,T_,T_,T_,T_,T_,T_,T_,T_,T_,T_,T_,T_,T_,T_,T_,T_,T_,T_,T_,T_,T_,T_,T_,T_,T_,T_,F_] rfl rfl (any_of HT_.out (by kernel_rfl)) (fun _ _ _ h => h) (Or.inr ⟨by rfl,rfl⟩) ?_ ?_
                rotate_left
                ·simp only [sp,i64_w,i32_w]
                 rfl
                refine pure_ (i:= 44) (N:= some 101) (v:= ?_) (a':= ?_) #[T_,T_,T_,T_,T_,T_,T_,T_,T_,T_,T_,T_,T_,T_,T_,T_,T_,T_,T_,T_,T_,T_,T_,T_,T_,T_,T_,T_,T_,T_,T_,T_,T_,T_,T_,T_,T_,T_,T_,T_,T_,T_,T_,T_,T_] rfl rfl (any_of HT_.out (by kernel_rfl)) (fun _ _ _ h => h) (Or.inl ⟨by rfl,?_⟩) ?_ ?_
                rotate_left
                ·intro w'
                 go_simp
                 with_reducible rfl
                rotate_left
                ·simp only [sp,i64_w,i32_w]
                 rfl
                refine done_ (done_of HT_.out (by kernel_rfl)) ?_
                try go_wp2
                go_meet
                case rel => exact ⟨_,(true),(by first|rfl|(simp;done)|(simp [*];done)),H',⟨by have:= HJ1.out;have:= HK2.out;have:= HK3.out;first|omega|exact Nat.le_refl _⟩,⟨ub d0.out⟩,⟨ub k0.out⟩,⟨by repeat (first|(with_reducible first|exact HB.out|apply below_alloc|apply pw_below_drewN|apply below_drew1|refine below_set ?_ m1.out|refine below_set ?_ v2.out)|exact HB.out)⟩⟩
               ·rw [if_neg c49] at H
                have sa5 : decide ((v0.length : Int) < ((rd_T50 g0 b0).f1)) = false:= decide_eq_false c49
                clear c49
                by_cases c52 : b0 > 0
                ·rw [if_pos c52] at H
                 have ga2 : decide (0 < b0) = true:= decide_eq_true c52
                 clear c52
                 obtain ⟨m2,d8⟩ : ∃ j_ : Int,(wrap64 (b0 - 1)) = j_:= ⟨_,rfl⟩
                 replace H : (if 0 ≤ (m2) then (if (m2) < (g0.length : Int) then (if ((rd_T50 g0 b0).f0) ≤ ((rd_T50 g0 (m2)).f0) then (impl_IsCracker.j3 k3 g0 (g0.length : Int) b0 true v0 q0 g0 ((rd_T50 g0 b0).f0) ((rd_T50 g0 b0).f1)) else (impl_IsCracker.j3 k3 g0 (g0.length : Int) b0 (decide (((rd_T50 g0 b0).f1) < ((rd_T50 g0 (m2)).f1))) v0 q0 g0 ((rd_T50 g0 b0).f0) ((rd_T50 g0 b0).f1))) else (none)) else (none)) = some r:= by first|(rw [d8] at H;exact H)|(simp only [d8] at H ⊢;exact H)
                 (try rw [d8] at A44)
                 have oa6 : (IntKind.i64.wrap (b0 - 1)) = m2:= (i64_w _).trans d8
                 by_cases c54 : 0 ≤ (m2)
                 ·rw [if_pos c54] at H
                  have ga8 : decide (0 ≤ (m2)) = true:= decide_eq_true c54
                  clear c54
                  by_cases c55 : (m2) < (g0.length : Int)
                  ·rw [if_pos c55] at H
                   have da8 : decide ((m2) < (g0.length : Int)) = true:= decide_eq_true c55
                   clear c55
                   by_cases c56 : ((rd_T50 g0 b0).f0) ≤ ((rd_T50 g0 (m2)).f0)
                   ·rw [if_pos c56] at H
                    have qa5 : decide (((rd_T50 g0 b0).f0) ≤ ((rd_T50 g0 (m2)).f0)) = true:= decide_eq_true c56
                    clear c56
                    have H':= mk H
                    clear H
                    try go_wp2
                    have n0_ : Aside0 (((w41.setCell ⟨m0,0,none⟩ (.int .i64 ((rd_T50 g0 b0).f0))).setCell ⟨m0,1,none⟩ (.int .i64 ((rd_T50 g0 b0).f1))).heap[o0]? = some (.cells #[.slice d2 v0.length b2,.slice j2 q0.length z1,.slice (some o1) g0.length g2] 29 (0,0))):= ⟨by (with_reducible repeat (first|refine blk_drewN ?_ _|refine blk_drew ?_|refine blk_alloc ?_ _));refine blk_far ?_ b1.out _;(with_reducible repeat (first|refine blk_drewN ?_ _|refine blk_drew ?_|refine blk_alloc ?_ _));refine blk_far ?_ b1.out _;(with_reducible repeat (first|refine blk_drewN ?_ _|refine blk_drew ?_|refine blk_alloc ?_ _));exact d0.out⟩
                    have n1_ : Aside0 (((w41.setCell ⟨m0,0,none⟩ (.int .i64 ((rd_T50 g0 b0).f0))).setCell ⟨m0,1,none⟩ (.int .i64 ((rd_T50 g0 b0).f1))).heap[m0]? = some (.cells #[.int .i64 ((rd_T50 g0 b0).f0),.int .i64 ((rd_T50 g0 b0).f1)] 50 (0,0))):= ⟨by (with_reducible repeat (first|refine blk_drewN ?_ _|refine blk_drew ?_|refine blk_alloc ?_ _));refine blk_put (cs:= #[.int .i64 ((rd_T50 g0 b0).f0),.int .i64 0]) ?_ 1 _ rfl;(with_reducible repeat (first|refine blk_drewN ?_ _|refine blk_drew ?_|refine blk_alloc ?_ _));refine blk_put (cs:= #[.int .i64 0,.int .i64 0]) ?_ 0 _ rfl;(with_reducible repeat (first|refine blk_drewN ?_ _|refine blk_drew ?_|refine blk_alloc ?_ _));exact k0.out⟩
                    have n2_ : Aside0 (Below w.heap.size w ((w41.setCell ⟨m0,0,none⟩ (.int .i64 ((rd_T50 g0 b0).f0))).setCell ⟨m0,1,none⟩ (.int .i64 ((rd_T50 g0 b0).f1)))):= ⟨by repeat (first|(with_reducible first|exact HB.out|apply below_alloc|apply pw_below_drewN|apply below_drew1|refine below_set ?_ m1.out|refine below_set ?_ v2.out)|exact HB.out)⟩
                    (try clear d0)
                    (try clear k0)
                    (try clear HB)
                    generalize ((w41.setCell ⟨m0,0,none⟩ (.int .i64 ((rd_T50 g0 b0).f0))).setCell ⟨m0,1,none⟩ (.int .i64 ((rd_T50 g0 b0).f1))) = w57 at n0_ n1_ n2_ ⊢
                    have d0:= n0_
                    have k0:= n1_
                    have HB:= n2_
                    clear n0_ n1_ n2_
                    have n0_:= mk (blk_drew d0.out)
                    have n1_:= mk (blk_drew k0.out)
                    have n2_:= mk (below_drew1 HB.out)
                    clear d0
                    clear k0
                    clear HB
                    have d0:= n0_
                    have k0:= n1_
                    have HB:= n2_
                    clear n0_ n1_ n2_
                    have ja0 : 0 ≤ ((m2) : Int):= of_decide_eq_true (by first|(with_reducible assumption)|assumption)
                    have da0 : (m2) < (g0.length : Int):= of_decide_eq_true (by first|(with_reducible assumption)|assumption)
                    obtain ⟨ja2,da5,v1,q1⟩:= at_T50 o9.out (m2) ja0 da0
                    have hw227_1:= q1
                    have hw227_0:= v1
                    obtain rfl : o1 = ja2:= (by injection da5)
                    replace v1:= (HB.out.cell (World.block_lt_of_cell? w _ v1)).trans v1
                    replace q1:= (HB.out.cell (World.block_lt_of_cell? w _ q1)).trans q1
                    replace ja0:= eq_true ja0
                    replace da0:= eq_true da0
                    refine start_ (n:= 45) (S:= fun w' => w'.cell? ⟨m0,0,none⟩ = some (.int .i64 ((rd_T50 g0 b0).f0)) ∧ w'.cell? ⟨m0,1,none⟩ = some (.int .i64 ((rd_T50 g0 b0).f1)) ∧ w'.cell? ⟨o0,0,none⟩ = some (.slice d2 v0.length b2) ∧ w'.cell? ⟨o0,1,none⟩ = some (.slice j2 q0.length z1) ∧ w'.cell? ⟨o0,2,none⟩ = some (.slice (some o1) g0.length g2) ∧ w'.cell? (o1.add (((m2)).toNat * 2)) = some (.int .i64 ((rd_T50 g0 (m2)).f0)) ∧ w'.cell? ⟨(o1.add (((m2)).toNat * 2)).block,(o1.add (((m2)).toNat * 2)).off + 1,none⟩ = some (.int .i64 ((rd_T50 g0 (m2)).f1))) (ds:= []) #[F_,F_,F_,F_,F_,F_,F_,F_,F_,F_,F_,F_,F_,F_,F_,F_,F_,F_,F_,F_,F_,F_,F_,F_,F_,F_,F_,F_,F_,F_,F_,F_,F_,F_,F_,F_,F_,F_,F_,F_,F_,F_,F_,F_,F_] (by kernel_rfl) rfl rfl ⟨(blk_cell k0.out 0).trans rfl,(blk_cell k0.out 1).trans rfl,(blk_cell d0.out 0).trans rfl,(blk_cell d0.out 1).trans rfl,(blk_cell d0.out 2).trans rfl,((HB.out.cell (World.block_lt_of_cell? w _ hw227_0)).trans hw227_0),((HB.out.cell (World.block_lt_of_cell? w _ hw227_1)).trans hw227_1)⟩ (fun hHeld => ?_);refine with_tabW impl_IsCracker.tab12 impl_IsCracker.bits12 (fun HT_ HW_ => ?_)
                    generalize w57.drew = w58 at d0 k0 HB v1 q1 hHeld ⊢
                    refine pure_ (i:= 0) (N:= some 57) (v:= ?_) (a':= ?_) #[T_,F_,F_,F_,F_,F_,F_,F_,F_,F_,F_,F_,F_,F_,F_,F_,F_,F_,F_,F_,F_,F_,F_,F_,F_,F_,F_,F_,F_,F_,F_,F_,F_,F_,F_,F_,F_,F_,F_,F_,F_,F_,F_,F_,F_] rfl rfl (any_of HT_.out (by kernel_rfl)) (fun _ _ _ h => h) (Or.inl ⟨by rfl,?_⟩) ?_ ?_
                    rotate_left
                    ·intro w'
                     go_simp
                     with_reducible rfl
                    rotate_left
                    ·simp only [sp,i64_w,i32_w]
                     rfl
                    refine take_ (i:= 1) (N:= some 58) (v:= ?_) (a':= ?_) #[T_,T_,F_,F_,F_,F_,F_,F_,F_,F_,F_,F_,F_,F_,F_,F_,F_,F_,F_,F_,F_,F_,F_,F_,F_,F_,F_,F_,F_,F_,F_,F_,F_,F_,F_,F_,F_,F_,F_,F_,F_,F_,F_,F_,F_] rfl rfl (take_ofW HT_.out HW_.out (by kernel_rfl)) (fun _ _ _ h => h) (Or.inl ⟨by rfl,?_⟩) hHeld ?_ ?_
                    rotate_left
                    ·rintro w' ⟨s0,s1,s2,s3,s4,s5,s6⟩
                     go_simp
                     with_reducible rfl
                    rotate_left
                    ·simp only [sp,i64_w,i32_w]
                     rfl
                    refine one_ (i:= 2) (N:= some 59) #[T_,T_,T_,F_,F_,F_,F_,F_,F_,F_,F_,F_,F_,F_,F_,F_,F_,F_,F_,F_,F_,F_,F_,F_,F_,F_,F_,F_,F_,F_,F_,F_,F_,F_,F_,F_,F_,F_,F_,F_,F_,F_,F_,F_,F_] rfl rfl (one_of HT_.out (by kernel_rfl)) (by decide) (fun K hK => ?_)
                    refine goes_ Try.func50 (by kernel_rfl) rfl #[.int .i64 ((rd_T50 g0 b0).f0)] (by rfl) rfl rfl (by (try simp only [List.map_toArray,List.map_cons,List.map_nil]);first|done|rfl|(simp only [List.length_drop,List.length_take];rfl)) ?_
                    with_reducible refine (impl_bound.calls ((rd_T50 g0 b0).f0) true _ A44.out).mono ?_
                    rintro e w' ⟨rfl,⟨nd,rfl⟩⟩
                    refine ⟨_,rfl,?_⟩
                    refine hK.out _ _ ⟨(blk_cell k0.out 0).trans rfl,(blk_cell k0.out 1).trans rfl,(blk_cell d0.out 0).trans rfl,(blk_cell d0.out 1).trans rfl,(blk_cell d0.out 2).trans rfl,((HB.out.cell (World.block_lt_of_cell? w _ hw227_0)).trans hw227_0),((HB.out.cell (World.block_lt_of_cell? w _ hw227_1)).trans hw227_1)⟩ (fun hHeld => ?_)
                    clear hK K
                    refine norm_ (a':= ?_) ?_ ?_
                    rotate_left
                    ·show Act.put _ (some 59) _ = _
                     simp only [sp,i64_w,i32_w]
                     rfl
                    refine pure_ (i:= 3) (N:= some 60) (v:= ?_) (a':= ?_) #[T_,T_,T_,T_,F_,F_,F_,F_,F_,F_,F_,F_,F_,F_,F_,F_,F_,F_,F_,F_,F_,F_,F_,F_,F_,F_,F_,F_,F_,F_,F_,F_,F_,F_,F_,F_,F_,F_,F_,F_,F_,F_,F_,F_,F_] rfl rfl (any_of HT_.out (by kernel_rfl)) (fun _ _ _ h => h) (Or.inl ⟨by rfl,?_⟩) ?_ ?_
                    rotate_left
                    ·intro w'
                     go_simp
                     with_reducible rfl
                    rotate_left
                    ·simp only [sp,i64_w,i32_w]
                     rfl
                    refine pure_ (i:= 4) (N:= some 61) (v:= ?_) (a':= ?_) #[T_,T_,T_,T_,T_,F_,F_,F_,F_,F_,F_,F_,F_,F_,F_,F_,F_,F_,F_,F_,F_,F_,F_,F_,F_,F_,F_,F_,F_,F_,F_,F_,F_,F_,F_,F_,F_,F_,F_,F_,F_,F_,F_,F_,F_] rfl rfl (any_of HT_.out (by kernel_rfl)) (fun _ _ _ h => h) (Or.inl ⟨by rfl,?_⟩) ?_ ?_
                    rotate_left
                    ·intro w'
                     go_simp
                     with_reducible rfl
                    rotate_left
                    ·simp only [sp,i64_w,i32_w]
                     rfl
                    refine pure_ (i:= 5) (N:= some 62) (v:= ?_) (a':= ?_) #[T_,T_,T_,T_,T_,T_,F_,F_,F_,F_,F_,F_,F_,F_,F_,F_,F_,F_,F_,F_,F_,F_,F_,F_,F_,F_,F_,F_,F_,F_,F_,F_,F_,F_,F_,F_,F_,F_,F_,F_,F_,F_,F_,F_,F_] rfl rfl (any_of HT_.out (by kernel_rfl)) (fun _ _ _ h => h) (Or.inl ⟨by rfl,?_⟩) ?_ ?_
                    rotate_left
                    ·intro w'
                     go_simp
                     with_reducible rfl
                    rotate_left
                    ·simp only [sp,i64_w,i32_w]
                     rfl
                    refine take_ (i:= 6) (N:= some 63) (v:= ?_) (a':= ?_) #[T_,T_,T_,T_,T_,T_,T_,F_,F_,F_,F_,F_,F_,F_,F_,F_,F_,F_,F_,F_,F_,F_,F_,F_,F_,F_,F_,F_,F_,F_,F_,F_,F_,F_,F_,F_,F_,F_,F_,F_,F_,F_,F_,F_,F_] rfl rfl (take_ofW HT_.out HW_.out (by kernel_rfl)) (fun _ _ _ h => h) (Or.inl ⟨by rfl,?_⟩) hHeld ?_ ?_
                    rotate_left
                    ·rintro w' ⟨s0,s1,s2,s3,s4,s5,s6⟩
                     go_simp
                     with_reducible rfl
                    rotate_left
                    ·simp only [sp,i64_w,i32_w]
                     rfl
                    refine pure_ (i:= 7) (N:= some 64) (v:= ?_) (a':= ?_) #[T_,T_,T_,T_,T_,T_,T_,T_,F_,F_,F_,F_,F_,F_,F_,F_,F_,F_,F_,F_,F_,F_,F_,F_,F_,F_,F_,F_,F_,F_,F_,F_,F_,F_,F_,F_,F_,F_,F_,F_,F_,F_,F_,F_,F_] rfl rfl (any_of HT_.out (by kernel_rfl)) (fun _ _ _ h => h) (Or.inl ⟨by rfl,?_⟩) ?_ ?_
                    rotate_left
                    ·intro w'
                     go_simp
                     with_reducible rfl
                    rotate_left
                    ·simp only [sp,i64_w,i32_w]
                     rfl
                    refine pure_ (i:= 8) (N:= some 65) (v:= ?_) (a':= ?_) #[T_,T_,T_,T_,T_,T_,T_,T_,T_,F_,F_,F_,F_,F_,F_,F_,F_,F_,F_,F_,F_,F_,F_,F_,F_,F_,F_,F_,F_,F_,F_,F_,F_,F_,F_,F_,F_,F_,F_,F_,F_,F_,F_,F_,F_] rfl rfl (any_of HT_.out (by kernel_rfl)) (fun _ _ _ h => h) (Or.inl ⟨by rfl,?_⟩) ?_ ?_
                    rotate_left
                    ·intro w'
                     go_simp
                     with_reducible rfl
                    rotate_left
                    ·simp only [sp,i64_w,i32_w]
                     rfl
                    refine pure_ (i:= 9) (N:= some 66) (v:= ?_) (a':= ?_) #[T_,T_,T_,T_,T_,T_,T_,T_,T_,T_,F_,F_,F_,F_,F_,F_,F_,F_,F_,F_,F_,F_,F_,F_,F_,F_,F_,F_,F_,F_,F_,F_,F_,F_,F_,F_,F_,F_,F_,F_,F_,F_,F_,F_,F_] rfl rfl (any_of HT_.out (by kernel_rfl)) (fun _ _ _ h => h) (Or.inl ⟨by rfl,?_⟩) ?_ ?_
                    rotate_left
                    ·intro w'
                     go_simp
                     with_reducible rfl
                    rotate_left
                    ·simp only [sp,i64_w,i32_w]
                     rfl
                    refine pure_ (i:= 10) (N:= some 67) (v:= ?_) (a':= ?_) #[T_,T_,T_,T_,T_,T_,T_,T_,T_,T_,T_,F_,F_,F_,F_,F_,F_,F_,F_,F_,F_,F_,F_,F_,F_,F_,F_,F_,F_,F_,F_,F_,F_,F_,F_,F_,F_,F_,F_,F_,F_,F_,F_,F_,F_] rfl rfl (any_of HT_.out (by kernel_rfl)) (fun _ _ _ h => h) (Or.inl ⟨by rfl,?_⟩) ?_ ?_
                    rotate_left
                    ·intro w'
                     go_simp
                     with_reducible rfl
                    rotate_left
                    ·simp only [sp,i64_w,i32_w]
                     rfl
                    refine pure_ (i:= 12) (N:= some 69) (v:= ?_) (a':= ?_) #[T_,T_,T_,T_,T_,T_,T_,T_,T_,T_,T_,F_,T_,F_,F_,F_,F_,F_,F_,F_,F_,F_,F_,F_,F_,F_,F_,F_,F_,F_,F_,F_,F_,F_,F_,F_,F_,F_,F_,F_,F_,F_,F_,F_,F_] rfl rfl (any_of HT_.out (by kernel_rfl)) (fun _ _ _ h => h) (Or.inl ⟨by rfl,?_⟩) ?_ ?_
                    rotate_left
                    ·intro w'
                     go_simp
                     with_reducible rfl
                    rotate_left
                    ·simp only [sp,i64_w,i32_w]
                     rfl
                    refine take_ (i:= 11) (N:= some 68) (v:= ?_) (a':= ?_) #[T_,T_,T_,T_,T_,T_,T_,T_,T_,T_,T_,T_,T_,F_,F_,F_,F_,F_,F_,F_,F_,F_,F_,F_,F_,F_,F_,F_,F_,F_,F_,F_,F_,F_,F_,F_,F_,F_,F_,F_,F_,F_,F_,F_,F_] rfl rfl (take_ofW HT_.out HW_.out (by kernel_rfl)) (fun _ _ _ h => h) (Or.inl ⟨by rfl,?_⟩) hHeld ?_ ?_
                    rotate_left
                    ·rintro w' ⟨s0,s1,s2,s3,s4,s5,s6⟩
                     go_simp
                     with_reducible rfl
                    rotate_left
                    ·simp only [sp,i64_w,i32_w]
                     rfl
                    refine take_ (i:= 13) (N:= some 70) (v:= ?_) (a':= ?_) #[T_,T_,T_,T_,T_,T_,T_,T_,T_,T_,T_,T_,T_,T_,F_,F_,F_,F_,F_,F_,F_,F_,F_,F_,F_,F_,F_,F_,F_,F_,F_,F_,F_,F_,F_,F_,F_,F_,F_,F_,F_,F_,F_,F_,F_] rfl rfl (take_ofW HT_.out HW_.out (by kernel_rfl)) (fun _ _ _ h => h) (Or.inl ⟨by rfl,?_⟩) hHeld ?_ ?_
                    rotate_left
                    ·rintro w' ⟨s0,s1,s2,s3,s4,s5,s6⟩
                     go_simp
                     with_reducible rfl
                    rotate_left
                    ·simp only [sp,i64_w,i32_w]
                     rfl
                    refine pure_ (i:= 14) (N:= some 71) (v:= ?_) (a':= ?_) #[T_,T_,T_,T_,T_,T_,T_,T_,T_,T_,T_,T_,T_,T_,T_,F_,F_,F_,F_,F_,F_,F_,F_,F_,F_,F_,F_,F_,F_,F_,F_,F_,F_,F_,F_,F_,F_,F_,F_,F_,F_,F_,F_,F_,F_] rfl rfl (any_of HT_.out (by kernel_rfl)) (fun _ _ _ h => h) (Or.inl ⟨by rfl,?_⟩) ?_ ?_
                    rotate_left
                    ·intro w'
                     go_simp
                     with_reducible rfl
                    rotate_left
                    ·simp only [sp,i64_w,i32_w]
                     rfl
                    refine pure_ (i:= 15) (N:= some 72) (v:= ?_) (a':= ?_) #[T_,T_,T_,T_,T_,T_,T_,T_,T_,T_,T_,T_,T_,T_,T_,T_,F_,F_,F_,F_,F_,F_,F_,F_,F_,F_,F_,F_,F_,F_,F_,F_,F_,F_,F_,F_,F_,F_,F_,F_,F_,F_,F_,F_,F_] rfl rfl (any_of HT_.out (by kernel_rfl)) (fun _ _ _ h => h) (Or.inl ⟨by rfl,?_⟩) ?_ ?_
                    rotate_left
                    ·intro w'
                     go_simp
                     with_reducible rfl
                    rotate_left
                    ·simp only [sp,i64_w,i32_w]
                     rfl
                    refine pure_ (i:= 16) (N:= some 73) (v:= ?_) (a':= ?_) #[T_,T_,T_,T_,T_,T_,T_,T_,T_,T_,T_,T_,T_,T_,T_,T_,T_,F_,F_,F_,F_,F_,F_,F_,F_,F_,F_,F_,F_,F_,F_,F_,F_,F_,F_,F_,F_,F_,F_,F_,F_,F_,F_,F_,F_] rfl rfl (any_of HT_.out (by kernel_rfl)) (fun _ _ _ h => h) (Or.inl ⟨by rfl,?_⟩) ?_ ?_
                    rotate_left
                    ·intro w'
                     go_simp
                     with_reducible rfl
                    rotate_left
                    ·simp only [sp,i64_w,i32_w]
                     rfl
                    refine pure_ (i:= 17) (N:= some 74) (v:= ?_) (a':= ?_) #[T_,T_,T_,T_,T_,T_,T_,T_,T_,T_,T_,T_,T_,T_,T_,T_,T_,T_,F_,F_,F_,F_,F_,F_,F_,F_,F_,F_,F_,F_,F_,F_,F_,F_,F_,F_,F_,F_,F_,F_,F_,F_,F_,F_,F_] rfl rfl (any_of HT_.out (by kernel_rfl)) (fun _ _ _ h => h) (Or.inl ⟨by rfl,?_⟩) ?_ ?_
                    rotate_left
                    ·intro w'
                     go_simp
                     with_reducible rfl
                    rotate_left
                    ·simp only [sp,i64_w,i32_w]
                     rfl
                    refine pure_ (i:= 18) (N:= some 75) (v:= ?_) (a':= ?_) #[T_,T_,T_,T_,T_,T_,T_,T_,T_,T_,T_,T_,T_,T_,T_,T_,T_,T_,T_,F_,F_,F_,F_,F_,F_,F_,F_,F_,F_,F_,F_,F_,F_,F_,F_,F_,F_,F_,F_,F_,F_,F_,F_,F_,F_] rfl rfl (any_of HT_.out (by kernel_rfl)) (fun _ _ _ h => h) (Or.inl ⟨by rfl,?_⟩) ?_ ?_
                    rotate_left
                    ·intro w'
                     go_simp
                     with_reducible rfl
                    rotate_left
                    ·simp only [sp,i64_w,i32_w]
                     rfl
                    refine pure_ (i:= 19) (N:= some 76) (v:= ?_) (a':= ?_) #[T_,T_,T_,T_,T_,T_,T_,T_,T_,T_,T_,T_,T_,T_,T_,T_,T_,T_,T_,T_,F_,F_,F_,F_,F_,F_,F_,F_,F_,F_,F_,F_,F_,F_,F_,F_,F_,F_,F_,F_,F_,F_,F_,F_,F_] rfl rfl (any_of HT_.out (by kernel_rfl)) (fun _ _ _ h => h) (Or.inl ⟨by rfl,?_⟩) ?_ ?_
                    rotate_left
                    ·intro w'
                     go_simp
                     with_reducible rfl
                    rotate_left
                    ·simp only [sp,i64_w,i32_w]
                     rfl
                    refine pure_ (i:= 20) (N:= some 77) (v:= ?_) (a':= ?_) #[T_,T_,T_,T_,T_,T_,T_,T_,T_,T_,T_,T_,T_,T_,T_,T_,T_,T_,T_,T_,T_,F_,F_,F_,F_,F_,F_,F_,F_,F_,F_,F_,F_,F_,F_,F_,F_,F_,F_,F_,F_,F_,F_,F_,F_] rfl rfl (any_of HT_.out (by kernel_rfl)) (fun _ _ _ h => h) (Or.inl ⟨by rfl,?_⟩) ?_ ?_
                    rotate_left
                    ·intro w'
                     go_simp
                     with_reducible rfl
                    rotate_left
                    ·simp only [sp,i64_w,i32_w]
                     rfl
                    refine pure_ (i:= 21) (N:= some 78) (v:= ?_) (a':= ?_) #[T_,T_,T_,T_,T_,T_,T_,T_,T_,T_,T_,T_,T_,T_,T_,T_,T_,T_,T_,T_,T_,T_,F_,F_,F_,F_,F_,F_,F_,F_,F_,F_,F_,F_,F_,F_,F_,F_,F_,F_,F_,F_,F_,F_,F_] rfl rfl (any_of HT_.out (by kernel_rfl)) (fun _ _ _ h => h) (Or.inl ⟨by rfl,?_⟩) ?_ ?_
                    rotate_left
                    ·intro w'
                     go_simp
                     with_reducible rfl
                    rotate_left
                    ·simp only [sp,i64_w,i32_w]
                     rfl
                    refine pure_ (i:= 23) (N:= some 80) (v:= ?_) (a':= ?_) #[T_,T_,T_,T_,T_,T_,T_,T_,T_,T_,T_,T_,T_,T_,T_,T_,T_,T_,T_,T_,T_,T_,F_,T_,F_,F_,F_,F_,F_,F_,F_,F_,F_,F_,F_,F_,F_,F_,F_,F_,F_,F_,F_,F_,F_] rfl rfl (any_of HT_.out (by kernel_rfl)) (fun _ _ _ h => h) (Or.inl ⟨by rfl,?_⟩) ?_ ?_
                    rotate_left
                    ·intro w'
                     go_simp
                     with_reducible rfl
                    rotate_left
                    ·simp only [sp,i64_w,i32_w]
                     rfl
                    refine pure_ (i:= 25) (N:= some 82) (v:= ?_) (a':= ?_) #[T_,T_,T_,T_,T_,T_,T_,T_,T_,T_,T_,T_,T_,T_,T_,T_,T_,T_,T_,T_,T_,T_,F_,T_,F_,T_,F_,F_,F_,F_,F_,F_,F_,F_,F_,F_,F_,F_,F_,F_,F_,F_,F_,F_,F_] rfl rfl (any_of HT_.out (by kernel_rfl)) (fun _ _ _ h => h) (Or.inl ⟨by rfl,?_⟩) ?_ ?_
                    rotate_left
                    ·intro w'
                     go_simp
                     with_reducible rfl
                    rotate_left
                    ·simp only [sp,i64_w,i32_w]
                     rfl
                    refine pure_ (i:= 26) (N:= some 83) (v:= ?_) (a':= ?_) #[T_,T_,T_,T_,T_,T_,T_,T_,T_,T_,T_,T_,T_,T_,T_,T_,T_,T_,T_,T_,T_,T_,F_,T_,F_,T_,T_,F_,F_,F_,F_,F_,F_,F_,F_,F_,F_,F_,F_,F_,F_,F_,F_,F_,F_] rfl rfl (any_of HT_.out (by kernel_rfl)) (fun _ _ _ h => h) (Or.inl ⟨by rfl,?_⟩) ?_ ?_
                    rotate_left
                    ·intro w'
                     go_simp
                     with_reducible rfl
                    rotate_left
                    ·simp only [sp,i64_w,i32_w]
                     rfl
                    refine take_ (i:= 22) (N:= some 79) (v:= ?_) (a':= ?_) #[T_,T_,T_,T_,T_,T_,T_,T_,T_,T_,T_,T_,T_,T_,T_,T_,T_,T_,T_,T_,T_,T_,T_,T_,F_,T_,T_,F_,F_,F_,F_,F_,F_,F_,F_,F_,F_,F_,F_,F_,F_,F_,F_,F_,F_] rfl rfl (take_ofW HT_.out HW_.out (by kernel_rfl)) (fun _ _ _ h => h) (Or.inl ⟨by rfl,?_⟩) hHeld ?_ ?_
                    rotate_left
                    ·rintro w' ⟨s0,s1,s2,s3,s4,s5,s6⟩
                     go_simp
                     with_reducible rfl
                    rotate_left
                    ·simp only [sp,i64_w,i32_w]
                     rfl
                    refine take_ (i:= 24) (N:= some 81) (v:= ?_) (a':= ?_) #[T_,T_,T_,T_,T_,T_,T_,T_,T_,T_,T_,T_,T_,T_,T_,T_,T_,T_,T_,T_,T_,T_,T_,T_,T_,T_,T_,F_,F_,F_,F_,F_,F_,F_,F_,F_,F_,F_,F_,F_,F_,F_,F_,F_,F_] rfl rfl (take_ofW HT_.out HW_.out (by kernel_rfl)) (fun _ _ _ h => h) (Or.inl ⟨by rfl,?_⟩) hHeld ?_ ?_
                    rotate_left
                    ·rintro w' ⟨s0,s1,s2,s3,s4,s5,s6⟩
                     go_simp
                     with_reducible rfl
                    rotate_left
                    ·simp only [sp,i64_w,i32_w]
                     rfl
                    refine pure_ (i:= 27) (N:= some 84) (v:= ?_) (a':= ?_) #[T_,T_,T_,T_,T_,T_,T_,T_,T_,T_,T_,T_,T_,T_,T_,T_,T_,T_,T_,T_,T_,T_,T_,T_,T_,T_,T_,T_,F_,F_,F_,F_,F_,F_,F_,F_,F_,F_,F_,F_,F_,F_,F_,F_,F_] rfl rfl (any_of HT_.out (by kernel_rfl)) (fun _ _ _ h => h) (Or.inl ⟨by rfl,?_⟩) ?_ ?_
                    rotate_left
                    ·intro w'
                     go_simp
                     with_reducible rfl
                    rotate_left
                    ·simp only [sp,i64_w,i32_w]
                     rfl
                    refine pure_ (i:= 28) (N:= some 85) (v:= ?_) (a':= ?_) #[T_,T_,T_,T_,T_,T_,T_,T_,T_,T_,T_,T_,T_,T_,T_,T_,T_,T_,T_,T_,T_,T_,T_,T_,T_,T_,T_,T_,T_,F_,F_,F_,F_,F_,F_,F_,F_,F_,F_,F_,F_,F_,F_,F_,F_] rfl rfl (any_of HT_.out (by kernel_rfl)) (fun _ _ _ h => h) (Or.inl ⟨by rfl,?_⟩) ?_ ?_
                    rotate_left
                    ·intro w'
                     go_simp
                     with_reducible rfl
                    rotate_left
                    ·simp only [sp,i64_w,i32_w]
                     rfl
                    refine take_ (i:= 29) (N:= some 86) (v:= ?_) (a':= ?_) #[T_,T_,T_,T_,T_,T_,T_,T_,T_,T_,T_,T_,T_,T_,T_,T_,T_,T_,T_,T_,T_,T_,T_,T_,T_,T_,T_,T_,T_,T_,F_,F_,F_,F_,F_,F_,F_,F_,F_,F_,F_,F_,F_,F_,F_] rfl rfl (take_ofW HT_.out HW_.out (by kernel_rfl)) (fun _ _ _ h => h) (Or.inl ⟨by rfl,?_⟩) hHeld ?_ ?_
                    rotate_left
                    ·rintro w' ⟨s0,s1,s2,s3,s4,s5,s6⟩
                     go_simp
                     with_reducible rfl
                    rotate_left
                    ·simp only [sp,i64_w,i32_w]
                     rfl
                    refine pure_ (i:= 30) (N:= some 87) (v:= ?_) (a':= ?_) #[T_,T_,T_,T_,T_,T_,T_,T_,T_,T_,T_,T_,T_,T_,T_,T_,T_,T_,T_,T_,T_,T_,T_,T_,T_,T_,T_,T_,T_,T_,T_,F_,F_,F_,F_,F_,F_,F_,F_,F_,F_,F_,F_,F_,F_] rfl rfl (any_of HT_.out (by kernel_rfl)) (fun _ _ _ h => h) (Or.inl ⟨by rfl,?_⟩) ?_ ?_
                    rotate_left
                    ·intro w'
                     go_simp
                     with_reducible rfl
                    rotate_left
                    ·simp only [sp,i64_w,i32_w]
                     rfl
                    refine pure_ (i:= 31) (N:= some 88) (v:= ?_) (a':= ?_) #[T_,T_,T_,T_,T_,T_,T_,T_,T_,T_,T_,T_,T_,T_,T_,T_,T_,T_,T_,T_,T_,T_,T_,T_,T_,T_,T_,T_,T_,T_,T_,T_,F_,F_,F_,F_,F_,F_,F_,F_,F_,F_,F_,F_,F_] rfl rfl (any_of HT_.out (by kernel_rfl)) (fun _ _ _ h => h) (Or.inl ⟨by rfl,?_⟩) ?_ ?_
                    rotate_left
                    ·intro w'
                     go_simp
                     with_reducible rfl
                    rotate_left
                    ·simp only [sp,i64_w,i32_w]
                     rfl
                    refine pure_ (i:= 32) (N:= some 89) (v:= undef) (a':= ?_) #[T_,T_,T_,T_,T_,T_,T_,T_,T_,T_,T_,T_,T_,T_,T_,T_,T_,T_,T_,T_,T_,T_,T_,T_,T_,T_,T_,T_,T_,T_,T_,T_,T_,F_,F_,F_,F_,F_,F_,F_,F_,F_,F_,F_,F_] rfl rfl (any_of HT_.out (by kernel_rfl)) (fun _ _ _ h => h) (Or.inr ⟨by rfl,rfl⟩) ?_ ?_
                    rotate_left
                    ·simp only [sp,i64_w,i32_w]
                     rfl
                    refine pure_ (i:= 33) (N:= some 90) (v:= undef) (a':= ?_) #[T_,T_,T_,T_,T_,T_,T_,T_,T_,T_,T_,T_,T_,T_,T_,T_,T_,T_,T_,T_,T_,T_,T_,T_,T_,T_,T_,T_,T_,T_,T_,T_,T_,T_,F_,F_,F_,F_,F_,F_,F_,F_,F_,F_,F_] rfl rfl (any_of HT_.out (by kernel_rfl)) (fun _ _ _ h => h) (Or.inr ⟨by rfl,rfl⟩) ?_ ?_
                    rotate_left
                    ·simp only [sp,i64_w,i32_w]
                     rfl
                    refine pure_ (i:= 34) (N:= some 91) (v:= undef) (a':= ?_) #[T_,T_,T_,T_,T_,T_,T_,T_,T_,T_,T_,T_,T_,T_,T_,T_,T_,T_,T_,T_,T_,T_,T_,T_,T_,T_,T_,T_,T_,T_,T_,T_,T_,T_,T_,F_,F_,F_,F_,F_,F_,F_,F_,F_,F_] rfl rfl (any_of HT_.out (by kernel_rfl)) (fun _ _ _ h => h) (Or.inr ⟨by rfl,rfl⟩) ?_ ?_
                    rotate_left
                    ·simp only [sp,i64_w,i32_w]
                     rfl
                    refine pure_ (i:= 35) (N:= some 92) (v:= undef) (a':= ?_) #[T_,T_,T_,T_,T_,T_,T_,T_,T_,T_,T_,T_,T_,T_,T_,T_,T_,T_,T_,T_,T_,T_,T_,T_,T_,T_,T_,T_,T_,T_,T_,T_,T_,T_,T_,T_,F_,F_,F_,F_,F_,F_,F_,F_,F_] rfl rfl (any_of HT_.out (by kernel_rfl)) (fun _ _ _ h => h) (Or.inr ⟨by rfl,rfl⟩) ?_ ?_
                    rotate_left
                    ·simp only [sp,i64_w,i32_w]
                     rfl
                    refine pure_ (i:= 36) (N:= some 93) (v:= undef) (a':= ?_) #[T_,T_,T_,T_,T_,T_,T_,T_,T_,T_,T_,T_,T_,T_,T_,T_,T_,T_,T_,T_,T_,T_,T_,T_,T_,T_,T_,T_,T_,T_,T_,T_,T_,T_,T_,T_,T_,F_,F_,F_,F_,F_,F_,F_,F_] rfl rfl (any_of HT_.out (by kernel_rfl)) (fun _ _ _ h => h) (Or.inr ⟨by rfl,rfl⟩) ?_ ?_
                    rotate_left
                    ·simp only [sp,i64_w,i32_w]
                     rfl
                    refine pure_ (i:= 37) (N:= some 94) (v:= undef) (a':= ?_) #[T_,T_,T_,T_,T_,T_,T_,T_,T_,T_,T_,T_,T_,T_,T_,T_,T_,T_,T_,T_,T_,T_,T_,T_,T_,T_,T_,T_,T_,T_,T_,T_,T_,T_,T_,T_,T_,T_,F_,F_,F_,F_,F_,F_,F_] rfl rfl (any_of HT_.out (by kernel_rfl)) (fun _ _ _ h => h) (Or.inr ⟨by rfl,rfl⟩) ?_ ?_
                    rotate_left
                    ·simp only [sp,i64_w,i32_w]
                     rfl
                    refine pure_ (i:= 38) (N:= some 95) (v:= undef) (a':= ?_) #[T_,T_,T_,T_,T_,T_,T_,T_,T_,T_,T_,T_,T_,T_,T_,T_,T_,T_,T_,T_,T_,T_,T_,T_,T_,T_,T_,T_,T_,T_,T_,T_,T_,T_,T_,T_,T_,T_,T_,F_,F_,F_,F_,F_,F_] rfl rfl (any_of HT_.out (by kernel_rfl)) (fun _ _ _ h => h) (Or.inr ⟨by rfl,rfl⟩) ?_ ?_
                    rotate_left
                    ·simp only [sp,i64_w,i32_w]
                     rfl
                    refine pure_ (i:= 39) (N:= some 96) (v:= undef) (a':= ?_) #[T_,T_,T_,T_,T_,T_,T_,T_,T_,T_,T_,T_,T_,T_,T_,T_,T_,T_,T_,T_,T_,T_,T_,T_,T_,T_,T_,T_,T_,T_,T_,T_,T_,T_,T_,T_,T_,T_,T_,T_,F_,F_,F_,F_,F_] rfl rfl (any_of HT_.out (by kernel_rfl)) (fun _ _ _ h => h) (Or.inr ⟨by rfl,rfl⟩) ?_ ?_
                    rotate_left
                    ·simp only [sp,i64_w,i32_w]
                     rfl
                    refine pure_ (i:= 40) (N:= some 97) (v:= undef) (a':= ?_) #[T_,T_,T_,T_,T_,T_,T_,T_,T_,T_,T_,T_,T_,T_,T_,T_,T_,T_,T_,T_,T_,T_,T_,T_,T_,T_,T_,T_,T_,T_,T_,T_,T_,T_,T_,T_,T_,T_,T_,T_,T_,F_,F_,F_,F_] rfl rfl (any_of HT_.out (by kernel_rfl)) (fun _ _ _ h => h) (Or.inr ⟨by rfl,rfl⟩) ?_ ?_
                    rotate_left
                    ·simp only [sp,i64_w,i32_w]
                     rfl
                    refine pure_ (i:= 41) (N:= some 98) (v:= undef) (a':= ?_) #[T_,T_,T_,T_,T_,T_,T_,T_,T_,T_,T_,T_,T_,T_,T_,T_,T_,T_,T_,T_,T_,T_,T_,T_,T_,T_,T_,T_,T_,T_,T_,T_,T_,T_,T_,T_,T_,T_,T_,T_,T_,T_,F_,F_,F_] rfl rfl (any_of HT_.out (by kernel_rfl)) (fun _ _ _ h => h) (Or.inr ⟨by rfl,rfl⟩) ?_ ?_
                    rotate_left
                    ·simp only [sp,i64_w,i32_w]
                     rfl
                    refine pure_ (i:= 42) (N:= some 99) (v:= ?_) (a':= ?_) #[T_,T_,T_,T_,T_,T_,T_,T_,T_,T_,T_,T_,T_,T_,T_,T_,T_,T_,T_,T_,T_,T_,T_,T_,T_,T_,T_,T_,T_,T_,T_,T_,T_,T_,T_,T_,T_,T_,T_,T_,T_,T_,T_,F_,F_] rfl rfl (any_of HT_.out (by kernel_rfl)) (fun _ _ _ h => h) (Or.inl ⟨by rfl,?_⟩) ?_ ?_
                    rotate_left
                    ·intro w'
                     go_simp
                     with_reducible rfl
                    rotate_left
                    ·simp only [sp,i64_w,i32_w]
                     rfl
                    refine pure_ (i:= 43) (N:= some 100) (v:= ?_) (a':= ?_) #[T_,T_,T_,T_,T_,T_,T_,T_,T_,T_,T_,T_,T_,T_,T_,T_,T_,T_,T_,T_,T_,T_,T_,T_,T_,T_,T_,T_,T_,T_,T_,T_,T_,T_,T_,T_,T_,T_,T_,T_,T_,T_,T_,T_,F_] rfl rfl (any_of HT_.out (by kernel_rfl)) (fun _ _ _ h => h) (Or.inl ⟨by rfl,?_⟩) ?_ ?_
                    rotate_left
                    ·intro w'
                     go_simp
                     with_reducible rfl
                    rotate_left
                    ·simp only [sp,i64_w,i32_w]
                     rfl
                    refine pure_ (i:= 44) (N:= some 101) (v:= ?_) (a':= ?_) #[T_,T_,T_,T_,T_,T_,T_,T_,T_,T_,T_,T_,T_,T_,T_,T_,T_,T_,T_,T_,T_,T_,T_,T_,T_,T_,T_,T_,T_,T_,T_,T_,T_,T_,T_,T_,T_,T_,T_,T_,T_,T_,T_,T_,T_] rfl rfl (any_of HT_.out (by kernel_rfl)) (fun _ _ _ h => h) (Or.inl ⟨by rfl,?_⟩) ?_ ?_
                    rotate_left
                    ·intro w'
                     go_simp
                     with_reducible rfl
                    rotate_left
                    ·simp only [sp,i64_w,i32_w]
                     rfl
                    refine done_ (done_of HT_.out (by kernel_rfl)) ?_
                    try go_wp2
                    go_meet
                    case rel => exact ⟨_,(true),(by first|rfl|(simp;done)|(simp [*];done)),H',⟨by have:= HJ1.out;have:= HK2.out;have:= HK3.out;first|omega|exact Nat.le_refl _⟩,⟨ub d0.out⟩,⟨ub k0.out⟩,⟨by repeat (first|(with_reducible first|exact HB.out|apply below_alloc|apply pw_below_drewN|apply below_drew1|refine below_set ?_ m1.out|refine below_set ?_ v2.out)|exact HB.out)⟩⟩
                   ·rw [if_neg c56] at H
                    have qa5 : decide (((rd_T50 g0 b0).f0) ≤ ((rd_T50 g0 (m2)).f0)) = false:= decide_eq_false c56
                    clear c56
                    have H':= mk H
                    clear H
                    try go_wp2
                    have n0_ : Aside0 (((w41.setCell ⟨m0,0,none⟩ (.int .i64 ((rd_T50 g0 b0).f0))).setCell ⟨m0,1,none⟩ (.int .i64 ((rd_T50 g0 b0).f1))).heap[o0]? = some (.cells #[.slice d2 v0.length b2,.slice j2 q0.length z1,.slice (some o1) g0.length g2] 29 (0,0))):= ⟨by (with_reducible repeat (first|refine blk_drewN ?_ _|refine blk_drew ?_|refine blk_alloc ?_ _));refine blk_far ?_ b1.out _;(with_reducible repeat (first|refine blk_drewN ?_ _|refine blk_drew ?_|refine blk_alloc ?_ _));refine blk_far ?_ b1.out _;(with_reducible repeat (first|refine blk_drewN ?_ _|refine blk_drew ?_|refine blk_alloc ?_ _));exact d0.out⟩
                    have n1_ : Aside0 (((w41.setCell ⟨m0,0,none⟩ (.int .i64 ((rd_T50 g0 b0).f0))).setCell ⟨m0,1,none⟩ (.int .i64 ((rd_T50 g0 b0).f1))).heap[m0]? = some (.cells #[.int .i64 ((rd_T50 g0 b0).f0),.int .i64 ((rd_T50 g0 b0).f1)] 50 (0,0))):= ⟨by (with_reducible repeat (first|refine blk_drewN ?_ _|refine blk_drew ?_|refine blk_alloc ?_ _));refine blk_put (cs:= #[.int .i64 ((rd_T50 g0 b0).f0),.int .i64 0]) ?_ 1 _ rfl;(with_reducible repeat (first|refine blk_drewN ?_ _|refine blk_drew ?_|refine blk_alloc ?_ _));refine blk_put (cs:= #[.int .i64 0,.int .i64 0]) ?_ 0 _ rfl;(with_reducible repeat (first|refine blk_drewN ?_ _|refine blk_drew ?_|refine blk_alloc ?_ _));exact k0.out⟩
                    have n2_ : Aside0 (Below w.heap.size w ((w41.setCell ⟨m0,0,none⟩ (.int .i64 ((rd_T50 g0 b0).f0))).setCell ⟨m0,1,none⟩ (.int .i64 ((rd_T50 g0 b0).f1)))):= ⟨by repeat (first|(with_reducible first|exact HB.out|apply below_alloc|apply pw_below_drewN|apply below_drew1|refine below_set ?_ m1.out|refine below_set ?_ v2.out)|exact HB.out)⟩
                    (try clear d0)
                    (try clear k0)
                    (try clear HB)
                    generalize ((w41.setCell ⟨m0,0,none⟩ (.int .i64 ((rd_T50 g0 b0).f0))).setCell ⟨m0,1,none⟩ (.int .i64 ((rd_T50 g0 b0).f1))) = w59 at n0_ n1_ n2_ ⊢
                    have d0:= n0_
                    have k0:= n1_
                    have HB:= n2_
                    clear n0_ n1_ n2_
                    have n0_:= mk (blk_drew d0.out)
                    have n1_:= mk (blk_drew k0.out)
                    have n2_:= mk (below_drew1 HB.out)
                    clear d0
                    clear k0
                    clear HB
                    have d0:= n0_
                    have k0:= n1_
                    have HB:= n2_
                    clear n0_ n1_ n2_
                    have ja0 : 0 ≤ ((m2) : Int):= of_decide_eq_true (by first|(with_reducible assumption)|assumption)
                    have da0 : (m2) < (g0.length : Int):= of_decide_eq_true (by first|(with_reducible assumption)|assumption)
                    obtain ⟨ja2,da5,v1,q1⟩:= at_T50 o9.out (m2) ja0 da0
                    have hw227_1:= q1
                    have hw227_0:= v1
                    obtain rfl : o1 = ja2:= (by injection da5)
                    replace v1:= (HB.out.cell (World.block_lt_of_cell? w _ v1)).trans v1
                    replace q1:= (HB.out.cell (World.block_lt_of_cell? w _ q1)).trans q1
                    replace ja0:= eq_true ja0
                    replace da0:= eq_true da0
                    have za3 : 0 ≤ ((m2) : Int):= of_decide_eq_true (by first|(with_reducible assumption)|assumption)
                    have va3 : (m2) < (g0.length : Int):= of_decide_eq_true (by first|(with_reducible assumption)|assumption)
                    obtain ⟨ja6,va7,g3,d3⟩:= at_T50 o9.out (m2) za3 va3
                    have hw228_1:= d3
                    have hw228_0:= g3
                    obtain rfl : o1 = ja6:= (by injection va7)
                    replace g3:= (HB.out.cell (World.block_lt_of_cell? w _ g3)).trans g3
                    replace d3:= (HB.out.cell (World.block_lt_of_cell? w _ d3)).trans d3
                    replace za3:= eq_true za3
                    replace va3:= eq_true va3
                    refine start_ (n:= 45) (S:= fun w' => w'.cell? ⟨m0,0,none⟩ = some (.int .i64 ((rd_T50 g0 b0).f0)) ∧ w'.cell? ⟨m0,1,none⟩ = some (.int .i64 ((rd_T50 g0 b0).f1)) ∧ w'.cell? ⟨o0,0,none⟩ = some (.slice d2 v0.length b2) ∧ w'.cell? ⟨o0,1,none⟩ = some (.slice j2 q0.length z1) ∧ w'.cell? ⟨o0,2,none⟩ = some (.slice (some o1) g0.length g2) ∧ w'.cell? (o1.add (((m2)).toNat * 2)) = some (.int .i64 ((rd_T50 g0 (m2)).f0)) ∧ w'.cell? ⟨(o1.add (((m2)).toNat * 2)).block,(o1.add (((m2)).toNat * 2)).off + 1,none⟩ = some (.int .i64 ((rd_T50 g0 (m2)).f1)) ∧ w'.cell? (o1.add (((m2)).toNat * 2)) = some (.int .i64 ((rd_T50 g0 (m2)).f0)) ∧ w'.cell? ⟨(o1.add (((m2)).toNat * 2)).block,(o1.add (((m2)).toNat * 2)).off + 1,none⟩ = some (.int .i64 ((rd_T50 g0 (m2)).f1))) (ds:= []) #[F_,F_,F_,F_,F_,F_,F_,F_,F_,F_,F_,F_,F_,F_,F_,F_,F_,F_,F_,F_,F_,F_,F_,F_,F_,F_,F_,F_,F_,F_,F_,F_,F_,F_,F_,F_,F_,F_,F_,F_,F_,F_,F_,F_,F_] (by kernel_rfl) rfl rfl ⟨(blk_cell k0.out 0).trans rfl,(blk_cell k0.out 1).trans rfl,(blk_cell d0.out 0).trans rfl,(blk_cell d0.out 1).trans rfl,(blk_cell d0.out 2).trans rfl,((HB.out.cell (World.block_lt_of_cell? w _ hw227_0)).trans hw227_0),((HB.out.cell (World.block_lt_of_cell? w _ hw227_1)).trans hw227_1),((HB.out.cell (World.block_lt_of_cell? w _ hw228_0)).trans hw228_0),((HB.out.cell (World.block_lt_of_cell? w _ hw228_1)).trans hw228_1)⟩ (fun hHeld => ?_);refine with_tabW impl_IsCracker.tab12 impl_IsCracker.bits12 (fun HT_ HW_ => ?_)
                    generalize w59.drew = w60 at d0 k0 HB v1 q1 g3 d3 hHeld ⊢
                    refine pure_ (i:= 0) (N:= some 57) (v:= ?_) (a':= ?_) #[T_,F_,F_,F_,F_,F_,F_,F_,F_,F_,F_,F_,F_,F_,F_,F_,F_,F_,F_,F_,F_,F_,F_,F_,F_,F_,F_,F_,F_,F_,F_,F_,F_,F_,F_,F_,F_,F_,F_,F_,F_,F_,F_,F_,F_] rfl rfl (any_of HT_.out (by kernel_rfl)) (fun _ _ _ h => h) (Or.inl ⟨by rfl,?_⟩) ?_ ?_
                    rotate_left
                    ·intro w'
                     go_simp
                     with_reducible rfl
                    rotate_left
                    ·simp only [sp,i64_w,i32_w]
                     rfl
                    refine take_ (i:= 1) (N:= some 58) (v:= ?_) (a':= ?_) #[T_,T_,F_,F_,F_,F_,F_,F_,F_,F_,F_,F_,F_,F_,F_,F_,F_,F_,F_,F_,F_,F_,F_,F_,F_,F_,F_,F_,F_,F_,F_,F_,F_,F_,F_,F_,F_,F_,F_,F_,F_,F_,F_,F_,F_] rfl rfl (take_ofW HT_.out HW_.out (by kernel_rfl)) (fun _ _ _ h => h) (Or.inl ⟨by rfl,?_⟩) hHeld ?_ ?_
                    rotate_left
                    ·rintro w' ⟨s0,s1,s2,s3,s4,s5,s6,s7,s8⟩
                     go_simp
                     with_reducible rfl
                    rotate_left
                    ·simp only [sp,i64_w,i32_w]
                     rfl
                    refine one_ (i:= 2) (N:= some 59) #[T_,T_,T_,F_,F_,F_,F_,F_,F_,F_,F_,F_,F_,F_,F_,F_,F_,F_,F_,F_,F_,F_,F_,F_,F_,F_,F_,F_,F_,F_,F_,F_,F_,F_,F_,F_,F_,F_,F_,F_,F_,F_,F_,F_,F_] rfl rfl (one_of HT_.out (by kernel_rfl)) (by decide) (fun K hK => ?_)
                    refine goes_ Try.func50 (by kernel_rfl) rfl #[.int .i64 ((rd_T50 g0 b0).f0)] (by rfl) rfl rfl (by (try simp only [List.map_toArray,List.map_cons,List.map_nil]);first|done|rfl|(simp only [List.length_drop,List.length_take];rfl)) ?_
                    with_reducible refine (impl_bound.calls ((rd_T50 g0 b0).f0) true _ A44.out).mono ?_
                    rintro e w' ⟨rfl,⟨nd,rfl⟩⟩
                    refine ⟨_,rfl,?_⟩
                    refine hK.out _ _ ⟨(blk_cell k0.out 0).trans rfl,(blk_cell k0.out 1).trans rfl,(blk_cell d0.out 0).trans rfl,(blk_cell d0.out 1).trans rfl,(blk_cell d0.out 2).trans rfl,((HB.out.cell (World.block_lt_of_cell? w _ hw227_0)).trans hw227_0),((HB.out.cell (World.block_lt_of_cell? w _ hw227_1)).trans hw227_1),((HB.out.cell (World.block_lt_of_cell? w _ hw228_0)).trans hw228_0),((HB.out.cell (World.block_lt_of_cell? w _ hw228_1)).trans hw228_1)⟩ (fun hHeld => ?_)
                    clear hK K
                    refine norm_ (a':= ?_) ?_ ?_
                    rotate_left
                    ·show Act.put _ (some 59) _ = _
                     simp only [sp,i64_w,i32_w]
                     rfl
                    refine pure_ (i:= 3) (N:= some 60) (v:= ?_) (a':= ?_) #[T_,T_,T_,T_,F_,F_,F_,F_,F_,F_,F_,F_,F_,F_,F_,F_,F_,F_,F_,F_,F_,F_,F_,F_,F_,F_,F_,F_,F_,F_,F_,F_,F_,F_,F_,F_,F_,F_,F_,F_,F_,F_,F_,F_,F_] rfl rfl (any_of HT_.out (by kernel_rfl)) (fun _ _ _ h => h) (Or.inl ⟨by rfl,?_⟩) ?_ ?_
                    rotate_left
                    ·intro w'
                     go_simp
                     with_reducible rfl
                    rotate_left
                    ·simp only [sp,i64_w,i32_w]
                     rfl
                    refine pure_ (i:= 4) (N:= some 61) (v:= ?_) (a':= ?_) #[T_,T_,T_,T_,T_,F_,F_,F_,F_,F_,F_,F_,F_,F_,F_,F_,F_,F_,F_,F_,F_,F_,F_,F_,F_,F_,F_,F_,F_,F_,F_,F_,F_,F_,F_,F_,F_,F_,F_,F_,F_,F_,F_,F_,F_] rfl rfl (any_of HT_.out (by kernel_rfl)) (fun _ _ _ h => h) (Or.inl ⟨by rfl,?_⟩) ?_ ?_
                    rotate_left
                    ·intro w'
                     go_simp
                     with_reducible rfl
                    rotate_left
                    ·simp only [sp,i64_w,i32_w]
                     rfl
                    refine pure_ (i:= 5) (N:= some 62) (v:= ?_) (a':= ?_) #[T_,T_,T_,T_,T_,T_,F_,F_,F_,F_,F_,F_,F_,F_,F_,F_,F_,F_,F_,F_,F_,F_,F_,F_,F_,F_,F_,F_,F_,F_,F_,F_,F_,F_,F_,F_,F_,F_,F_,F_,F_,F_,F_,F_,F_] rfl rfl (any_of HT_.out (by kernel_rfl)) (fun _ _ _ h => h) (Or.inl ⟨by rfl,?_⟩) ?_ ?_
                    rotate_left
                    ·intro w'
                     go_simp
                     with_reducible rfl
                    rotate_left
                    ·simp only [sp,i64_w,i32_w]
                     rfl
                    refine take_ (i:= 6) (N:= some 63) (v:= ?_) (a':= ?_) #[T_,T_,T_,T_,T_,T_,T_,F_,F_,F_,F_,F_,F_,F_,F_,F_,F_,F_,F_,F_,F_,F_,F_,F_,F_,F_,F_,F_,F_,F_,F_,F_,F_,F_,F_,F_,F_,F_,F_,F_,F_,F_,F_,F_,F_] rfl rfl (take_ofW HT_.out HW_.out (by kernel_rfl)) (fun _ _ _ h => h) (Or.inl ⟨by rfl,?_⟩) hHeld ?_ ?_
                    rotate_left
                    ·rintro w' ⟨s0,s1,s2,s3,s4,s5,s6,s7,s8⟩
                     go_simp
                     with_reducible rfl
                    rotate_left
                    ·simp only [sp,i64_w,i32_w]
                     rfl
                    refine pure_ (i:= 7) (N:= some 64) (v:= ?_) (a':= ?_) #[T_,T_,T_,T_,T_,T_,T_,T_,F_,F_,F_,F_,F_,F_,F_,F_,F_,F_,F_,F_,F_,F_,F_,F_,F_,F_,F_,F_,F_,F_,F_,F_,F_,F_,F_,F_,F_,F_,F_,F_,F_,F_,F_,F_,F_] rfl rfl (any_of HT_.out (by kernel_rfl)) (fun _ _ _ h => h) (Or.inl ⟨by rfl,?_⟩) ?_ ?_
                    rotate_left
                    ·intro w'
                     go_simp
                     with_reducible rfl
                    rotate_left
                    ·simp only [sp,i64_w,i32_w]
                     rfl
                    refine pure_ (i:= 8) (N:= some 65) (v:= ?_) (a':= ?_) #[T_,T_,T_,T_,T_,T_,T_,T_,T_,F_,F_,F_,F_,F_,F_,F_,F_,F_,F_,F_,F_,F_,F_,F_,F_,F_,F_,F_,F_,F_,F_,F_,F_,F_,F_,F_,F_,F_,F_,F_,F_,F_,F_,F_,F_] rfl rfl (any_of HT_.out (by kernel_rfl)) (fun _ _ _ h => h) (Or.inl ⟨by rfl,?_⟩) ?_ ?_
                    rotate_left
                    ·intro w'
                     go_simp
                     with_reducible rfl
                    rotate_left
                    ·simp only [sp,i64_w,i32_w]
                     rfl
                    refine pure_ (i:= 9) (N:= some 66) (v:= ?_) (a':= ?_) #[T_,T_,T_,T_,T_,T_,T_,T_,T_,T_,F_,F_,F_,F_,F_,F_,F_,F_,F_,F_,F_,F_,F_,F_,F_,F_,F_,F_,F_,F_,F_,F_,F_,F_,F_,F_,F_,F_,F_,F_,F_,F_,F_,F_,F_] rfl rfl (any_of HT_.out (by kernel_rfl)) (fun _ _ _ h => h) (Or.inl ⟨by rfl,?_⟩) ?_ ?_
                    rotate_left
                    ·intro w'
                     go_simp
                     with_reducible rfl
                    rotate_left
                    ·simp only [sp,i64_w,i32_w]
                     rfl
                    refine pure_ (i:= 10) (N:= some 67) (v:= ?_) (a':= ?_) #[T_,T_,T_,T_,T_,T_,T_,T_,T_,T_,T_,F_,F_,F_,F_,F_,F_,F_,F_,F_,F_,F_,F_,F_,F_,F_,F_,F_,F_,F_,F_,F_,F_,F_,F_,F_,F_,F_,F_,F_,F_,F_,F_,F_,F_] rfl rfl (any_of HT_.out (by kernel_rfl)) (fun _ _ _ h => h) (Or.inl ⟨by rfl,?_⟩) ?_ ?_
                    rotate_left
                    ·intro w'
                     go_simp
                     with_reducible rfl
                    rotate_left
                    ·simp only [sp,i64_w,i32_w]
                     rfl
                    refine pure_ (i:= 12) (N:= some 69) (v:= ?_) (a':= ?_) #[T_,T_,T_,T_,T_,T_,T_,T_,T_,T_,T_,F_,T_,F_,F_,F_,F_,F_,F_,F_,F_,F_,F_,F_,F_,F_,F_,F_,F_,F_,F_,F_,F_,F_,F_,F_,F_,F_,F_,F_,F_,F_,F_,F_,F_] rfl rfl (any_of HT_.out (by kernel_rfl)) (fun _ _ _ h => h) (Or.inl ⟨by rfl,?_⟩) ?_ ?_
                    rotate_left
                    ·intro w'
                     go_simp
                     with_reducible rfl
                    rotate_left
                    ·simp only [sp,i64_w,i32_w]
                     rfl
                    refine take_ (i:= 11) (N:= some 68) (v:= ?_) (a':= ?_) #[T_,T_,T_,T_,T_,T_,T_,T_,T_,T_,T_,T_,T_,F_,F_,F_,F_,F_,F_,F_,F_,F_,F_,F_,F_,F_,F_,F_,F_,F_,F_,F_,F_,F_,F_,F_,F_,F_,F_,F_,F_,F_,F_,F_,F_] rfl rfl (take_ofW HT_.out HW_.out (by kernel_rfl)) (fun _ _ _ h => h) (Or.inl ⟨by rfl,?_⟩) hHeld ?_ ?_
                    rotate_left
                    ·rintro w' ⟨s0,s1,s2,s3,s4,s5,s6,s7,s8⟩
                     go_simp
                     with_reducible rfl
                    rotate_left
                    ·simp only [sp,i64_w,i32_w]
                     rfl
                    refine take_ (i:= 13) (N:= some 70) (v:= ?_) (a':= ?_) #[T_,T_,T_,T_,T_,T_,T_,T_,T_,T_,T_,T_,T_,T_,F_,F_,F_,F_,F_,F_,F_,F_,F_,F_,F_,F_,F_,F_,F_,F_,F_,F_,F_,F_,F_,F_,F_,F_,F_,F_,F_,F_,F_,F_,F_] rfl rfl (take_ofW HT_.out HW_.out (by kernel_rfl)) (fun _ _ _ h => h) (Or.inl ⟨by rfl,?_⟩) hHeld ?_ ?_
                    rotate_left
                    ·rintro w' ⟨s0,s1,s2,s3,s4,s5,s6,s7,s8⟩
                     go_simp
                     with_reducible rfl
                    rotate_left
                    ·simp only [sp,i64_w,i32_w]
                     rfl
                    refine pure_ (i:= 14) (N:= some 71) (v:= ?_) (a':= ?_) #[T_,T_,T_,T_,T_,T_,T_,T_,T_,T_,T_,T_,T_,T_,T_,F_,F_,F_,F_,F_,F_,F_,F_,F_,F_,F_,F_,F_,F_,F_,F_,F_,F_,F_,F_,F_,F_,F_,F_,F_,F_,F_,F_,F_,F_] rfl rfl (any_of HT_.out (by kernel_rfl)) (fun _ _ _ h => h) (Or.inl ⟨by rfl,?_⟩) ?_ ?_
                    rotate_left
                    ·intro w'
                     go_simp
                     with_reducible rfl
                    rotate_left
                    ·simp only [sp,i64_w,i32_w]
                     rfl
                    refine pure_ (i:= 15) (N:= some 72) (v:= ?_) (a':= ?_) #[T_,T_,T_,T_,T_,T_,T_,T_,T_,T_,T_,T_,T_,T_,T_,T_,F_,F_,F_,F_,F_,F_,F_,F_,F_,F_,F_,F_,F_,F_,F_,F_,F_,F_,F_,F_,F_,F_,F_,F_,F_,F_,F_,F_,F_] rfl rfl (any_of HT_.out (by kernel_rfl)) (fun _ _ _ h => h) (Or.inl ⟨by rfl,?_⟩) ?_ ?_
                    rotate_left
                    ·intro w'
                     go_simp
                     with_reducible rfl
                    rotate_left
                    ·simp only [sp,i64_w,i32_w]
                     rfl
                    refine pure_ (i:= 16) (N:= some 73) (v:= ?_) (a':= ?_) #[T_,T_,T_,T_,T_,T_,T_,T_,T_,T_,T_,T_,T_,T_,T_,T_,T_,F_,F_,F_,F_,F_,F_,F_,F_,F_,F_,F_,F_,F_,F_,F_,F_,F_,F_,F_,F_,F_,F_,F_,F_,F_,F_,F_,F_] rfl rfl (any_of HT_.out (by kernel_rfl)) (fun _ _ _ h => h) (Or.inl ⟨by rfl,?_⟩) ?_ ?_
                    rotate_left
                    ·intro w'
                     go_simp
                     with_reducible rfl
                    rotate_left
                    ·simp only [sp,i64_w,i32_w]
                     rfl
                    refine pure_ (i:= 17) (N:= some 74) (v:= ?_) (a':= ?_) #[T_,T_,T_,T_,T_,T_,T_,T_,T_,T_,T_,T_,T_,T_,T_,T_,T_,T_,F_,F_,F_,F_,F_,F_,F_,F_,F_,F_,F_,F_,F_,F_,F_,F_,F_,F_,F_,F_,F_,F_,F_,F_,F_,F_,F_] rfl rfl (any_of HT_.out (by kernel_rfl)) (fun _ _ _ h => h) (Or.inl ⟨by rfl,?_⟩) ?_ ?_
                    rotate_left
                    ·intro w'
                     go_simp
                     with_reducible rfl
                    rotate_left
                    ·simp only [sp,i64_w,i32_w]
                     rfl
                    refine pure_ (i:= 18) (N:= some 75) (v:= ?_) (a':= ?_) #[T_,T_,T_,T_,T_,T_,T_,T_,T_,T_,T_,T_,T_,T_,T_,T_,T_,T_,T_,F_,F_,F_,F_,F_,F_,F_,F_,F_,F_,F_,F_,F_,F_,F_,F_,F_,F_,F_,F_,F_,F_,F_,F_,F_,F_] rfl rfl (any_of HT_.out (by kernel_rfl)) (fun _ _ _ h => h) (Or.inl ⟨by rfl,?_⟩) ?_ ?_
                    rotate_left
                    ·intro w'
                     go_simp
                     with_reducible rfl
                    rotate_left
                    ·simp only [sp,i64_w,i32_w]
                     rfl
                    refine pure_ (i:= 19) (N:= some 76) (v:= ?_) (a':= ?_) #[T_,T_,T_,T_,T_,T_,T_,T_,T_,T_,T_,T_,T_,T_,T_,T_,T_,T_,T_,T_,F_,F_,F_,F_,F_,F_,F_,F_,F_,F_,F_,F_,F_,F_,F_,F_,F_,F_,F_,F_,F_,F_,F_,F_,F_] rfl rfl (any_of HT_.out (by kernel_rfl)) (fun _ _ _ h => h) (Or.inl ⟨by rfl,?_⟩) ?_ ?_
                    rotate_left
                    ·intro w'
                     go_simp
                     with_reducible rfl
                    rotate_left
                    ·simp only [sp,i64_w,i32_w]
                     rfl
                    refine pure_ (i:= 20) (N:= some 77) (v:= ?_) (a':= ?_) #[T_,T_,T_,T_,T_,T_,T_,T_,T_,T_,T_,T_,T_,T_,T_,T_,T_,T_,T_,T_,T_,F_,F_,F_,F_,F_,F_,F_,F_,F_,F_,F_,F_,F_,F_,F_,F_,F_,F_,F_,F_,F_,F_,F_,F_] rfl rfl (any_of HT_.out (by kernel_rfl)) (fun _ _ _ h => h) (Or.inl ⟨by rfl,?_⟩) ?_ ?_
                    rotate_left
                    ·intro w'
                     go_simp
                     with_reducible rfl
                    rotate_left
                    ·simp only [sp,i64_w,i32_w]
                     rfl
                    refine pure_ (i:= 21) (N:= some 78) (v:= ?_) (a':= ?_) #[T_,T_,T_,T_,T_,T_,T_,T_,T_,T_,T_,T_,T_,T_,T_,T_,T_,T_,T_,T_,T_,T_,F_,F_,F_,F_,F_,F_,F_,F_,F_,F_,F_,F_,F_,F_,F_,F_,F_,F_,F_,F_,F_,F_,F_] rfl rfl (any_of HT_.out (by kernel_rfl)) (fun _ _ _ h => h) (Or.inl ⟨by rfl,?_⟩) ?_ ?_
                    rotate_left
                    ·intro w'
                     go_simp
                     with_reducible rfl
                    rotate_left
                    ·simp only [sp,i64_w,i32_w]
                     rfl
                    refine pure_ (i:= 23) (N:= some 80) (v:= ?_) (a':= ?_) #[T_,T_,T_,T_,T_,T_,T_,T_,T_,T_,T_,T_,T_,T_,T_,T_,T_,T_,T_,T_,T_,T_,F_,T_,F_,F_,F_,F_,F_,F_,F_,F_,F_,F_,F_,F_,F_,F_,F_,F_,F_,F_,F_,F_,F_] rfl rfl (any_of HT_.out (by kernel_rfl)) (fun _ _ _ h => h) (Or.inl ⟨by rfl,?_⟩) ?_ ?_
                    rotate_left
                    ·intro w'
                     go_simp
                     with_reducible rfl
                    rotate_left
                    ·simp only [sp,i64_w,i32_w]
                     rfl
                    refine pure_ (i:= 25) (N:= some 82) (v:= ?_) (a':= ?_) #[T_,T_,T_,T_,T_,T_,T_,T_,T_,T_,T_,T_,T_,T_,T_,T_,T_,T_,T_,T_,T_,T_,F_,T_,F_,T_,F_,F_,F_,F_,F_,F_,F_,F_,F_,F_,F_,F_,F_,F_,F_,F_,F_,F_,F_] rfl rfl (any_of HT_.out (by kernel_rfl)) (fun _ _ _ h => h) (Or.inl ⟨by rfl,?_⟩) ?_ ?_
                    rotate_left
                    ·intro w'
                     go_simp
                     with_reducible rfl
                    rotate_left
                    ·simp only [sp,i64_w,i32_w]
                     rfl
                    refine pure_ (i:= 26) (N:= some 83) (v:= ?_) (a':= ?_) #[T_,T_,T_,T_,T_,T_,T_,T_,T_,T_,T_,T_,T_,T_,T_,T_,T_,T_,T_,T_,T_,T_,F_,T_,F_,T_,T_,F_,F_,F_,F_,F_,F_,F_,F_,F_,F_,F_,F_,F_,F_,F_,F_,F_,F_] rfl rfl (any_of HT_.out (by kernel_rfl)) (fun _ _ _ h => h) (Or.inl ⟨by rfl,?_⟩) ?_ ?_
                    rotate_left
                    ·intro w'
                     go_simp
                     with_reducible rfl
                    rotate_left
                    ·simp only [sp,i64_w,i32_w]
                     rfl
                    refine take_ (i:= 22) (N:= some 79) (v:= ?_) (a':= ?_) #[T_,T_,T_,T_,T_,T_,T_,T_,T_,T_,T_,T_,T_,T_,T_,T_,T_,T_,T_,T_,T_,T_,T_,T_,F_,T_,T_,F_,F_,F_,F_,F_,F_,F_,F_,F_,F_,F_,F_,F_,F_,F_,F_,F_,F_] rfl rfl (take_ofW HT_.out HW_.out (by kernel_rfl)) (fun _ _ _ h => h) (Or.inl ⟨by rfl,?_⟩) hHeld ?_ ?_
                    rotate_left
                    ·rintro w' ⟨s0,s1,s2,s3,s4,s5,s6,s7,s8⟩
                     go_simp
                     with_reducible rfl
                    rotate_left
                    ·simp only [sp,i64_w,i32_w]
                     rfl
                    refine take_ (i:= 24) (N:= some 81) (v:= ?_) (a':= ?_) #[T_,T_,T_,T_,T_,T_,T_,T_,T_,T_,T_,T_,T_,T_,T_,T_,T_,T_,T_,T_,T_,T_,T_,T_,T_,T_,T_,F_,F_,F_,F_,F_,F_,F_,F_,F_,F_,F_,F_,F_,F_,F_,F_,F_,F_] rfl rfl (take_ofW HT_.out HW_.out (by kernel_rfl)) (fun _ _ _ h => h) (Or.inl ⟨by rfl,?_⟩) hHeld ?_ ?_
                    rotate_left
                    ·rintro w' ⟨s0,s1,s2,s3,s4,s5,s6,s7,s8⟩
                     go_simp
                     with_reducible rfl
                    rotate_left
                    ·simp only [sp,i64_w,i32_w]
                     rfl
                    refine pure_ (i:= 27) (N:= some 84) (v:= ?_) (a':= ?_) #[T_,T_,T_,T_,T_,T_,T_,T_,T_,T_,T_,T_,T_,T_,T_,T_,T_,T_,T_,T_,T_,T_,T_,T_,T_,T_,T_,T_,F_,F_,F_,F_,F_,F_,F_,F_,F_,F_,F_,F_,F_,F_,F_,F_,F_] rfl rfl (any_of HT_.out (by kernel_rfl)) (fun _ _ _ h => h) (Or.inl ⟨by rfl,?_⟩) ?_ ?_
                    rotate_left
                    ·intro w'
                     go_simp
                     with_reducible rfl
                    rotate_left
                    ·simp only [sp,i64_w,i32_w]
                     rfl
                    refine pure_ (i:= 28) (N:= some 85) (v:= ?_) (a':= ?_) #[T_,T_,T_,T_,T_,T_,T_,T_,T_,T_,T_,T_,T_,T_,T_,T_,T_,T_,T_,T_,T_,T_,T_,T_,T_,T_,T_,T_,T_,F_,F_,F_,F_,F_,F_,F_,F_,F_,F_,F_,F_,F_,F_,F_,F_] rfl rfl (any_of HT_.out (by kernel_rfl)) (fun _ _ _ h => h) (Or.inl ⟨by rfl,?_⟩) ?_ ?_
                    rotate_left
                    ·intro w'
                     go_simp
                     with_reducible rfl
                    rotate_left
                    ·simp only [sp,i64_w,i32_w]
                     rfl
                    refine take_ (i:= 29) (N:= some 86) (v:= ?_) (a':= ?_) #[T_,T_,T_,T_,T_,T_,T_,T_,T_,T_,T_,T_,T_,T_,T_,T_,T_,T_,T_,T_,T_,T_,T_,T_,T_,T_,T_,T_,T_,T_,F_,F_,F_,F_,F_,F_,F_,F_,F_,F_,F_,F_,F_,F_,F_] rfl rfl (take_ofW HT_.out HW_.out (by kernel_rfl)) (fun _ _ _ h => h) (Or.inl ⟨by rfl,?_⟩) hHeld ?_ ?_
                    rotate_left
                    ·rintro w' ⟨s0,s1,s2,s3,s4,s5,s6,s7,s8⟩
                     go_simp
                     with_reducible rfl
                    rotate_left
                    ·simp only [sp,i64_w,i32_w]
                     rfl
                    refine pure_ (i:= 30) (N:= some 87) (v:= ?_) (a':= ?_) #[T_,T_,T_,T_,T_,T_,T_,T_,T_,T_,T_,T_,T_,T_,T_,T_,T_,T_,T_,T_,T_,T_,T_,T_,T_,T_,T_,T_,T_,T_,T_,F_,F_,F_,F_,F_,F_,F_,F_,F_,F_,F_,F_,F_,F_] rfl rfl (any_of HT_.out (by kernel_rfl)) (fun _ _ _ h => h) (Or.inl ⟨by rfl,?_⟩) ?_ ?_
                    rotate_left
                    ·intro w'
                     go_simp
                     with_reducible rfl
                    rotate_left
                    ·simp only [sp,i64_w,i32_w]
                     rfl
                    refine pure_ (i:= 31) (N:= some 88) (v:= ?_) (a':= ?_) #[T_,T_,T_,T_,T_,T_,T_,T_,T_,T_,T_,T_,T_,T_,T_,T_,T_,T_,T_,T_,T_,T_,T_,T_,T_,T_,T_,T_,T_,T_,T_,T_,F_,F_,F_,F_,F_,F_,F_,F_,F_,F_,F_,F_,F_] rfl rfl (any_of HT_.out (by kernel_rfl)) (fun _ _ _ h => h) (Or.inl ⟨by rfl,?_⟩) ?_ ?_
                    rotate_left
                    ·intro w'
                     go_simp
                     with_reducible rfl
                    rotate_left
                    ·simp only [sp,i64_w,i32_w]
                     rfl
                    refine pure_ (i:= 32) (N:= some 89) (v:= ?_) (a':= ?_) #[T_,T_,T_,T_,T_,T_,T_,T_,T_,T_,T_,T_,T_,T_,T_,T_,T_,T_,T_,T_,T_,T_,T_,T_,T_,T_,T_,T_,T_,T_,T_,T_,T_,F_,F_,F_,F_,F_,F_,F_,F_,F_,F_,F_,F_] rfl rfl (any_of HT_.out (by kernel_rfl)) (fun _ _ _ h => h) (Or.inl ⟨by rfl,?_⟩) ?_ ?_
                    rotate_left
                    ·intro w'
                     go_simp
                     with_reducible rfl
                    rotate_left
                    ·simp only [sp,i64_w,i32_w]
                     rfl
                    refine pure_ (i:= 34) (N:= some 91) (v:= ?_) (a':= ?_) #[T_,T_,T_,T_,T_,T_,T_,T_,T_,T_,T_,T_,T_,T_,T_,T_,T_,T_,T_,T_,T_,T_,T_,T_,T_,T_,T_,T_,T_,T_,T_,T_,T_,F_,T_,F_,F_,F_,F_,F_,F_,F_,F_,F_,F_] rfl rfl (any_of HT_.out (by kernel_rfl)) (fun _ _ _ h => h) (Or.inl ⟨by rfl,?_⟩) ?_ ?_
                    rotate_left
                    ·intro w'
                     go_simp
                     with_reducible rfl
                    rotate_left
                    ·simp only [sp,i64_w,i32_w]
                     rfl
                    refine pure_ (i:= 36) (N:= some 93) (v:= ?_) (a':= ?_) #[T_,T_,T_,T_,T_,T_,T_,T_,T_,T_,T_,T_,T_,T_,T_,T_,T_,T_,T_,T_,T_,T_,T_,T_,T_,T_,T_,T_,T_,T_,T_,T_,T_,F_,T_,F_,T_,F_,F_,F_,F_,F_,F_,F_,F_] rfl rfl (any_of HT_.out (by kernel_rfl)) (fun _ _ _ h => h) (Or.inl ⟨by rfl,?_⟩) ?_ ?_
                    rotate_left
                    ·intro w'
                     go_simp
                     with_reducible rfl
                    rotate_left
                    ·simp only [sp,i64_w,i32_w]
                     rfl
                    refine pure_ (i:= 37) (N:= some 94) (v:= ?_) (a':= ?_) #[T_,T_,T_,T_,T_,T_,T_,T_,T_,T_,T_,T_,T_,T_,T_,T_,T_,T_,T_,T_,T_,T_,T_,T_,T_,T_,T_,T_,T_,T_,T_,T_,T_,F_,T_,F_,T_,T_,F_,F_,F_,F_,F_,F_,F_] rfl rfl (any_of HT_.out (by kernel_rfl)) (fun _ _ _ h => h) (Or.inl ⟨by rfl,?_⟩) ?_ ?_
                    rotate_left
                    ·intro w'
                     go_simp
                     with_reducible rfl
                    rotate_left
                    ·simp only [sp,i64_w,i32_w]
                     rfl
                    refine take_ (i:= 33) (N:= some 90) (v:= ?_) (a':= ?_) #[T_,T_,T_,T_,T_,T_,T_,T_,T_,T_,T_,T_,T_,T_,T_,T_,T_,T_,T_,T_,T_,T_,T_,T_,T_,T_,T_,T_,T_,T_,T_,T_,T_,T_,T_,F_,T_,T_,F_,F_,F_,F_,F_,F_,F_] rfl rfl (take_ofW HT_.out HW_.out (by kernel_rfl)) (fun _ _ _ h => h) (Or.inl ⟨by rfl,?_⟩) hHeld ?_ ?_
                    rotate_left
                    ·rintro w' ⟨s0,s1,s2,s3,s4,s5,s6,s7,s8⟩
                     go_simp
                     with_reducible rfl
                    rotate_left
                    ·simp only [sp,i64_w,i32_w]
                     rfl
                    refine take_ (i:= 35) (N:= some 92) (v:= ?_) (a':= ?_) #[T_,T_,T_,T_,T_,T_,T_,T_,T_,T_,T_,T_,T_,T_,T_,T_,T_,T_,T_,T_,T_,T_,T_,T_,T_,T_,T_,T_,T_,T_,T_,T_,T_,T_,T_,T_,T_,T_,F_,F_,F_,F_,F_,F_,F_] rfl rfl (take_ofW HT_.out HW_.out (by kernel_rfl)) (fun _ _ _ h => h) (Or.inl ⟨by rfl,?_⟩) hHeld ?_ ?_
                    rotate_left
                    ·rintro w' ⟨s0,s1,s2,s3,s4,s5,s6,s7,s8⟩
                     go_simp
                     with_reducible rfl
                    rotate_left
                    ·simp only [sp,i64_w,i32_w]
                     rfl
                    refine pure_ (i:= 38) (N:= some 95) (v:= ?_) (a':= ?_) #[T_,T_,T_,T_,T_,T_,T_,T_,T_,T_,T_,T_,T_,T_,T_,T_,T_,T_,T_,T_,T_,T_,T_,T_,T_,T_,T_,T_,T_,T_,T_,T_,T_,T_,T_,T_,T_,T_,T_,F_,F_,F_,F_,F_,F_] rfl rfl (any_of HT_.out (by kernel_rfl)) (fun _ _ _ h => h) (Or.inl ⟨by rfl,?_⟩) ?_ ?_
                    rotate_left
                    ·intro w'
                     go_simp
                     with_reducible rfl
                    rotate_left
                    ·simp only [sp,i64_w,i32_w]
                     rfl
                    refine pure_ (i:= 39) (N:= some 96) (v:= ?_) (a':= ?_) #[T_,T_,T_,T_,T_,T_,T_,T_,T_,T_,T_,T_,T_,T_,T_,T_,T_,T_,T_,T_,T_,T_,T_,T_,T_,T_,T_,T_,T_,T_,T_,T_,T_,T_,T_,T_,T_,T_,T_,T_,F_,F_,F_,F_,F_] rfl rfl (any_of HT_.out (by kernel_rfl)) (fun _ _ _ h => h) (Or.inl ⟨by rfl,?_⟩) ?_ ?_
                    rotate_left
                    ·intro w'
                     go_simp
                     with_reducible rfl
                    rotate_left
                    ·simp only [sp,i64_w,i32_w]
                     rfl
                    refine take_ (i:= 40) (N:= some 97) (v:= ?_) (a':= ?_) #[T_,T_,T_,T_,T_,T_,T_,T_,T_,T_,T_,T_,T_,T_,T_,T_,T_,T_,T_,T_,T_,T_,T_,T_,T_,T_,T_,T_,T_,T_,T_,T_,T_,T_,T_,T_,T_,T_,T_,T_,T_,F_,F_,F_,F_] rfl rfl (take_ofW HT_.out HW_.out (by kernel_rfl)) (fun _ _ _ h => h) (Or.inl ⟨by rfl,?_⟩) hHeld ?_ ?_
                    rotate_left
                    ·rintro w' ⟨s0,s1,s2,s3,s4,s5,s6,s7,s8⟩
                     go_simp
                     with_reducible rfl
                    rotate_left
                    ·simp only [sp,i64_w,i32_w]
                     rfl
                    refine pure_ (i:= 41) (N:= some 98) (v:= ?_) (a':= ?_) #[T_,T_,T_,T_,T_,T_,T_,T_,T_,T_,T_,T_,T_,T_,T_,T_,T_,T_,T_,T_,T_,T_,T_,T_,T_,T_,T_,T_,T_,T_,T_,T_,T_,T_,T_,T_,T_,T_,T_,T_,T_,T_,F_,F_,F_] rfl rfl (any_of HT_.out (by kernel_rfl)) (fun _ _ _ h => h) (Or.inl ⟨by rfl,?_⟩) ?_ ?_
                    rotate_left
                    ·intro w'
                     go_simp
                     with_reducible rfl
                    rotate_left
                    ·simp only [sp,i64_w,i32_w]
                     rfl
                    refine pure_ (i:= 42) (N:= some 99) (v:= ?_) (a':= ?_) #[T_,T_,T_,T_,T_,T_,T_,T_,T_,T_,T_,T_,T_,T_,T_,T_,T_,T_,T_,T_,T_,T_,T_,T_,T_,T_,T_,T_,T_,T_,T_,T_,T_,T_,T_,T_,T_,T_,T_,T_,T_,T_,T_,F_,F_] rfl rfl (any_of HT_.out (by kernel_rfl)) (fun _ _ _ h => h) (Or.inl ⟨by rfl,?_⟩) ?_ ?_
                    rotate_left
                    ·intro w'
                     go_simp
                     with_reducible rfl
                    rotate_left
                    ·simp only [sp,i64_w,i32_w]
                     rfl
                    refine pure_ (i:= 43) (N:= some 100) (v:= ?_) (a':= ?_) #[T_,T_,T_,T_,T_,T_,T_,T_,T_,T_,T_,T_,T_,T_,T_,T_,T_,T_,T_,T_,T_,T_,T_,T_,T_,T_,T_,T_,T_,T_,T_,T_,T_,T_,T_,T_,T_,T_,T_,T_,T_,T_,T_,T_,F_] rfl rfl (any_of HT_.out (by kernel_rfl)) (fun _ _ _ h => h) (Or.inl ⟨by rfl,?_⟩) ?_ ?_
                    rotate_left
                    ·intro w'
                     go_simp
                     with_reducible rfl
                    rotate_left
                    ·simp only [sp,i64_w,i32_w]
                     rfl
                    refine pure_ (i:= 44) (N:= some 101) (v:= ?_) (a':= ?_) #[T_,T_,T_,T_,T_,T_,T_,T_,T_,T_,T_,T_,T_,T_,T_,T_,T_,T_,T_,T_,T_,T_,T_,T_,T_,T_,T_,T_,T_,T_,T_,T_,T_,T_,T_,T_,T_,T_,T_,T_,T_,T_,T_,T_,T_] rfl rfl (any_of HT_.out (by kernel_rfl)) (fun _ _ _ h => h) (Or.inl ⟨by rfl,?_⟩) ?_ ?_
                    rotate_left
                    ·intro w'
                     go_simp
                     with_reducible rfl
                    rotate_left
                    ·simp only [sp,i64_w,i32_w]
                     rfl
                    refine done_ (done_of HT_.out (by kernel_rfl)) ?_
                    try go_wp2
                    go_meet
                    case rel => exact ⟨_,(decide (((rd_T50 g0 b0).f1) < ((rd_T50 g0 (m2)).f1))),(by first|rfl|(simp;done)|(simp only [← d8] <;> (first|rfl|simp))|(simp [*];done)),H',⟨by have:= HJ1.out;have:= HK2.out;have:= HK3.out;first|omega|exact Nat.le_refl _⟩,⟨ub d0.out⟩,⟨ub k0.out⟩,⟨by repeat (first|(with_reducible first|exact HB.out|apply below_alloc|apply pw_below_drewN|apply below_drew1|refine below_set ?_ m1.out|refine below_set ?_ v2.out)|exact HB.out)⟩⟩
                  ·rw [if_neg c55] at H
                   exact absurd H (by simp)
                 ·rw [if_neg c54] at H
                  exact absurd H (by simp)
                ·rw [if_neg c52] at H
                 have ga2 : decide (0 < b0) = false:= decide_eq_false c52
                 clear c52
                 have H':= mk H
                 clear H
                 try go_wp2
                 have n0_ : Aside0 (((w41.setCell ⟨m0,0,none⟩ (.int .i64 ((rd_T50 g0 b0).f0))).setCell ⟨m0,1,none⟩ (.int .i64 ((rd_T50 g0 b0).f1))).heap[o0]? = some (.cells #[.slice d2 v0.length b2,.slice j2 q0.length z1,.slice (some o1) g0.length g2] 29 (0,0))):= ⟨by (with_reducible repeat (first|refine blk_drewN ?_ _|refine blk_drew ?_|refine blk_alloc ?_ _));refine blk_far ?_ b1.out _;(with_reducible repeat (first|refine blk_drewN ?_ _|refine blk_drew ?_|refine blk_alloc ?_ _));refine blk_far ?_ b1.out _;(with_reducible repeat (first|refine blk_drewN ?_ _|refine blk_drew ?_|refine blk_alloc ?_ _));exact d0.out⟩
                 have n1_ : Aside0 (((w41.setCell ⟨m0,0,none⟩ (.int .i64 ((rd_T50 g0 b0).f0))).setCell ⟨m0,1,none⟩ (.int .i64 ((rd_T50 g0 b0).f1))).heap[m0]? = some (.cells #[.int .i64 ((rd_T50 g0 b0).f0),.int .i64 ((rd_T50 g0 b0).f1)] 50 (0,0))):= ⟨by (with_reducible repeat (first|refine blk_drewN ?_ _|refine blk_drew ?_|refine blk_alloc ?_ _));refine blk_put (cs:= #[.int .i64 ((rd_T50 g0 b0).f0),.int .i64 0]) ?_ 1 _ rfl;(with_reducible repeat (first|refine blk_drewN ?_ _|refine blk_drew ?_|refine blk_alloc ?_ _));refine blk_put (cs:= #[.int .i64 0,.int .i64 0]) ?_ 0 _ rfl;(with_reducible repeat (first|refine blk_drewN ?_ _|refine blk_drew ?_|refine blk_alloc ?_ _));exact k0.out⟩
                 have n2_ : Aside0 (Below w.heap.size w ((w41.setCell ⟨m0,0,none⟩ (.int .i64 ((rd_T50 g0 b0).f0))).setCell ⟨m0,1,none⟩ (.int .i64 ((rd_T50 g0 b0).f1)))):= ⟨by repeat (first|(with_reducible first|exact HB.out|apply below_alloc|apply pw_below_drewN|apply below_drew1|refine below_set ?_ m1.out|refine below_set ?_ v2.out)|exact HB.out)⟩
                 (try clear d0)
                 (try clear k0)
                 (try clear HB)
                 generalize ((w41.setCell ⟨m0,0,none⟩ (.int .i64 ((rd_T50 g0 b0).f0))).setCell ⟨m0,1,none⟩ (.int .i64 ((rd_T50 g0 b0).f1))) = w61 at n0_ n1_ n2_ ⊢
                 have d0:= n0_
                 have k0:= n1_
                 have HB:= n2_
                 clear n0_ n1_ n2_
                 have n0_:= mk (blk_drew d0.out)
                 have n1_:= mk (blk_drew k0.out)
                 have n2_:= mk (below_drew1 HB.out)
                 clear d0
                 clear k0
                 clear HB
                 have d0:= n0_
                 have k0:= n1_
                 have HB:= n2_
                 clear n0_ n1_ n2_
                 refine start_ (n:= 45) (S:= fun w' => w'.cell? ⟨m0,0,none⟩ = some (.int .i64 ((rd_T50 g0 b0).f0)) ∧ w'.cell? ⟨m0,1,none⟩ = some (.int .i64 ((rd_T50 g0 b0).f1)) ∧ w'.cell? ⟨o0,0,none⟩ = some (.slice d2 v0.length b2) ∧ w'.cell? ⟨o0,1,none⟩ = some (.slice j2 q0.length z1) ∧ w'.cell? ⟨o0,2,none⟩ = some (.slice (some o1) g0.length g2)) (ds:= []) #[F_,F_,F_,F_,F_,F_,F_,F_,F_,F_,F_,F_,F_,F_,F_,F_,F_,F_,F_,F_,F_,F_,F_,F_,F_,F_,F_,F_,F_,F_,F_,F_,F_,F_,F_,F_,F_,F_,F_,F_,F_,F_,F_,F_,F_] (by kernel_rfl) rfl rfl ⟨(blk_cell k0.out 0).trans rfl,(blk_cell k0.out 1).trans rfl,(blk_cell d0.out 0).trans rfl,(blk_cell d0.out 1).trans rfl,(blk_cell d0.out 2).trans rfl⟩ (fun hHeld => ?_);refine with_tabW impl_IsCracker.tab12 impl_IsCracker.bits12 (fun HT_ HW_ => ?_)
                 generalize w61.drew = w62 at d0 k0 HB hHeld ⊢
                 refine pure_ (i:= 0) (N:= some 57) (v:= ?_) (a':= ?_) #[T_,F_,F_,F_,F_,F_,F_,F_,F_,F_,F_,F_,F_,F_,F_,F_,F_,F_,F_,F_,F_,F_,F_,F_,F_,F_,F_,F_,F_,F_,F_,F_,F_,F_,F_,F_,F_,F_,F_,F_,F_,F_,F_,F_,F_] rfl rfl (any_of HT_.out (by kernel_rfl)) (fun _ _ _ h => h) (Or.inl ⟨by rfl,?_⟩) ?_ ?_
                 rotate_left
                 ·intro w'
                  go_simp
                  with_reducible rfl
                 rotate_left
                 ·simp only [sp,i64_w,i32_w]
                  rfl
                 refine take_ (i:= 1) (N:= some 58) (v:= ?_) (a':= ?_) #[T_,T_,F_,F_,F_,F_,F_,F_,F_,F_,F_,F_,F_,F_,F_,F_,F_,F_,F_,F_,F_,F_,F_,F_,F_,F_,F_,F_,F_,F_,F_,F_,F_,F_,F_,F_,F_,F_,F_,F_,F_,F_,F_,F_,F_] rfl rfl (take_ofW HT_.out HW_.out (by kernel_rfl)) (fun _ _ _ h => h) (Or.inl ⟨by rfl,?_⟩) hHeld ?_ ?_
                 rotate_left
                 ·rintro w' ⟨s0,s1,s2,s3,s4⟩
                  go_simp
                  with_reducible rfl
                 rotate_left
                 ·simp only [sp,i64_w,i32_w]
                  rfl
                 refine one_ (i:= 2) (N:= some 59) #[T_,T_,T_,F_,F_,F_,F_,F_,F_,F_,F_,F_,F_,F_,F_,F_,F_,F_,F_,F_,F_,F_,F_,F_,F_,F_,F_,F_,F_,F_,F_,F_,F_,F_,F_,F_,F_,F_,F_,F_,F_,F_,F_,F_,F_] rfl rfl (one_of HT_.out (by kernel_rfl)) (by decide) (fun K hK => ?_)
                 refine goes_ Try.func50 (by kernel_rfl) rfl #[.int .i64 ((rd_T50 g0 b0).f0)] (by rfl) rfl rfl (by (try simp only [List.map_toArray,List.map_cons,List.map_nil]);first|done|rfl|(simp only [List.length_drop,List.length_take];rfl)) ?_
                 with_reducible refine (impl_bound.calls ((rd_T50 g0 b0).f0) true _ A44.out).mono ?_
                 rintro e w' ⟨rfl,⟨nd,rfl⟩⟩
                 refine ⟨_,rfl,?_⟩
                 refine hK.out _ _ ⟨(blk_cell k0.out 0).trans rfl,(blk_cell k0.out 1).trans rfl,(blk_cell d0.out 0).trans rfl,(blk_cell d0.out 1).trans rfl,(blk_cell d0.out 2).trans rfl⟩ (fun hHeld => ?_)
                 clear hK K
                 refine norm_ (a':= ?_) ?_ ?_
                 rotate_left
                 ·show Act.put _ (some 59) _ = _
                  simp only [sp,i64_w,i32_w]
                  rfl
                 refine pure_ (i:= 3) (N:= some 60) (v:= ?_) (a':= ?_) #[T_,T_,T_,T_,F_,F_,F_,F_,F_,F_,F_,F_,F_,F_,F_,F_,F_,F_,F_,F_,F_,F_,F_,F_,F_,F_,F_,F_,F_,F_,F_,F_,F_,F_,F_,F_,F_,F_,F_,F_,F_,F_,F_,F_,F_] rfl rfl (any_of HT_.out (by kernel_rfl)) (fun _ _ _ h => h) (Or.inl ⟨by rfl,?_⟩) ?_ ?_
                 rotate_left
                 ·intro w'
                  go_simp
                  with_reducible rfl
                 rotate_left
                 ·simp only [sp,i64_w,i32_w]
                  rfl
                 refine pure_ (i:= 4) (N:= some 61) (v:= ?_) (a':= ?_) #[T_,T_,T_,T_,T_,F_,F_,F_,F_,F_,F_,F_,F_,F_,F_,F_,F_,F_,F_,F_,F_,F_,F_,F_,F_,F_,F_,F_,F_,F_,F_,F_,F_,F_,F_,F_,F_,F_,F_,F_,F_,F_,F_,F_,F_] rfl rfl (any_of HT_.out (by kernel_rfl)) (fun _ _ _ h => h) (Or.inl ⟨by rfl,?_⟩) ?_ ?_
                 rotate_left
                 ·intro w'
                  go_simp
                  with_reducible rfl
                 rotate_left
                 ·simp only [sp,i64_w,i32_w]
                  rfl
                 refine pure_ (i:= 5) (N:= some 62) (v:= ?_) (a':= ?_) #[T_,T_,T_,T_,T_,T_,F_,F_,F_,F_,F_,F_,F_,F_,F_,F_,F_,F_,F_,F_,F_,F_,F_,F_,F_,F_,F_,F_,F_,F_,F_,F_,F_,F_,F_,F_,F_,F_,F_,F_,F_,F_,F_,F_,F_] rfl rfl (any_of HT_.out (by kernel_rfl)) (fun _ _ _ h => h) (Or.inl ⟨by rfl,?_⟩) ?_ ?_
                 rotate_left
                 ·intro w'
                  go_simp
                  with_reducible rfl
                 rotate_left
                 ·simp only [sp,i64_w,i32_w]
                  rfl
                 refine take_ (i:= 6) (N:= some 63) (v:= ?_) (a':= ?_) #[T_,T_,T_,T_,T_,T_,T_,F_,F_,F_,F_,F_,F_,F_,F_,F_,F_,F_,F_,F_,F_,F_,F_,F_,F_,F_,F_,F_,F_,F_,F_,F_,F_,F_,F_,F_,F_,F_,F_,F_,F_,F_,F_,F_,F_] rfl rfl (take_ofW HT_.out HW_.out (by kernel_rfl)) (fun _ _ _ h => h) (Or.inl ⟨by rfl,?_⟩) hHeld ?_ ?_
                 rotate_left
                 ·rintro w' ⟨s0,s1,s2,s3,s4⟩
                  go_simp
                  with_reducible rfl
                 rotate_left
                 ·simp only [sp,i64_w,i32_w]
                  rfl
                 refine pure_ (i:= 7) (N:= some 64) (v:= ?_) (a':= ?_) #[T_,T_,T_,T_,T_,T_,T_,T_,F_,F_,F_,F_,F_,F_,F_,F_,F_,F_,F_,F_,F_,F_,F_,F_,F_,F_,F_,F_,F_,F_,F_,F_,F_,F_,F_,F_,F_,F_,F_,F_,F_,F_,F_,F_,F_] rfl rfl (any_of HT_.out (by kernel_rfl)) (fun _ _ _ h => h) (Or.inl ⟨by rfl,?_⟩) ?_ ?_
                 rotate_left
                 ·intro w'
                  go_simp
                  with_reducible rfl
                 rotate_left
                 ·simp only [sp,i64_w,i32_w]
                  rfl
                 refine pure_ (i:= 8) (N:= some 65) (v:= ?_) (a':= ?_) #[T_,T_,T_,T_,T_,T_,T_,T_,T_,F_,F_,F_,F_,F_,F_,F_,F_,F_,F_,F_,F_,F_,F_,F_,F_,F_,F_,F_,F_,F_,F_,F_,F_,F_,F_,F_,F_,F_,F_,F_,F_,F_,F_,F_,F_] rfl rfl (any_of HT_.out (by kernel_rfl)) (fun _ _ _ h => h) (Or.inl ⟨by rfl,?_⟩) ?_ ?_
                 rotate_left
                 ·intro w'
                  go_simp
                  with_reducible rfl
                 rotate_left
                 ·simp only [sp,i64_w,i32_w]
                  rfl
                 refine pure_ (i:= 9) (N:= some 66) (v:= ?_) (a':= ?_) #[T_,T_,T_,T_,T_,T_,T_,T_,T_,T_,F_,F_,F_,F_,F_,F_,F_,F_,F_,F_,F_,F_,F_,F_,F_,F_,F_,F_,F_,F_,F_,F_,F_,F_,F_,F_,F_,F_,F_,F_,F_,F_,F_,F_,F_] rfl rfl (any_of HT_.out (by kernel_rfl)) (fun _ _ _ h => h) (Or.inl ⟨by rfl,?_⟩) ?_ ?_
                 rotate_left
                 ·intro w'
                  go_simp
                  with_reducible rfl
                 rotate_left
                 ·simp only [sp,i64_w,i32_w]
                  rfl
                 refine pure_ (i:= 10) (N:= some 67) (v:= ?_) (a':= ?_) #[T_,T_,T_,T_,T_,T_,T_,T_,T_,T_,T_,F_,F_,F_,F_,F_,F_,F_,F_,F_,F_,F_,F_,F_,F_,F_,F_,F_,F_,F_,F_,F_,F_,F_,F_,F_,F_,F_,F_,F_,F_,F_,F_,F_,F_] rfl rfl (any_of HT_.out (by kernel_rfl)) (fun _ _ _ h => h) (Or.inl ⟨by rfl,?_⟩) ?_ ?_
                 rotate_left
                 ·intro w'
                  go_simp
                  with_reducible rfl
                 rotate_left
                 ·simp only [sp,i64_w,i32_w]
                  rfl
                 refine pure_ (i:= 12) (N:= some 69) (v:= ?_) (a':= ?_) #[T_,T_,T_,T_,T_,T_,T_,T_,T_,T_,T_,F_,T_,F_,F_,F_,F_,F_,F_,F_,F_,F_,F_,F_,F_,F_,F_,F_,F_,F_,F_,F_,F_,F_,F_,F_,F_,F_,F_,F_,F_,F_,F_,F_,F_] rfl rfl (any_of HT_.out (by kernel_rfl)) (fun _ _ _ h => h) (Or.inl ⟨by rfl,?_⟩) ?_ ?_
                 rotate_left
                 ·intro w'
                  go_simp
                  with_reducible rfl
                 rotate_left
                 ·simp only [sp,i64_w,i32_w]
                  rfl
                 refine take_ (i:= 11) (N:= some 68) (v:= ?_) (a':= ?_) #[T_,T_,T_,T_,T_,T_,T_,T_,T_,T_,T_,T_,T_,F_,F_,F_,F_,F_,F_,F_,F_,F_,F_,F_,F_,F_,F_,F_,F_,F_,F_,F_,F_,F_,F_,F_,F_,F_,F_,F_,F_,F_,F_,F_,F_] rfl rfl (take_ofW HT_.out HW_.out (by kernel_rfl)) (fun _ _ _ h => h) (Or.inl ⟨by rfl,?_⟩) hHeld ?_ ?_
                 rotate_left
                 ·rintro w' ⟨s0,s1,s2,s3,s4⟩
                  go_simp
                  with_reducible rfl
                 rotate_left
                 ·simp only [sp,i64_w,i32_w]
                  rfl
                 refine take_ (i:= 13) (N:= some 70) (v:= ?_) (a':= ?_) #[T_,T_,T_,T_,T_,T_,T_,T_,T_,T_,T_,T_,T_,T_,F_,F_,F_,F_,F_,F_,F_,F_,F_,F_,F_,F_,F_,F_,F_,F_,F_,F_,F_,F_,F_,F_,F_,F_,F_,F_,F_,F_,F_,F_,F_] rfl rfl (take_ofW HT_.out HW_.out (by kernel_rfl)) (fun _ _ _ h => h) (Or.inl ⟨by rfl,?_⟩) hHeld ?_ ?_
                 rotate_left
                 ·rintro w' ⟨s0,s1,s2,s3,s4⟩
                  go_simp
                  with_reducible rfl
                 rotate_left
                 ·simp only [sp,i64_w,i32_w]
                  rfl
                 refine pure_ (i:= 14) (N:= some 71) (v:= ?_) (a':= ?_) #[T_,T_,T_,T_,T_,T_,T_,T_,T_,T_,T_,T_,T_,T_,T_,F_,F_,F_,F_,F_,F_,F_,F_,F_,F_,F_,F_,F_,F_,F_,F_,F_,F_,F_,F_,F_,F_,F_,F_,F_,F_,F_,F_,F_,F_] rfl rfl (any_of HT_.out (by kernel_rfl)) (fun _ _ _ h => h) (Or.inl ⟨by rfl,?_⟩) ?_ ?_
                 rotate_left
                 ·intro w'
                  go_simp
                  with_reducible rfl
                 rotate_left
                 ·simp only [sp,i64_w,i32_w]
                  rfl
                 refine pure_ (i:= 15) (N:= some 72) (v:= ?_) (a':= ?_) #[T_,T_,T_,T_,T_,T_,T_,T_,T_,T_,T_,T_,T_,T_,T_,T_,F_,F_,F_,F_,F_,F_,F_,F_,F_,F_,F_,F_,F_,F_,F_,F_,F_,F_,F_,F_,F_,F_,F_,F_,F_,F_,F_,F_,F_] rfl rfl (any_of HT_.out (by kernel_rfl)) (fun _ _ _ h => h) (Or.inl ⟨by rfl,?_⟩) ?_ ?_
                 rotate_left
                 ·intro w'
                  go_simp
                  with_reducible rfl
                 rotate_left
                 ·simp only [sp,i64_w,i32_w]
                  rfl
                 refine pure_ (i:= 16) (N:= some 73) (v:= ?_) (a':= ?_) #[T_,T_,T_,T_,T_,T_,T_,T_,T_,T_,T_,T_,T_,T_,T_,T_,T_,F_,F_,F_,F_,F_,F_,F_,F_,F_,F_,F_,F_,F_,F_,F_,F_,F_,F_,F_,F_,F_,F_,F_,F_,F_,F_,F_,F_] rfl rfl (any_of HT_.out (by kernel_rfl)) (fun _ _ _ h => h) (Or.inl ⟨by rfl,?_⟩) ?_ ?_
                 rotate_left
                 ·intro w'
                  go_simp
                  with_reducible rfl
                 rotate_left
                 ·simp only [sp,i64_w,i32_w]
                  rfl
                 refine pure_ (i:= 17) (N:= some 74) (v:= ?_) (a':= ?_) #[T_,T_,T_,T_,T_,T_,T_,T_,T_,T_,T_,T_,T_,T_,T_,T_,T_,T_,F_,F_,F_,F_,F_,F_,F_,F_,F_,F_,F_,F_,F_,F_,F_,F_,F_,F_,F_,F_,F_,F_,F_,F_,F_,F_,F_] rfl rfl (any_of HT_.out (by kernel_rfl)) (fun _ _ _ h => h) (Or.inl ⟨by rfl,?_⟩) ?_ ?_
                 rotate_left
                 ·intro w'
                  go_simp
                  with_reducible rfl
                 rotate_left
                 ·simp only [sp,i64_w,i32_w]
                  rfl
                 refine pure_ (i:= 18) (N:= some 75) (v:= ?_) (a':= ?_) #[T_,T_,T_,T_,T_,T_,T_,T_,T_,T_,T_,T_,T_,T_,T_,T_,T_,T_,T_,F_,F_,F_,F_,F_,F_,F_,F_,F_,F_,F_,F_,F_,F_,F_,F_,F_,F_,F_,F_,F_,F_,F_,F_,F_,F_] rfl rfl (any_of HT_.out (by kernel_rfl)) (fun _ _ _ h => h) (Or.inl ⟨by rfl,?_⟩) ?_ ?_
                 rotate_left
                 ·intro w'
                  go_simp
                  with_reducible rfl
                 rotate_left
                 ·simp only [sp,i64_w,i32_w]
                  rfl
                 refine pure_ (i:= 19) (N:= some 76) (v:= ?_) (a':= ?_) #[T_,T_,T_,T_,T_,T_,T_,T_,T_,T_,T_,T_,T_,T_,T_,T_,T_,T_,T_,T_,F_,F_,F_,F_,F_,F_,F_,F_,F_,F_,F_,F_,F_,F_,F_,F_,F_,F_,F_,F_,F_,F_,F_,F_,F_] rfl rfl (any_of HT_.out (by kernel_rfl)) (fun _ _ _ h => h) (Or.inl ⟨by rfl,?_⟩) ?_ ?_
                 rotate_left
                 ·intro w'
                  go_simp
                  with_reducible rfl
                 rotate_left
                 ·simp only [sp,i64_w,i32_w]
                  rfl
                 refine pure_ (i:= 20) (N:= some 77) (v:= ?_) (a':= ?_) #[T_,T_,T_,T_,T_,T_,T_,T_,T_,T_,T_,T_,T_,T_,T_,T_,T_,T_,T_,T_,T_,F_,F_,F_,F_,F_,F_,F_,F_,F_,F_,F_,F_,F_,F_,F_,F_,F_,F_,F_,F_,F_,F_,F_,F_] rfl rfl (any_of HT_.out (by kernel_rfl)) (fun _ _ _ h => h) (Or.inl ⟨by rfl,?_⟩) ?_ ?_
                 rotate_left
                 ·intro w'
                  go_simp
                  with_reducible rfl
                 rotate_left
                 ·simp only [sp,i64_w,i32_w]
                  rfl
                 refine pure_ (i:= 21) (N:= some 78) (v:= undef) (a':= ?_) #[T_,T_,T_,T_,T_,T_,T_,T_,T_,T_,T_,T_,T_,T_,T_,T_,T_,T_,T_,T_,T_,T_,F_,F_,F_,F_,F_,F_,F_,F_,F_,F_,F_,F_,F_,F_,F_,F_,F_,F_,F_,F_,F_,F_,F_] rfl rfl (any_of HT_.out (by kernel_rfl)) (fun _ _ _ h => h) (Or.inr ⟨by rfl,rfl⟩) ?_ ?_
                 rotate_left
                 ·simp only [sp,i64_w,i32_w]
                  rfl
                 refine pure_ (i:= 22) (N:= some 79) (v:= undef) (a':= ?_) #[T_,T_,T_,T_,T_,T_,T_,T_,T_,T_,T_,T_,T_,T_,T_,T_,T_,T_,T_,T_,T_,T_,T_,F_,F_,F_,F_,F_,F_,F_,F_,F_,F_,F_,F_,F_,F_,F_,F_,F_,F_,F_,F_,F_,F_] rfl rfl (any_of HT_.out (by kernel_rfl)) (fun _ _ _ h => h) (Or.inr ⟨by rfl,rfl⟩) ?_ ?_
                 rotate_left
                 ·simp only [sp,i64_w,i32_w]
                  rfl
                 refine pure_ (i:= 23) (N:= some 80) (v:= undef) (a':= ?_) #[T_,T_,T_,T_,T_,T_,T_,T_,T_,T_,T_,T_,T_,T_,T_,T_,T_,T_,T_,T_,T_,T_,T_,T_,F_,F_,F_,F_,F_,F_,F_,F_,F_,F_,F_,F_,F_,F_,F_,F_,F_,F_,F_,F_,F_] rfl rfl (any_of HT_.out (by kernel_rfl)) (fun _ _ _ h => h) (Or.inr ⟨by rfl,rfl⟩) ?_ ?_
                 rotate_left
                 ·simp only [sp,i64_w,i32_w]
                  rfl
                 refine pure_ (i:= 24) (N:= some 81) (v:= undef) (a':= ?_) #[T_,T_,T_,T_,T_,T_,T_,T_,T_,T_,T_,T_,T_,T_,T_,T_,T_,T_,T_,T_,T_,T_,T_,T_,T_,F_,F_,F_,F_,F_,F_,F_,F_,F_,F_,F_,F_,F_,F_,F_,F_,F_,F_,F_,F_] rfl rfl (any_of HT_.out (by kernel_rfl)) (fun _ _ _ h => h) (Or.inr ⟨by rfl,rfl⟩) ?_ ?_
                 rotate_left
                 ·simp only [sp,i64_w,i32_w]
                  rfl
                 refine pure_ (i:= 25) (N:= some 82) (v:= undef) (a':= ?_) #[T_,T_,T_,T_,T_,T_,T_,T_,T_,T_,T_,T_,T_,T_,T_,T_,T_,T_,T_,T_,T_,T_,T_,T_,T_,T_,F_,F_,F_,F_,F_,F_,F_,F_,F_,F_,F_,F_,F_,F_,F_,F_,F_,F_,F_] rfl rfl (any_of HT_.out (by kernel_rfl)) (fun _ _ _ h => h) (Or.inr ⟨by rfl,rfl⟩) ?_ ?_
                 rotate_left
                 ·simp only [sp,i64_w,i32_w]
                  rfl
                 refine pure_ (i:= 26) (N:= some 83) (v:= undef) (a':= ?_) #[T_,T_,T_,T_,T_,T_,T_,T_,T_,T_,T_,T_,T_,T_,T_,T_,T_,T_,T_,T_,T_,T_,T_,T_,T_,T_,T_,F_,F_,F_,F_,F_,F_,F_,F_,F_,F_,F_,F_,F_,F_,F_,F_,F_,F_] rfl rfl (any_of HT_.out (by kernel_rfl)) (fun _ _ _ h => h) (Or.inr ⟨by rfl,rfl⟩) ?_ ?_
                 rotate_left
                 ·simp only [sp,i64_w,i32_w]
                  rfl
                 refine pure_ (i:= 27) (N:= some 84) (v:= undef) (a':= ?_) #[T_,T_,T_,T_,T_,T_,T_,T_,T_,T_,T_,T_,T_,T_,T_,T_,T_,T_,T_,T_,T_,T_,T_,T_,T_,T_,T_,T_,F_,F_,F_,F_,F_,F_,F_,F_,F_,F_,F_,F_,F_,F_,F_,F_,F_] rfl rfl (any_of HT_.out (by kernel_rfl)) (fun _ _ _ h => h) (Or.inr ⟨by rfl,rfl⟩) ?_ ?_
                 rotate_left
                 ·simp only [sp,i64_w,i32_w]
                  rfl
                 refine pure_ (i:= 28) (N:= some 85) (v:= undef) (a':= ?_) #[T_,T_,T_,T_,T_,T_,T_,T_,T_,T_,T_,T_,T_,T_,T_,T_,T_,T_,T_,T_,T_,T_,T_,T_,T_,T_,T_,T_,T_,F_,F_,F_,F_,F_,F_,F_,F_,F_,F_,F_,F_,F_,F_,F_,F_] rfl rfl (any_of HT_.out (by kernel_rfl)) (fun _ _ _ h => h) (Or.inr ⟨by rfl,rfl⟩) ?_ ?_
                 rotate_left
                 ·simp only [sp,i64_w,i32_w]
                  rfl
                 refine pure_ (i:= 29) (N:= some 86) (v:= undef) (a':= ?_) #[T_,T_,T_,T_,T_,T_,T_,T_,T_,T_,T_,T_,T_,T_,T_,T_,T_,T_,T_,T_,T_,T_,T_,T_,T_,T_,T_,T_,T_,T_,F_,F_,F_,F_,F_,F_,F_,F_,F_,F_,F_,F_,F_,F_,F_] rfl rfl (any_of HT_.out (by kernel_rfl)) (fun _ _ _ h => h) (Or.inr ⟨by rfl,rfl⟩) ?_ ?_
                 rotate_left
                 ·simp only [sp,i64_w,i32_w]
                  rfl
                 refine pure_ (i:= 30) (N:= some 87) (v:= undef) (a':= ?_) #[T_,T_,T_,T_,T_,T_,T_,T_,T_,T_,T_,T_,T_,T_,T_,T_,T_,T_,T_,T_,T_,T_,T_,T_,T_,T_,T_,T_,T_,T_,T_,F_,F_,F_,F_,F_,F_,F_,F_,F_,F_,F_,F_,F_,F_] rfl rfl (any_of HT_.out (by kernel_rfl)) (fun _ _ _ h => h) (Or.inr ⟨by rfl,rfl⟩) ?_ ?_
                 rotate_left
                 ·simp only [sp,i64_w,i32_w]
                  rfl
                 refine pure_ (i:= 31) (N:= some 88) (v:= undef) (a':= ?_) #[T_,T_,T_,T_,T_,T_,T_,T_,T_,T_,T_,T_,T_,T_,T_,T_,T_,T_,T_,T_,T_,T_,T_,T_,T_,T_,T_,T_,T_,T_,T_,T_,F_,F_,F_,F_,F_,F_,F_,F_,F_,F_,F_,F_,F_] rfl rfl (any_of HT_.out (by kernel_rfl)) (fun _ _ _ h => h) (Or.inr ⟨by rfl,rfl⟩) ?_ ?_
                 rotate_left
                 ·simp only [sp,i64_w,i32_w]
                  rfl
                 refine pure_ (i:= 32) (N:= some 89) (v:= undef) (a':= ?_) #[T_,T_,T_,T_,T_,T_,T_,T_,T_,T_,T_,T_,T_,T_,T_,T_,T_,T_,T_,T_,T_,T_,T_,T_,T_,T_,T_,T_,T_,T_,T_,T_,T_,F_,F_,F_,F_,F_,F_,F_,F_,F_,F_,F_,F_] rfl rfl (any_of HT_.out (by kernel_rfl)) (fun _ _ _ h => h) (Or.inr ⟨by rfl,rfl⟩) ?_ ?_
                 rotate_left
                 ·simp only [sp,i64_w,i32_w]
                  rfl
                 refine pure_ (i:= 33) (N:= some 90) (v:= undef) (a':= ?_) #[T_,T_,T_,T_,T_,T_,T_,T_,T_,T_,T_,T_,T_,T_,T_,T_,T_,T_,T_,T_,T_,T_,T_,T_,T_,T_,T_,T_,T_,T_,T_,T_,T_,T_,F_,F_,F_,F_,F_,F_,F_,F_,F_,F_,F_] rfl rfl (any_of HT_.out (by kernel_rfl)) (fun _ _ _ h => h) (Or.inr ⟨by rfl,rfl⟩) ?_ ?_
                 rotate_left
                 ·simp only [sp,i64_w,i32_w]
                  rfl
                 refine pure_ (i:= 34) (N:= some 91) (v:= undef) (a':= ?_) #[T_,T_,T_,T_,T_,T_,T_,T_,T_,T_,T_,T_,T_,T_,T_,T_,T_,T_,T_,T_,T_,T_,T_,T_,T_,T_,T_,T_,T_,T_,T_,T_,T_,T_,T_,F_,F_,F_,F_,F_,F_,F_,F_,F_,F_] rfl rfl (any_of HT_.out (by kernel_rfl)) (fun _ _ _ h => h) (Or.inr ⟨by rfl,rfl⟩) ?_ ?_
                 rotate_left
                 ·simp only [sp,i64_w,i32_w]
                  rfl
                 refine pure_ (i:= 35) (N:= some 92) (v:= undef) (a':= ?_) #[T_,T_,T_,T_,T_,T_,T_,T_,T_,T_,T_,T_,T_,T_,T_,T_,T_,T_,T_,T_,T_,T_,T_,T_,T_,T_,T_,T_,T_,T_,T_,T_,T_,T_,T_,T_,F_,F_,F_,F_,F_,F_,F_,F_,F_] rfl rfl (any_of HT_.out (by kernel_rfl)) (fun _ _ _ h => h) (Or.inr ⟨by rfl,rfl⟩) ?_ ?_
                 rotate_left
                 ·simp only [sp,i64_w,i32_w]
                  rfl
                 refine pure_ (i:= 36) (N:= some 93) (v:= undef) (a':= ?_) #[T_,T_,T_,T_,T_,T_,T_,T_,T_,T_,T_,T_,T_,T_,T_,T_,T_,T_,T_,T_,T_,T_,T_,T_,T_,T_,T_,T_,T_,T_,T_,T_,T_,T_,T_,T_,T_,F_,F_,F_,F_,F_,F_,F_,F_] rfl rfl (any_of HT_.out (by kernel_rfl)) (fun _ _ _ h => h) (Or.inr ⟨by rfl,rfl⟩) ?_ ?_
                 rotate_left
                 ·simp only [sp,i64_w,i32_w]
                  rfl
                 refine pure_ (i:= 37) (N:= some 94) (v:= undef) (a':= ?_) #[T_,T_,T_,T_,T_,T_,T_,T_,T_,T_,T_,T_,T_,T_,T_,T_,T_,T_,T_,T_,T_,T_,T_,T_,T_,T_,T_,T_,T_,T_,T_,T_,T_,T_,T_,T_,T_,T_,F_,F_,F_,F_,F_,F_,F_] rfl rfl (any_of HT_.out (by kernel_rfl)) (fun _ _ _ h => h) (Or.inr ⟨by rfl,rfl⟩) ?_ ?_
                 rotate_left
                 ·simp only [sp,i64_w,i32_w]
                  rfl
                 refine pure_ (i:= 38) (N:= some 95) (v:= undef) (a':= ?_) #[T_,T_,T_,T_,T_,T_,T_,T_,T_,T_,T_,T_,T_,T_,T_,T_,T_,T_,T_,T_,T_,T_,T_,T_,T_,T_,T_,T_,T_,T_,T_,T_,T_,T_,T_,T_,T_,T_,T_,F_,F_,F_,F_,F_,F_] rfl rfl (any_of HT_.out (by kernel_rfl)) (fun _ _ _ h => h) (Or.inr ⟨by rfl,rfl⟩) ?_ ?_
                 rotate_left
                 ·simp only [sp,i64_w,i32_w]
                  rfl
                 refine pure_ (i:= 39) (N:= some 96) (v:= undef) (a':= ?_) #[T_,T_,T_,T_,T_,T_,T_,T_,T_,T_,T_,T_,T_,T_,T_,T_,T_,T_,T_,T_,T_,T_,T_,T_,T_,T_,T_,T_,T_,T_,T_,T_,T_,T_,T_,T_,T_,T_,T_,T_,F_,F_,F_,F_,F_] rfl rfl (any_of HT_.out (by kernel_rfl)) (fun _ _ _ h => h) (Or.inr ⟨by rfl,rfl⟩) ?_ ?_
                 rotate_left
                 ·simp only [sp,i64_w,i32_w]
                  rfl
                 refine pure_ (i:= 40) (N:= some 97) (v:= undef) (a':= ?_) #[T_,T_,T_,T_,T_,T_,T_,T_,T_,T_,T_,T_,T_,T_,T_,T_,T_,T_,T_,T_,T_,T_,T_,T_,T_,T_,T_,T_,T_,T_,T_,T_,T_,T_,T_,T_,T_,T_,T_,T_,T_,F_,F_,F_,F_] rfl rfl (any_of HT_.out (by kernel_rfl)) (fun _ _ _ h => h) (Or.inr ⟨by rfl,rfl⟩) ?_ ?_
                 rotate_left
                 ·simp only [sp,i64_w,i32_w]
                  rfl
                 refine pure_ (i:= 41) (N:= some 98) (v:= undef) (a':= ?_) #[T_,T_,T_,T_,T_,T_,T_,T_,T_,T_,T_,T_,T_,T_,T_,T_,T_,T_,T_,T_,T_,T_,T_,T_,T_,T_,T_,T_,T_,T_,T_,T_,T_,T_,T_,T_,T_,T_,T_,T_,T_,T_,F_,F_,F_] rfl rfl (any_of HT_.out (by kernel_rfl)) (fun _ _ _ h => h) (Or.inr ⟨by rfl,rfl⟩) ?_ ?_
                 rotate_left
                 ·simp only [sp,i64_w,i32_w]
                  rfl
                 refine pure_ (i:= 42) (N:= some 99) (v:= undef) (a':= ?_) #[T_,T_,T_,T_,T_,T_,T_,T_,T_,T_,T_,T_,T_,T_,T_,T_,T_,T_,T_,T_,T_,T_,T_,T_,T_,T_,T_,T_,T_,T_,T_,T_,T_,T_,T_,T_,T_,T_,T_,T_,T_,T_,T_,F_,F_] rfl rfl (any_of HT_.out (by kernel_rfl)) (fun _ _ _ h => h) (Or.inr ⟨by rfl,rfl⟩) ?_ ?_
                 rotate_left
                 ·simp only [sp,i64_w,i32_w]
                  rfl
                 refine pure_ (i:= 43) (N:= some 100) (v:= ?_) (a':= ?_) #[T_,T_,T_,T_,T_,T_,T_,T_,T_,T_,T_,T_,T_,T_,T_,T_,T_,T_,T_,T_,T_,T_,T_,T_,T_,T_,T_,T_,T_,T_,T_,T_,T_,T_,T_,T_,T_,T_,T_,T_,T_,T_,T_,T_,F_] rfl rfl (any_of HT_.out (by kernel_rfl)) (fun _ _ _ h => h) (Or.inl ⟨by rfl,?_⟩) ?_ ?_
                 rotate_left
                 ·intro w'
                  go_simp
                  with_reducible rfl
                 rotate_left
                 ·simp only [sp,i64_w,i32_w]
                  rfl
                 refine pure_ (i:= 44) (N:= some 101) (v:= ?_) (a':= ?_) #[T_,T_,T_,T_,T_,T_,T_,T_,T_,T_,T_,T_,T_,T_,T_,T_,T_,T_,T_,T_,T_,T_,T_,T_,T_,T_,T_,T_,T_,T_,T_,T_,T_,T_,T_,T_,T_,T_,T_,T_,T_,T_,T_,T_,T_] rfl rfl (any_of HT_.out (by kernel_rfl)) (fun _ _ _ h => h) (Or.inl ⟨by rfl,?_⟩) ?_ ?_
                 rotate_left
                 ·intro w'
                  go_simp
                  with_reducible rfl
                 rotate_left
                 ·simp only [sp,i64_w,i32_w]
                  rfl
                 refine done_ (done_of HT_.out (by kernel_rfl)) ?_
                 try go_wp2
                 go_meet
                 case rel => exact ⟨_,(false),(by first|rfl|(simp;done)|(simp [*];done)),H',⟨by have:= HJ1.out;have:= HK2.out;have:= HK3.out;first|omega|exact Nat.le_refl _⟩,⟨ub d0.out⟩,⟨ub k0.out⟩,⟨by repeat (first|(with_reducible first|exact HB.out|apply below_alloc|apply pw_below_drewN|apply below_drew1|refine below_set ?_ m1.out|refine below_set ?_ v2.out)|exact HB.out)⟩⟩
             ·replace c45:= Bool.eq_false_iff.mpr c45
              subst c45
              have H1 : (impl_IsCracker.j3 k3 g0 (g0.length : Int) b0 true v0 q0 g0 ((rd_T50 g0 b0).f0) ((rd_T50 g0 b0).f1)) = some r:= by rw [if_neg (show ¬ (false = true) by decide)] at H;exact H
              clear H
              have H:= H1
              clear H1
              have H':= mk H
              clear H
              try go_wp2
              have n0_ : Aside0 (((w41.setCell ⟨m0,0,none⟩ (.int .i64 ((rd_T50 g0 b0).f0))).setCell ⟨m0,1,none⟩ (.int .i64 ((rd_T50 g0 b0).f1))).heap[o0]? = some (.cells #[.slice d2 v0.length b2,.slice j2 q0.length z1,.slice (some o1) g0.length g2] 29 (0,0))):= ⟨by (with_reducible repeat (first|refine blk_drewN ?_ _|refine blk_drew ?_|refine blk_alloc ?_ _));refine blk_far ?_ b1.out _;(with_reducible repeat (first|refine blk_drewN ?_ _|refine blk_drew ?_|refine blk_alloc ?_ _));refine blk_far ?_ b1.out _;(with_reducible repeat (first|refine blk_drewN ?_ _|refine blk_drew ?_|refine blk_alloc ?_ _));exact d0.out⟩
              have n1_ : Aside0 (((w41.setCell ⟨m0,0,none⟩ (.int .i64 ((rd_T50 g0 b0).f0))).setCell ⟨m0,1,none⟩ (.int .i64 ((rd_T50 g0 b0).f1))).heap[m0]? = some (.cells #[.int .i64 ((rd_T50 g0 b0).f0),.int .i64 ((rd_T50 g0 b0).f1)] 50 (0,0))):= ⟨by (with_reducible repeat (first|refine blk_drewN ?_ _|refine blk_drew ?_|refine blk_alloc ?_ _));refine blk_put (cs:= #[.int .i64 ((rd_T50 g0 b0).f0),.int .i64 0]) ?_ 1 _ rfl;(with_reducible repeat (first|refine blk_drewN ?_ _|refine blk_drew ?_|refine blk_alloc ?_ _));refine blk_put (cs:= #[.int .i64 0,.int .i64 0]) ?_ 0 _ rfl;(with_reducible repeat (first|refine blk_drewN ?_ _|refine blk_drew ?_|refine blk_alloc ?_ _));exact k0.out⟩
              have n2_ : Aside0 (Below w.heap.size w ((w41.setCell ⟨m0,0,none⟩ (.int .i64 ((rd_T50 g0 b0).f0))).setCell ⟨m0,1,none⟩ (.int .i64 ((rd_T50 g0 b0).f1)))):= ⟨by repeat (first|(with_reducible first|exact HB.out|apply below_alloc|apply pw_below_drewN|apply below_drew1|refine below_set ?_ m1.out|refine below_set ?_ v2.out)|exact HB.out)⟩
              (try clear d0)
              (try clear k0)
              (try clear HB)
              generalize ((w41.setCell ⟨m0,0,none⟩ (.int .i64 ((rd_T50 g0 b0).f0))).setCell ⟨m0,1,none⟩ (.int .i64 ((rd_T50 g0 b0).f1))) = w63 at n0_ n1_ n2_ ⊢
              have d0:= n0_
              have k0:= n1_
              have HB:= n2_
              clear n0_ n1_ n2_
              have n0_:= mk (blk_drew d0.out)
              have n1_:= mk (blk_drew k0.out)
              have n2_:= mk (below_drew1 HB.out)
              clear d0
              clear k0
              clear HB
              have d0:= n0_
              have k0:= n1_
              have HB:= n2_
              clear n0_ n1_ n2_
              refine start_ (n:= 45) (S:= fun w' => w'.cell? ⟨m0,0,none⟩ = some (.int .i64 ((rd_T50 g0 b0).f0)) ∧ w'.cell? ⟨m0,1,none⟩ = some (.int .i64 ((rd_T50 g0 b0).f1))) (ds:= []) #[F_,F_,F_,F_,F_,F_,F_,F_,F_,F_,F_,F_,F_,F_,F_,F_,F_,F_,F_,F_,F_,F_,F_,F_,F_,F_,F_,F_,F_,F_,F_,F_,F_,F_,F_,F_,F_,F_,F_,F_,F_,F_,F_,F_,F_] (by kernel_rfl) rfl rfl ⟨(blk_cell k0.out 0).trans rfl,(blk_cell k0.out 1).trans rfl⟩ (fun hHeld => ?_);refine with_tabW impl_IsCracker.tab12 impl_IsCracker.bits12 (fun HT_ HW_ => ?_)
              generalize w63.drew = w64 at d0 k0 HB hHeld ⊢
              refine pure_ (i:= 0) (N:= some 57) (v:= ?_) (a':= ?_) #[T_,F_,F_,F_,F_,F_,F_,F_,F_,F_,F_,F_,F_,F_,F_,F_,F_,F_,F_,F_,F_,F_,F_,F_,F_,F_,F_,F_,F_,F_,F_,F_,F_,F_,F_,F_,F_,F_,F_,F_,F_,F_,F_,F_,F_] rfl rfl (any_of HT_.out (by kernel_rfl)) (fun _ _ _ h => h) (Or.inl ⟨by rfl,?_⟩) ?_ ?_
              rotate_left
              ·intro w'
               go_simp
               with_reducible rfl
              rotate_left
              ·simp only [sp,i64_w,i32_w]
               rfl
              refine take_ (i:= 1) (N:= some 58) (v:= ?_) (a':= ?_) #[T_,T_,F_,F_,F_,F_,F_,F_,F_,F_,F_,F_,F_,F_,F_,F_,F_,F_,F_,F_,F_,F_,F_,F_,F_,F_,F_,F_,F_,F_,F_,F_,F_,F_,F_,F_,F_,F_,F_,F_,F_,F_,F_,F_,F_] rfl rfl (take_ofW HT_.out HW_.out (by kernel_rfl)) (fun _ _ _ h => h) (Or.inl ⟨by rfl,?_⟩) hHeld ?_ ?_
              rotate_left
              ·rintro w' ⟨s0,s1⟩
               go_simp
               with_reducible rfl
              rotate_left
              ·simp only [sp,i64_w,i32_w]
               rfl
              refine one_ (i:= 2) (N:= some 59) #[T_,T_,T_,F_,F_,F_,F_,F_,F_,F_,F_,F_,F_,F_,F_,F_,F_,F_,F_,F_,F_,F_,F_,F_,F_,F_,F_,F_,F_,F_,F_,F_,F_,F_,F_,F_,F_,F_,F_,F_,F_,F_,F_,F_,F_] rfl rfl (one_of HT_.out (by kernel_rfl)) (by decide) (fun K hK => ?_)
              refine goes_ Try.func50 (by kernel_rfl) rfl #[.int .i64 ((rd_T50 g0 b0).f0)] (by rfl) rfl rfl (by (try simp only [List.map_toArray,List.map_cons,List.map_nil]);first|done|rfl|(simp only [List.length_drop,List.length_take];rfl)) ?_
              with_reducible refine (impl_bound.calls ((rd_T50 g0 b0).f0) false _ A44.out).mono ?_
              rintro e w' ⟨rfl,⟨nd,rfl⟩⟩
              refine ⟨_,rfl,?_⟩
              refine hK.out _ _ ⟨(blk_cell k0.out 0).trans rfl,(blk_cell k0.out 1).trans rfl⟩ (fun hHeld => ?_)
              clear hK K
              refine norm_ (a':= ?_) ?_ ?_
              rotate_left
              ·show Act.put _ (some 59) _ = _
               simp only [sp,i64_w,i32_w]
               rfl
              refine pure_ (i:= 3) (N:= some 60) (v:= ?_) (a':= ?_) #[T_,T_,T_,T_,F_,F_,F_,F_,F_,F_,F_,F_,F_,F_,F_,F_,F_,F_,F_,F_,F_,F_,F_,F_,F_,F_,F_,F_,F_,F_,F_,F_,F_,F_,F_,F_,F_,F_,F_,F_,F_,F_,F_,F_,F_] rfl rfl (any_of HT_.out (by kernel_rfl)) (fun _ _ _ h => h) (Or.inl ⟨by rfl,?_⟩) ?_ ?_
              rotate_left
              ·intro w'
               go_simp
               with_reducible rfl
              rotate_left
              ·simp only [sp,i64_w,i32_w]
               rfl
              refine pure_ (i:= 4) (N:= some 61) (v:= ?_) (a':= ?_) #[T_,T_,T_,T_,T_,F_,F_,F_,F_,F_,F_,F_,F_,F_,F_,F_,F_,F_,F_,F_,F_,F_,F_,F_,F_,F_,F_,F_,F_,F_,F_,F_,F_,F_,F_,F_,F_,F_,F_,F_,F_,F_,F_,F_,F_] rfl rfl (any_of HT_.out (by kernel_rfl)) (fun _ _ _ h => h) (Or.inl ⟨by rfl,?_⟩) ?_ ?_
              rotate_left
              ·intro w'
               go_simp
               with_reducible rfl
              rotate_left
              ·simp only [sp,i64_w,i32_w]
               rfl
              refine pure_ (i:= 5) (N:= some 62) (v:= undef) (a':= ?_) #[T_,T_,T_,T_,T_,T_,F_,F_,F_,F_,F_,F_,F_,F_,F_,F_,F_,F_,F_,F_,F_,F_,F_,F_,F_,F_,F_,F_,F_,F_,F_,F_,F_,F_,F_,F_,F_,F_,F_,F_,F_,F_,F_,F_,F_] rfl rfl (any_of HT_.out (by kernel_rfl)) (fun _ _ _ h => h) (Or.inr ⟨by rfl,rfl⟩) ?_ ?_
              rotate_left
              ·simp only [sp,i64_w,i32_w]
               rfl
              refine pure_ (i:= 6) (N:= some 63) (v:= undef) (a':= ?_) #[T_,T_,T_,T_,T_,T_,T_,F_,F_,F_,F_,F_,F_,F_,F_,F_,F_,F_,F_,F_,F_,F_,F_,F_,F_,F_,F_,F_,F_,F_,F_,F_,F_,F_,F_,F_,F_,F_,F_,F_,F_,F_,F_,F_,F_] rfl rfl (any_of HT_.out (by kernel_rfl)) (fun _ _ _ h => h) (Or.inr ⟨by rfl,rfl⟩) ?_ ?_
              rotate_left
              ·simp only [sp,i64_w,i32_w]
               rfl
              refine pure_ (i:= 7) (N:= some 64) (v:= undef) (a':= ?_) #[T_,T_,T_,T_,T_,T_,T_,T_,F_,F_,F_,F_,F_,F_,F_,F_,F_,F_,F_,F_,F_,F_,F_,F_,F_,F_,F_,F_,F_,F_,F_,F_,F_,F_,F_,F_,F_,F_,F_,F_,F_,F_,F_,F_,F_] rfl rfl (any_of HT_.out (by kernel_rfl)) (fun _ _ _ h => h) (Or.inr ⟨by rfl,rfl⟩) ?_ ?_
              rotate_left
              ·simp only [sp,i64_w,i32_w]
               rfl
              refine pure_ (i:= 8) (N:= some 65) (v:= ?_) (a':= ?_) #[T_,T_,T_,T_,T_,T_,T_,T_,T_,F_,F_,F_,F_,F_,F_,F_,F_,F_,F_,F_,F_,F_,F_,F_,F_,F_,F_,F_,F_,F_,F_,F_,F_,F_,F_,F_,F_,F_,F_,F_,F_,F_,F_,F_,F_] rfl rfl (any_of HT_.out (by kernel_rfl)) (fun _ _ _ h => h) (Or.inl ⟨by rfl,?_⟩) ?_ ?_
              rotate_left
              ·intro w'
               go_simp
               with_reducible rfl
              rotate_left
              ·simp only [sp,i64_w,i32_w]
               rfl
              refine pure_ (i:= 9) (N:= some 66) (v:= ?_) (a':= ?_) #[T_,T_,T_,T_,T_,T_,T_,T_,T_,T_,F_,F_,F_,F_,F_,F_,F_,F_,F_,F_,F_,F_,F_,F_,F_,F_,F_,F_,F_,F_,F_,F_,F_,F_,F_,F_,F_,F_,F_,F_,F_,F_,F_,F_,F_] rfl rfl (any_of HT_.out (by kernel_rfl)) (fun _ _ _ h => h) (Or.inl ⟨by rfl,?_⟩) ?_ ?_
              rotate_left
              ·intro w'
               go_simp
               with_reducible rfl
              rotate_left
              ·simp only [sp,i64_w,i32_w]
               rfl
              refine pure_ (i:= 10) (N:= some 67) (v:= undef) (a':= ?_) #[T_,T_,T_,T_,T_,T_,T_,T_,T_,T_,T_,F_,F_,F_,F_,F_,F_,F_,F_,F_,F_,F_,F_,F_,F_,F_,F_,F_,F_,F_,F_,F_,F_,F_,F_,F_,F_,F_,F_,F_,F_,F_,F_,F_,F_] rfl rfl (any_of HT_.out (by kernel_rfl)) (fun _ _ _ h => h) (Or.inr ⟨by rfl,rfl⟩) ?_ ?_
              rotate_left
              ·simp only [sp,i64_w,i32_w]
               rfl
              refine pure_ (i:= 11) (N:= some 68) (v:= undef) (a':= ?_) #[T_,T_,T_,T_,T_,T_,T_,T_,T_,T_,T_,T_,F_,F_,F_,F_,F_,F_,F_,F_,F_,F_,F_,F_,F_,F_,F_,F_,F_,F_,F_,F_,F_,F_,F_,F_,F_,F_,F_,F_,F_,F_,F_,F_,F_] rfl rfl (any_of HT_.out (by kernel_rfl)) (fun _ _ _ h => h) (Or.inr ⟨by rfl,rfl⟩) ?_ ?_
              rotate_left
              ·simp only [sp,i64_w,i32_w]
               rfl
              refine pure_ (i:= 12) (N:= some 69) (v:= undef) (a':= ?_) #[T_,T_,T_,T_,T_,T_,T_,T_,T_,T_,T_,T_,T_,F_,F_,F_,F_,F_,F_,F_,F_,F_,F_,F_,F_,F_,F_,F_,F_,F_,F_,F_,F_,F_,F_,F_,F_,F_,F_,F_,F_,F_,F_,F_,F_] rfl rfl (any_of HT_.out (by kernel_rfl)) (fun _ _ _ h => h) (Or.inr ⟨by rfl,rfl⟩) ?_ ?_
              rotate_left
              ·simp only [sp,i64_w,i32_w]
               rfl
              refine pure_ (i:= 13) (N:= some 70) (v:= undef) (a':= ?_) #[T_,T_,T_,T_,T_,T_,T_,T_,T_,T_,T_,T_,T_,T_,F_,F_,F_,F_,F_,F_,F_,F_,F_,F_,F_,F_,F_,F_,F_,F_,F_,F_,F_,F_,F_,F_,F_,F_,F_,F_,F_,F_,F_,F_,F_] rfl rfl (any_of HT_.out (by kernel_rfl)) (fun _ _ _ h => h) (Or.inr ⟨by rfl,rfl⟩) ?_ ?_
              rotate_left
              ·simp only [sp,i64_w,i32_w]
               rfl
              refine pure_ (i:= 14) (N:= some 71) (v:= undef) (a':= ?_) #[T_,T_,T_,T_,T_,T_,T_,T_,T_,T_,T_,T_,T_,T_,T_,F_,F_,F_,F_,F_,F_,F_,F_,F_,F_,F_,F_,F_,F_,F_,F_,F_,F_,F_,F_,F_,F_,F_,F_,F_,F_,F_,F_,F_,F_] rfl rfl (any_of HT_.out (by kernel_rfl)) (fun _ _ _ h => h) (Or.inr ⟨by rfl,rfl⟩) ?_ ?_
              rotate_left
              ·simp only [sp,i64_w,i32_w]
               rfl
              refine pure_ (i:= 15) (N:= some 72) (v:= undef) (a':= ?_) #[T_,T_,T_,T_,T_,T_,T_,T_,T_,T_,T_,T_,T_,T_,T_,T_,F_,F_,F_,F_,F_,F_,F_,F_,F_,F_,F_,F_,F_,F_,F_,F_,F_,F_,F_,F_,F_,F_,F_,F_,F_,F_,F_,F_,F_] rfl rfl (any_of HT_.out (by kernel_rfl)) (fun _ _ _ h => h) (Or.inr ⟨by rfl,rfl⟩) ?_ ?_
              rotate_left
              ·simp only [sp,i64_w,i32_w]
               rfl
              refine pure_ (i:= 16) (N:= some 73) (v:= ?_) (a':= ?_) #[T_,T_,T_,T_,T_,T_,T_,T_,T_,T_,T_,T_,T_,T_,T_,T_,T_,F_,F_,F_,F_,F_,F_,F_,F_,F_,F_,F_,F_,F_,F_,F_,F_,F_,F_,F_,F_,F_,F_,F_,F_,F_,F_,F_,F_] rfl rfl (any_of HT_.out (by kernel_rfl)) (fun _ _ _ h => h) (Or.inl ⟨by rfl,?_⟩) ?_ ?_
              rotate_left
              ·intro w'
               go_simp
               with_reducible rfl
              rotate_left
              ·simp only [sp,i64_w,i32_w]
               rfl
              refine pure_ (i:= 17) (N:= some 74) (v:= ?_) (a':= ?_) #[T_,T_,T_,T_,T_,T_,T_,T_,T_,T_,T_,T_,T_,T_,T_,T_,T_,T_,F_,F_,F_,F_,F_,F_,F_,F_,F_,F_,F_,F_,F_,F_,F_,F_,F_,F_,F_,F_,F_,F_,F_,F_,F_,F_,F_] rfl rfl (any_of HT_.out (by kernel_rfl)) (fun _ _ _ h => h) (Or.inl ⟨by rfl,?_⟩) ?_ ?_
              rotate_left
              ·intro w'
               go_simp
               with_reducible rfl
              rotate_left
              ·simp only [sp,i64_w,i32_w]
               rfl
              refine pure_ (i:= 18) (N:= some 75) (v:= undef) (a':= ?_) #[T_,T_,T_,T_,T_,T_,T_,T_,T_,T_,T_,T_,T_,T_,T_,T_,T_,T_,T_,F_,F_,F_,F_,F_,F_,F_,F_,F_,F_,F_,F_,F_,F_,F_,F_,F_,F_,F_,F_,F_,F_,F_,F_,F_,F_] rfl rfl (any_of HT_.out (by kernel_rfl)) (fun _ _ _ h => h) (Or.inr ⟨by rfl,rfl⟩) ?_ ?_
              rotate_left
              ·simp only [sp,i64_w,i32_w]
               rfl
              refine pure_ (i:= 19) (N:= some 76) (v:= undef) (a':= ?_) #[T_,T_,T_,T_,T_,T_,T_,T_,T_,T_,T_,T_,T_,T_,T_,T_,T_,T_,T_,T_,F_,F_,F_,F_,F_,F_,F_,F_,F_,F_,F_,F_,F_,F_,F_,F_,F_,F_,F_,F_,F_,F_,F_,F_,F_] rfl rfl (any_of HT_.out (by kernel_rfl)) (fun _ _ _ h => h) (Or.inr ⟨by rfl,rfl⟩) ?_ ?_
              rotate_left
              ·simp only [sp,i64_w,i32_w]
               rfl
              refine pure_ (i:= 20) (N:= some 77) (v:= undef) (a':= ?_) #[T_,T_,T_,T_,T_,T_,T_,T_,T_,T_,T_,T_,T_,T_,T_,T_,T_,T_,T_,T_,T_,F_,F_,F_,F_,F_,F_,F_,F_,F_,F_,F_,F_,F_,F_,F_,F_,F_,F_,F_,F_,F_,F_,F_,F_] rfl rfl (any_of HT_.out (by kernel_rfl)) (fun _ _ _ h => h) (Or.inr ⟨by rfl,rfl⟩) ?_ ?_
              rotate_left
              ·simp only [sp,i64_w,i32_w]
               rfl
              refine pure_ (i:= 21) (N:= some 78) (v:= undef) (a':= ?_) #[T_,T_,T_,T_,T_,T_,T_,T_,T_,T_,T_,T_,T_,T_,T_,T_,T_,T_,T_,T_,T_,T_,F_,F_,F_,F_,F_,F_,F_,F_,F_,F_,F_,F_,F_,F_,F_,F_,F_,F_,F_,F_,F_,F_,F_] rfl rfl (any_of HT_.out (by kernel_rfl)) (fun _ _ _ h => h) (Or.inr ⟨by rfl,rfl⟩) ?_ ?_
              rotate_left
              ·simp only [sp,i64_w,i32_w]
               rfl
              refine pure_ (i:= 22) (N:= some 79) (v:= undef) (a':= ?_) #[T_,T_,T_,T_,T_,T_,T_,T_,T_,T_,T_,T_,T_,T_,T_,T_,T_,T_,T_,T_,T_,T_,T_,F_,F_,F_,F_,F_,F_,F_,F_,F_,F_,F_,F_,F_,F_,F_,F_,F_,F_,F_,F_,F_,F_] rfl rfl (any_of HT_.out (by kernel_rfl)) (fun _ _ _ h => h) (Or.inr ⟨by rfl,rfl⟩) ?_ ?_
              rotate_left
              ·simp only [sp,i64_w,i32_w]
               rfl
              refine pure_ (i:= 23) (N:= some 80) (v:= undef) (a':= ?_) #[T_,T_,T_,T_,T_,T_,T_,T_,T_,T_,T_,T_,T_,T_,T_,T_,T_,T_,T_,T_,T_,T_,T_,T_,F_,F_,F_,F_,F_,F_,F_,F_,F_,F_,F_,F_,F_,F_,F_,F_,F_,F_,F_,F_,F_] rfl rfl (any_of HT_.out (by kernel_rfl)) (fun _ _ _ h => h) (Or.inr ⟨by rfl,rfl⟩) ?_ ?_
              rotate_left
              ·simp only [sp,i64_w,i32_w]
               rfl
              refine pure_ (i:= 24) (N:= some 81) (v:= undef) (a':= ?_) #[T_,T_,T_,T_,T_,T_,T_,T_,T_,T_,T_,T_,T_,T_,T_,T_,T_,T_,T_,T_,T_,T_,T_,T_,T_,F_,F_,F_,F_,F_,F_,F_,F_,F_,F_,F_,F_,F_,F_,F_,F_,F_,F_,F_,F_] rfl rfl (any_of HT_.out (by kernel_rfl)) (fun _ _ _ h => h) (Or.inr ⟨by rfl,rfl⟩) ?_ ?_
              rotate_left
              ·simp only [sp,i64_w,i32_w]
               rfl
              refine pure_ (i:= 25) (N:= some 82) (v:= undef) (a':= ?_) #[T_,T_,T_,T_,T_,T_,T_,T_,T_,T_,T_,T_,T_,T_,T_,T_,T_,T_,T_,T_,T_,T_,T_,T_,T_,T_,F_,F_,F_,F_,F_,F_,F_,F_,F_,F_,F_,F_,F_,F_,F_,F_,F_,F_,F_] rfl rfl (any_of HT_.out (by kernel_rfl)) (fun _ _ _ h => h) (Or.inr ⟨by rfl,rfl⟩) ?_ ?_
              rotate_left
              ·simp only [sp,i64_w,i32_w]
               rfl
              refine pure_ (i:= 26) (N:= some 83) (v:= undef) (a':= ?_) #[T_,T_,T_,T_,T_,T_,T_,T_,T_,T_,T_,T_,T_,T_,T_,T_,T_,T_,T_,T_,T_,T_,T_,T_,T_,T_,T_,F_,F_,F_,F_,F_,F_,F_,F_,F_,F_,F_,F_,F_,F_,F_,F_,F_,F_] rfl rfl (any_of HT_.out (by kernel_rfl)) (fun _ _ _ h => h) (Or.inr ⟨by rfl,rfl⟩) ?_ ?_
              rotate_left
              ·simp only [sp,i64_w,i32_w]
               rfl
              refine pure_ (i:= 27) (N:= some 84) (v:= undef) (a':= ?_) #[T_,T_,T_,T_,T_,T_,T_,T_,T_,T_,T_,T_,T_,T_,T_,T_,T_,T_,T_,T_,T_,T_,T_,T_,T_,T_,T_,T_,F_,F_,F_,F_,F_,F_,F_,F_,F_,F_,F_,F_,F_,F_,F_,F_,F_] rfl rfl (any_of HT_.out (by kernel_rfl)) (fun _ _ _ h => h) (Or.inr ⟨by rfl,rfl⟩) ?_ ?_
              rotate_left
              ·simp only [sp,i64_w,i32_w]
               rfl
              refine pure_ (i:= 28) (N:= some 85) (v:= undef) (a':= ?_) #[T_,T_,T_,T_,T_,T_,T_,T_,T_,T_,T_,T_,T_,T_,T_,T_,T_,T_,T_,T_,T_,T_,T_,T_,T_,T_,T_,T_,T_,F_,F_,F_,F_,F_,F_,F_,F_,F_,F_,F_,F_,F_,F_,F_,F_] rfl rfl (any_of HT_.out (by kernel_rfl)) (fun _ _ _ h => h) (Or.inr ⟨by rfl,rfl⟩) ?_ ?_
              rotate_left
              ·simp only [sp,i64_w,i32_w]
               rfl
              refine pure_ (i:= 29) (N:= some 86) (v:= undef) (a':= ?_) #[T_,T_,T_,T_,T_,T_,T_,T_,T_,T_,T_,T_,T_,T_,T_,T_,T_,T_,T_,T_,T_,T_,T_,T_,T_,T_,T_,T_,T_,T_,F_,F_,F_,F_,F_,F_,F_,F_,F_,F_,F_,F_,F_,F_,F_] rfl rfl (any_of HT_.out (by kernel_rfl)) (fun _ _ _ h => h) (Or.inr ⟨by rfl,rfl⟩) ?_ ?_
              rotate_left
              ·simp only [sp,i64_w,i32_w]
               rfl
              refine pure_ (i:= 30) (N:= some 87) (v:= undef) (a':= ?_) #[T_,T_,T_,T_,T_,T_,T_,T_,T_,T_,T_,T_,T_,T_,T_,T_,T_,T_,T_,T_,T_,T_,T_,T_,T_,T_,T_,T_,T_,T_,T_,F_,F_,F_,F_,F_,F_,F_,F_,F_,F_,F_,F_,F_,F_] rfl rfl (any_of HT_.out (by kernel_rfl)) (fun _ _ _ h => h) (Or.inr ⟨by rfl,rfl⟩) ?_ ?_
              rotate_left
              ·simp only [sp,i64_w,i32_w]
               rfl
              refine pure_ (i:= 31) (N:= some 88) (v:= undef) (a':= ?_) #[T_,T_,T_,T_,T_,T_,T_,T_,T_,T_,T_,T_,T_,T_,T_,T_,T_,T_,T_,T_,T_,T_,T_,T_,T_,T_,T_,T_,T_,T_,T_,T_,F_,F_,F_,F_,F_,F_,F_,F_,F_,F_,F_,F_,F_] rfl rfl (any_of HT_.out (by kernel_rfl)) (fun _ _ _ h => h) (Or.inr ⟨by rfl,rfl⟩) ?_ ?_
              rotate_left
              ·simp only [sp,i64_w,i32_w]
               rfl
              refine pure_ (i:= 32) (N:= some 89) (v:= undef) (a':= ?_) #[T_,T_,T_,T_,T_,T_,T_,T_,T_,T_,T_,T_,T_,T_,T_,T_,T_,T_,T_,T_,T_,T_,T_,T_,T_,T_,T_,T_,T_,T_,T_,T_,T_,F_,F_,F_,F_,F_,F_,F_,F_,F_,F_,F_,F_] rfl rfl (any_of HT_.out (by kernel_rfl)) (fun _ _ _ h => h) (Or.inr ⟨by rfl,rfl⟩) ?_ ?_
              rotate_left
              ·simp only [sp,i64_w,i32_w]
               rfl
              refine pure_ (i:= 33) (N:= some 90) (v:= undef) (a':= ?_) #[T_,T_,T_,T_,T_,T_,T_,T_,T_,T_,T_,T_,T_,T_,T_,T_,T_,T_,T_,T_,T_,T_,T_,T_,T_,T_,T_,T_,T_,T_,T_,T_,T_,T_,F_,F_,F_,F_,F_,F_,F_,F_,F_,F_,F_] rfl rfl (any_of HT_.out (by kernel_rfl)) (fun _ _ _ h => h) (Or.inr ⟨by rfl,rfl⟩) ?_ ?_
              rotate_left
              ·simp only [sp,i64_w,i32_w]
               rfl
              refine pure_ (i:= 34) (N:= some 91) (v:= undef) (a':= ?_) #[T_,T_,T_,T_,T_,T_,T_,T_,T_,T_,T_,T_,T_,T_,T_,T_,T_,T_,T_,T_,T_,T_,T_,T_,T_,T_,T_,T_,T_,T_,T_,T_,T_,T_,T_,F_,F_,F_,F_,F_,F_,F_,F_,F_,F_] rfl rfl (any_of HT_.out (by kernel_rfl)) (fun _ _ _ h => h) (Or.inr ⟨by rfl,rfl⟩) ?_ ?_
              rotate_left
              ·simp only [sp,i64_w,i32_w]
               rfl
              refine pure_ (i:= 35) (N:= some 92) (v:= undef) (a':= ?_) #[T_,T_,T_,T_,T_,T_,T_,T_,T_,T_,T_,T_,T_,T_,T_,T_,T_,T_,T_,T_,T_,T_,T_,T_,T_,T_,T_,T_,T_,T_,T_,T_,T_,T_,T_,T_,F_,F_,F_,F_,F_,F_,F_,F_,F_] rfl rfl (any_of HT_.out (by kernel_rfl)) (fun _ _ _ h => h) (Or.inr ⟨by rfl,rfl⟩) ?_ ?_
              rotate_left
              ·simp only [sp,i64_w,i32_w]
               rfl
              refine pure_ (i:= 36) (N:= some 93) (v:= undef) (a':= ?_) #[T_,T_,T_,T_,T_,T_,T_,T_,T_,T_,T_,T_,T_,T_,T_,T_,T_,T_,T_,T_,T_,T_,T_,T_,T_,T_,T_,T_,T_,T_,T_,T_,T_,T_,T_,T_,T_,F_,F_,F_,F_,F_,F_,F_,F_] rfl rfl (any_of HT_.out (by kernel_rfl)) (fun _ _ _ h => h) (Or.inr ⟨by rfl,rfl⟩) ?_ ?_
              rotate_left
              ·simp only [sp,i64_w,i32_w]
               rfl
              refine pure_ (i:= 37) (N:= some 94) (v:= undef) (a':= ?_) #[T_,T_,T_,T_,T_,T_,T_,T_,T_,T_,T_,T_,T_,T_,T_,T_,T_,T_,T_,T_,T_,T_,T_,T_,T_,T_,T_,T_,T_,T_,T_,T_,T_,T_,T_,T_,T_,T_,F_,F_,F_,F_,F_,F_,F_] rfl rfl (any_of HT_.out (by kernel_rfl)) (fun _ _ _ h => h) (Or.inr ⟨by rfl,rfl⟩) ?_ ?_
              rotate_left
              ·simp only [sp,i64_w,i32_w]
               rfl
              refine pure_ (i:= 38) (N:= some 95) (v:= undef) (a':= ?_) #[T_,T_,T_,T_,T_,T_,T_,T_,T_,T_,T_,T_,T_,T_,T_,T_,T_,T_,T_,T_,T_,T_,T_,T_,T_,T_,T_,T_,T_,T_,T_,T_,T_,T_,T_,T_,T_,T_,T_,F_,F_,F_,F_,F_,F_] rfl rfl (any_of HT_.out (by kernel_rfl)) (fun _ _ _ h => h) (Or.inr ⟨by rfl,rfl⟩) ?_ ?_
              rotate_left
              ·simp only [sp,i64_w,i32_w]
               rfl
              refine pure_ (i:= 39) (N:= some 96) (v:= undef) (a':= ?_) #[T_,T_,T_,T_,T_,T_,T_,T_,T_,T_,T_,T_,T_,T_,T_,T_,T_,T_,T_,T_,T_,T_,T_,T_,T_,T_,T_,T_,T_,T_,T_,T_,T_,T_,T_,T_,T_,T_,T_,T_,F_,F_,F_,F_,F_] rfl rfl (any_of HT_.out (by kernel_rfl)) (fun _ _ _ h => h) (Or.inr ⟨by rfl,rfl⟩) ?_ ?_
              rotate_left
              ·simp only [sp,i64_w,i32_w]
               rfl
              refine pure_ (i:= 40) (N:= some 97) (v:= undef) (a':= ?_) #[T_,T_,T_,T_,T_,T_,T_,T_,T_,T_,T_,T_,T_,T_,T_,T_,T_,T_,T_,T_,T_,T_,T_,T_,T_,T_,T_,T_,T_,T_,T_,T_,T_,T_,T_,T_,T_,T_,T_,T_,T_,F_,F_,F_,F_] rfl rfl (any_of HT_.out (by kernel_rfl)) (fun _ _ _ h => h) (Or.inr ⟨by rfl,rfl⟩) ?_ ?_
              rotate_left
              ·simp only [sp,i64_w,i32_w]
               rfl
              refine pure_ (i:= 41) (N:= some 98) (v:= undef) (a':= ?_) #[T_,T_,T_,T_,T_,T_,T_,T_,T_,T_,T_,T_,T_,T_,T_,T_,T_,T_,T_,T_,T_,T_,T_,T_,T_,T_,T_,T_,T_,T_,T_,T_,T_,T_,T_,T_,T_,T_,T_,T_,T_,T_,F_,F_,F_] rfl rfl (any_of HT_.out (by kernel_rfl)) (fun _ _ _ h => h) (Or.inr ⟨by rfl,rfl⟩) ?_ ?_
              rotate_left
              ·simp only [sp,i64_w,i32_w]
               rfl
              refine pure_ (i:= 42) (N:= some 99) (v:= undef) (a':= ?_) #[T_,T_,T_,T_,T_,T_,T_,T_,T_,T_,T_,T_,T_,T_,T_,T_,T_,T_,T_,T_,T_,T_,T_,T_,T_,T_,T_,T_,T_,T_,T_,T_,T_,T_,T_,T_,T_,T_,T_,T_,T_,T_,T_,F_,F_] rfl rfl (any_of HT_.out (by kernel_rfl)) (fun _ _ _ h => h) (Or.inr ⟨by rfl,rfl⟩) ?_ ?_
              rotate_left
              ·simp only [sp,i64_w,i32_w]
               rfl
              refine pure_ (i:= 43) (N:= some 100) (v:= undef) (a':= ?_) #[T_,T_,T_,T_,T_,T_,T_,T_,T_,T_,T_,T_,T_,T_,T_,T_,T_,T_,T_,T_,T_,T_,T_,T_,T_,T_,T_,T_,T_,T_,T_,T_,T_,T_,T_,T_,T_,T_,T_,T_,T_,T_,T_,T_,F_] rfl rfl (any_of HT_.out (by kernel_rfl)) (fun _ _ _ h => h) (Or.inr ⟨by rfl,rfl⟩) ?_ ?_
              rotate_left
              ·simp only [sp,i64_w,i32_w]
               rfl
              refine pure_ (i:= 44) (N:= some 101) (v:= ?_) (a':= ?_) #[T_,T_,T_,T_,T_,T_,T_,T_,T_,T_,T_,T_,T_,T_,T_,T_,T_,T_,T_,T_,T_,T_,T_,T_,T_,T_,T_,T_,T_,T_,T_,T_,T_,T_,T_,T_,T_,T_,T_,T_,T_,T_,T_,T_,T_] rfl rfl (any_of HT_.out (by kernel_rfl)) (fun _ _ _ h => h) (Or.inl ⟨by rfl,?_⟩) ?_ ?_
              rotate_left
              ·intro w'
               go_simp
               with_reducible rfl
              rotate_left
              ·simp only [sp,i64_w,i32_w]
               rfl
              refine done_ (done_of HT_.out (by kernel_rfl)) ?_
              try go_wp2
              go_meet
              case rel => exact ⟨_,(true),(by first|rfl|(simp;done)|(simp [*];done)),H',⟨by have:= HJ1.out;have:= HK2.out;have:= HK3.out;first|omega|exact Nat.le_refl _⟩,⟨ub d0.out⟩,⟨ub k0.out⟩,⟨by repeat (first|(with_reducible first|exact HB.out|apply below_alloc|apply pw_below_drewN|apply below_drew1|refine below_set ?_ m1.out|refine below_set ?_ v2.out)|exact HB.out)⟩⟩
            case rest =>
             clear ka6
             try clear p2
             try clear c4
             try clear c5
             try clear c45
             try clear c50
             try clear c52
             try clear ga2
             try clear c54
             try clear c55
             obtain ⟨kq,q3,rfl,HA,qa3,d0,k0,HB⟩:= hcut
             cases kq with
            |zero => exact absurd HA.out (by simp [impl_IsCracker.j3])
            |succ ba4 =>
              have H:= HA.out
              clear HA
              simp only [impl_IsCracker.j3] at H
              by_cases c65 : q3 = true
              ·subst c65
               have H1 : (some false) = some r:= by rw [if_pos rfl] at H;exact H
               clear H
               have H:= H1
               clear H1
               obtain rfl:= Option.some.inj H
               go_wp2
               go_ret
               exact ⟨by first|rfl|(simp [errW_none,errW_some] <;> rfl)|(simp [*,errW_none,errW_some] <;> rfl),by repeat (first|(with_reducible first|exact HB.out|apply below_alloc|apply pw_below_drewN|apply below_drew1|refine below_set ?_ m1.out|refine below_set ?_ v2.out)|exact HB.out)⟩
              ·replace c65:= Bool.eq_false_iff.mpr c65
               subst c65
               have H1 : (impl_IsCracker.l2 ba4 g0 (g0.length : Int) b0 v0 (v0.length : Int) 0 v0 q0 g0 ((rd_T50 g0 b0).f0) ((rd_T50 g0 b0).f1)) = some r:= by rw [if_neg (show ¬ (false = true) by decide)] at H;exact H
               clear H
               have H:= H1
               clear H1
               have H':= mk H
               clear H
               have qa7:= b1.out
               have ja7:= a3.out
               have ma1 : wc.cell? ⟨o0,0,none⟩ = some (.slice d2 v0.length b2):= (blk_cell d0.out 0).trans rfl
               have ka1 : wc.cell? ⟨o0,1,none⟩ = some (.slice j2 q0.length z1):= (blk_cell d0.out 1).trans rfl
               have ja1 : wc.cell? ⟨o0,2,none⟩ = some (.slice (some o1) g0.length g2):= (blk_cell d0.out 2).trans rfl
               have oa0:= blk_frozen d0.out 0
               have ma0:= blk_frozen d0.out 1
               have ka0:= blk_frozen d0.out 2
               go_wp2
               go_loopg [105] ba4 (fun kq aa7 w' => ∃ (z0 : Int),aa7 = .int .i64 z0 ∧ Aside0 (impl_IsCracker.l2 kq g0 (g0.length : Int) b0 v0 (v0.length : Int) z0 v0 q0 g0 ((rd_T50 g0 b0).f0) ((rd_T50 g0 b0).f1) = some r) ∧ Aside0 (kq ≤ ba4) ∧ Aside0 (w'.heap[o0]? = some (.cells #[(.slice d2 v0.length b2),(.slice j2 q0.length z1),(.slice (some o1) g0.length g2)] 29 (0,0))) ∧ Aside0 (w'.heap[m0]? = some (.cells #[.int .i64 ((rd_T50 g0 b0).f0),.int .i64 ((rd_T50 g0 b0).f1)] 50 (0,0))) ∧ Aside0 (Below w.heap.size w w'))
               case atStart => exact ⟨(0),(by first|rfl|(simp;done)|(simp [*];done)),H',⟨Nat.le_refl _⟩,⟨ub d0.out⟩,⟨ub k0.out⟩,⟨by repeat (first|(with_reducible first|exact HB.out|apply below_alloc|apply pw_below_drewN|apply below_drew1|refine below_set ?_ m1.out|refine below_set ?_ v2.out)|exact HB.out)⟩⟩
               case round =>
                clear H'
                try clear p2
                try clear c4
                try clear c5
                try clear c6
                try clear c45
                try clear c50
                try clear c52
                try clear ga2
                try clear c54
                try clear c55
                try clear c65
                try clear c66
                try clear ma1
                try clear ka1
                try clear ja1
                try clear oa0
                try clear ma0
                try clear ka0
                try clear p2
                obtain ⟨z0,rfl,HA,HK5,d0,k0,HB⟩:= hrel
                cases gk with
               |zero => exact absurd HA.out (by simp [impl_IsCracker.l2])
               |succ k5 =>
                 have H:= HA.out
                 clear HA
                 simp only [impl_IsCracker.l2] at H
                 by_cases c68 : z0 < (v0.length : Int)
                 ·rw [if_pos c68] at H
                  have oa5 : decide (z0 < (v0.length : Int)) = true:= decide_eq_true c68
                  clear c68
                  by_cases c69 : 0 ≤ z0
                  ·rw [if_pos c69] at H
                   have ba8 : decide (0 ≤ z0) = true:= decide_eq_true c69
                   clear c69
                   by_cases c70 : z0 < (v0.length : Int)
                   ·rw [if_pos c70] at H
                    have aa8 : decide (z0 < (v0.length : Int)) = true:= decide_eq_true c70
                    clear c70
                    by_cases c71 : ((decide ((rd v0 z0) < ((rd_T50 g0 b0).f0))) != (decide (z0 < ((rd_T50 g0 b0).f1)))) = true
                    ·rw [if_pos c71] at H
                     have ma5 : ((decide ((rd v0 z0) < ((rd_T50 g0 b0).f0))) != (decide (z0 < ((rd_T50 g0 b0).f1)))) = true:= c71
                     (try (have ka5 : decide ((decide ((rd v0 z0) < ((rd_T50 g0 b0).f0))) = (decide (z0 < ((rd_T50 g0 b0).f1)))) = false:= by simpa using c71))
                     (try (have ja5 : ((decide ((rd v0 z0) < ((rd_T50 g0 b0).f0))) == (decide (z0 < ((rd_T50 g0 b0).f1)))) = false:= by simpa using c71))
                     (try (have za7 : ¬ ((decide ((rd v0 z0) < ((rd_T50 g0 b0).f0))) = (decide (z0 < ((rd_T50 g0 b0).f1)))):= by simpa using c71))
                     clear c71
                     obtain rfl:= Option.some.inj H
                     have ga0 : 0 ≤ (z0 : Int):= of_decide_eq_true (by first|(with_reducible assumption)|assumption)
                     have ba0 : z0 < (v0.length : Int):= of_decide_eq_true (by first|(with_reducible assumption)|assumption)
                     obtain ⟨ga6,ba5,z2⟩:= Kd.at_int b8.out z0 ga0 ba0
                     cases ba5
                     replace z2:= (HB.out.cell (World.block_lt_of_cell? w _ z2)).trans z2
                     replace ga0:= eq_true ga0
                     replace ba0:= eq_true ba0
                     have oa7:= a3.out
                     have ga7:= b1.out
                     have ya4 : wr.cell? ⟨m0,0,none⟩ = some (.int .i64 ((rd_T50 g0 b0).f0)):= (blk_cell k0.out 0).trans rfl
                     have va4 : wr.cell? ⟨m0,1,none⟩ = some (.int .i64 ((rd_T50 g0 b0).f1)):= (blk_cell k0.out 1).trans rfl
                     have ka4:= blk_frozen k0.out 0
                     have ja4:= blk_frozen k0.out 1
                     go_wp2
                     go_ret
                     exact ⟨by first|rfl|(simp [errW_none,errW_some] <;> rfl)|(simp [*,errW_none,errW_some] <;> rfl),by repeat (first|(with_reducible first|exact HB.out|apply below_alloc|apply pw_below_drewN|apply below_drew1|refine below_set ?_ m1.out|refine below_set ?_ v2.out)|exact HB.out)⟩
                    ·rw [if_neg c71] at H
                     have ma5 : ((decide ((rd v0 z0) < ((rd_T50 g0 b0).f0))) != (decide (z0 < ((rd_T50 g0 b0).f1)))) = false:= by simpa using c71
                     (try (have ka5 : decide ((decide ((rd v0 z0) < ((rd_T50 g0 b0).f0))) = (decide (z0 < ((rd_T50 g0 b0).f1)))) = true:= by simpa using c71))
                     (try (have ja5 : ((decide ((rd v0 z0) < ((rd_T50 g0 b0).f0))) == (decide (z0 < ((rd_T50 g0 b0).f1)))) = true:= by simpa using c71))
                     clear c71
                     have H':= mk H
                     clear H
                     have ga0 : 0 ≤ (z0 : Int):= of_decide_eq_true (by first|(with_reducible assumption)|assumption)
                     have ba0 : z0 < (v0.length : Int):= of_decide_eq_true (by first|(with_reducible assumption)|assumption)
                     obtain ⟨ga6,ba5,z2⟩:= Kd.at_int b8.out z0 ga0 ba0
                     cases ba5
                     replace z2:= (HB.out.cell (World.block_lt_of_cell? w _ z2)).trans z2
                     replace ga0:= eq_true ga0
                     replace ba0:= eq_true ba0
                     have ma7:= a3.out
                     have da7:= b1.out
                     have sa4 : wr.cell? ⟨m0,0,none⟩ = some (.int .i64 ((rd_T50 g0 b0).f0)):= (blk_cell k0.out 0).trans rfl
                     have qa4 : wr.cell? ⟨m0,1,none⟩ = some (.int .i64 ((rd_T50 g0 b0).f1)):= (blk_cell k0.out 1).trans rfl
                     have ga4:= blk_frozen k0.out 0
                     have da4:= blk_frozen k0.out 1
                     go_wp2
                     go_roundg k5
                     case measure => have:= HJ1.out;have:= HK2.out;have:= HK3.out;have:= qa3.out;have:= HK5.out;omega
                     case rel => exact ⟨(wrap64 (z0 + 1)),(by first|rfl|(simp;done)|(simp [*];done)),H',⟨by have:= HJ1.out;have:= HK2.out;have:= HK3.out;have:= qa3.out;have:= HK5.out;omega⟩,⟨ub d0.out⟩,⟨ub k0.out⟩,⟨by repeat (first|(with_reducible first|exact HB.out|apply below_alloc|apply pw_below_drewN|apply below_drew1|refine below_set ?_ m1.out|refine below_set ?_ v2.out)|exact HB.out)⟩⟩
                   ·rw [if_neg c70] at H
                    exact absurd H (by simp)
                  ·rw [if_neg c69] at H
                   exact absurd H (by simp)
                 ·rw [if_neg c68] at H
                  have oa5 : decide (z0 < (v0.length : Int)) = false:= decide_eq_false c68
                  clear c68
                  have H':= mk H
                  clear H
                  go_wp2
                  go_roundg k5
                  case measure => have:= HJ1.out;have:= HK2.out;have:= HK3.out;have:= qa3.out;have:= HK5.out;omega
                  case rel => exact ⟨(wrap64 (b0 + 1)),(by first|rfl|(simp;done)|(simp [*];done)),H',⟨by have:= HJ1.out;have:= HK2.out;have:= HK3.out;have:= qa3.out;have:= HK5.out;omega⟩,⟨ub d0.out⟩,⟨by repeat (first|(with_reducible first|exact HB.out|apply below_alloc|apply pw_below_drewN|apply below_drew1|refine below_set ?_ m1.out|refine below_set ?_ v2.out)|exact HB.out)⟩⟩
           ·rw [if_neg c39] at H
            exact absurd H (by simp)
          ·rw [if_neg c38] at H
           exact absurd H (by simp)
         ·rw [if_neg c37] at H
          have va5 : decide (b0 < (g0.length : Int)) = false:= decide_eq_false c37
          clear c37
          obtain rfl:= Option.some.inj H
          go_wp2
          go_ret
          exact ⟨by first|rfl|(simp [errW_none,errW_some] <;> rfl)|(simp [*,errW_none,errW_some] <;> rfl),by repeat (first|(with_reducible first|exact HB.out|apply below_alloc|apply pw_below_drewN|apply below_drew1|refine below_set ?_ m1.out)|exact HB.out)⟩

end Go.Proofs.Ytlikcmonejefoab.PFnExactRippleDelete
