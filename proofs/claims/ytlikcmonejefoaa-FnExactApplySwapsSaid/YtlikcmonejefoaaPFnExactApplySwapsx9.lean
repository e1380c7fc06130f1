-- printed by a program of this session, a turned copy of the print of the kit
import Derived.Test.YtlikcmonejefoaaSq
import Derived.Test.YtlikcmonejefoaaPFnExactApplySwapsx0
import Derived.Test.YtlikcmonejefoaaPFnExactApplySwapsx1
import Derived.Test.YtlikcmonejefoaaPFnExactApplySwapsx3
import Derived.Test.YtlikcmonejefoaaPFnExactApplySwapsx4
import Derived.Test.YtlikcmonejefoaaPFnExactApplySwapsx5
import Derived.Test.YtlikcmonejefoaaPFnExactApplySwapsx6
import Derived.Test.YtlikcmonejefoaaPFnExactApplySwapsx7
import Derived.Test.YtlikcmonejefoaaPFnExactApplySwapsx8
namespace Go.Proofs.Ytlikcmonejefoaa.PFnExactApplySwaps
open Go.RowKit Go.Proofs.YtlikcmonejefoaaW.PrintWords Go.Proofs.YtlikcmonejefoaaW.PrintLast Go.Proofs.YtlikcmonejefoaaW.PrintMore Go.Proofs.Ytlikcmonejefoaa.Sq
attribute [local go_sem] max2_int min2_int max_two min_two max_three min_three max_four min_four Giv.cell_twice   -- for this text's walks alone
set_option linter.unusedVariables false
set_option linter.unusedSimpArgs false

/-! ### laws_FnExactApplySwaps: function 3 -/
mutual
def laws_FnExactApplySwaps.j0 : Nat → List (S59) → Bool → List (S50) → Bool → Bool → List Int → List Int → List (S76) → List Int → List Int → List (S74) → List Int → List Int → List (S74) → List Int → List Int → List (S74) → Option (Bool)
 | 0, _, _, _, _, _, _, _, _, _, _, _, _, _, _, _, _, _ => none
 | k + 1, x1, x7, x9, x11, x53, x299000, x299001, x299002, x324000, x324001, x324002, x334000, x334001, x334002, x348000, x348001, x348002 => if x53 = true then (some false) else ((laws_toCracker.f k x299000 x299001 x299002).bind fun bt349 => ((laws_eqCracker.f k x334000 x334001 x334002 bt349.1 bt349.2.1 bt349.2.2).bind fun t358 => (if t358 = true then ((laws_toSwapS.f k x1).bind fun t359 => ((laws_eqSwapS.f k x9 t359).bind fun t362 => (if t362 = true then ((laws_markCracker.f k x334000 x334001 x334002 1).bind fun bt363 => ((laws_markSwapS.f k x9 bt363.1).bind fun bt367 => (if bt367.1 < 0 then (laws_FnExactApplySwaps.j1 k x1 x7 true x299000 x299001 x299002 x324000 x324001 x324002 x348000 x348001 x348002) else ((laws_eqCracker.f k x348000 x348001 x348002 x324000 x324001 x324002).bind fun t369 => (if t369 = true then (laws_FnExactApplySwaps.j1 k x1 x7 (x11 != x7) x299000 x299001 x299002 x324000 x324001 x324002 x348000 x348001 x348002) else (laws_FnExactApplySwaps.j1 k x1 x7 true x299000 x299001 x299002 x324000 x324001 x324002 x348000 x348001 x348002)))))) else (some false)))) else (some false))))
def laws_FnExactApplySwaps.j1 : Nat → List (S59) → Bool → Bool → List Int → List Int → List (S76) → List Int → List Int → List (S74) → List Int → List Int → List (S74) → Option (Bool)
 | 0, _, _, _, _, _, _, _, _, _, _, _, _ => none
 | k + 1, x1, x7, x82, x299000, x299001, x299002, x324000, x324001, x324002, x348000, x348001, x348002 => if x82 = true then (some false) else ((laws_markCracker.f k x348000 x348001 x348002 1).bind fun bt370 => ((laws_heldCracker.f k bt370.2.1 bt370.2.2.1 bt370.2.2.2 1).bind fun t374 => (if t374 < 0 then (some false) else (if t374 = bt370.1 then ((laws_toCracker.f k x299000 x299001 x299002).bind fun bt375 => ((laws_toSwapS.f k x1).bind fun t384 => ((impl_ApplySwaps.f k bt375.1 bt375.2.1 bt375.2.2 t384).bind fun bt387 => ((laws_eqCracker.f k bt387.1 bt387.2.1 bt387.2.2.1 x324000 x324001 x324002).bind fun t398 => (if t398 = true then (laws_FnExactApplySwaps.j2 k bt370.1 (bt387.2.2.2 != x7) bt370.2.1 bt370.2.2.1 bt370.2.2.2) else (laws_FnExactApplySwaps.j2 k bt370.1 true bt370.2.1 bt370.2.2.1 bt370.2.2.2)))))) else (some false)))))
def laws_FnExactApplySwaps.j2 : Nat → Int → Bool → List Int → List Int → List (S74) → Option (Bool)
 | 0, _, _, _, _, _ => none
 | k + 1, x13, x110, x348000, x348001, x348002 => if x110 = true then (some false) else ((laws_heldCracker.f k x348000 x348001 x348002 1).bind fun t399 => (if t399 < 0 then (some false) else (if t399 = x13 then (some true) else (some false))))
end
def laws_FnExactApplySwaps.f (k : Nat) (l0_0 : List Int) (l0_1 : List Int) (l0_2 : List (S76)) (l1 : List (S59)) : Option (Bool) := (laws_szCracker.f l0_0 l0_1 l0_2 1048576).bind fun t299 => (if t299 < 0 then (some true) else ((laws_szSwapS.f l1 t299).bind fun t300 => (if t300 < 0 then (some true) else ((laws_toCracker.f k l0_0 l0_1 l0_2).bind fun bt301 => ((laws_toSwapS.f k l1).bind fun t310 => ((spec_ApplySwaps.f k bt301.1 bt301.2.1 bt301.2.2 t310).bind fun bt313 => ((laws_toCracker.f k l0_0 l0_1 l0_2).bind fun bt324 => ((laws_toSwapS.f k l1).bind fun t334 => ((impl_ApplySwaps.f k bt324.1 bt324.2.1 bt324.2.2 t334).bind fun bt337 => ((laws_eqCracker.f k bt337.1 bt337.2.1 bt337.2.2.1 bt313.1 bt313.2.1 bt313.2.2.1).bind fun t348 => (if t348 = true then (laws_FnExactApplySwaps.j0 k l1 bt313.2.2.2 t334 bt337.2.2.2 (bt337.2.2.2 != bt313.2.2.2) l0_0 l0_1 l0_2 bt313.1 bt313.2.1 bt313.2.2.1 bt324.1 bt324.2.1 bt324.2.2 bt337.1 bt337.2.1 bt337.2.2.1) else (laws_FnExactApplySwaps.j0 k l1 bt313.2.2.2 t334 bt337.2.2.2 true l0_0 l0_1 l0_2 bt313.1 bt313.2.1 bt313.2.2.1 bt324.1 bt324.2.1 bt324.2.2 bt337.1 bt337.2.1 bt337.2.2.1))))))))))))
theorem laws_FnExactApplySwaps.mono_l : ∀ k, (∀ y0 y1 y2 y3 y4 y5 y6 y7 y8 y9 y10 y11 y12 y13 y14 y15 y16, LeO (laws_FnExactApplySwaps.j0 k y0 y1 y2 y3 y4 y5 y6 y7 y8 y9 y10 y11 y12 y13 y14 y15 y16) (laws_FnExactApplySwaps.j0 (k + 1) y0 y1 y2 y3 y4 y5 y6 y7 y8 y9 y10 y11 y12 y13 y14 y15 y16)) ∧ (∀ y0 y1 y2 y3 y4 y5 y6 y7 y8 y9 y10 y11, LeO (laws_FnExactApplySwaps.j1 k y0 y1 y2 y3 y4 y5 y6 y7 y8 y9 y10 y11) (laws_FnExactApplySwaps.j1 (k + 1) y0 y1 y2 y3 y4 y5 y6 y7 y8 y9 y10 y11)) ∧ (∀ y0 y1 y2 y3 y4, LeO (laws_FnExactApplySwaps.j2 k y0 y1 y2 y3 y4) (laws_FnExactApplySwaps.j2 (k + 1) y0 y1 y2 y3 y4))
 | 0 => ⟨fun _ _ _ _ _ _ _ _ _ _ _ _ _ _ _ _ _ r h => by simp [laws_FnExactApplySwaps.j0] at h, fun _ _ _ _ _ _ _ _ _ _ _ _ r h => by simp [laws_FnExactApplySwaps.j1] at h, fun _ _ _ _ _ r h => by simp [laws_FnExactApplySwaps.j2] at h⟩
 | k + 1 => by
  obtain ⟨ih0, ih1, ih2⟩ := laws_FnExactApplySwaps.mono_l k
  refine ⟨?_, ?_, ?_⟩
  ·intro y0 y1 y2 y3 y4 y5 y6 y7 y8 y9 y10 y11 y12 y13 y14 y15 y16
   unfold laws_FnExactApplySwaps.j0
   repeat' first
   | (with_reducible exact ih0 _ _ _ _ _ _ _ _ _ _ _ _ _ _ _ _ _)
   | (with_reducible exact ih1 _ _ _ _ _ _ _ _ _ _ _ _)
   | (with_reducible exact ih2 _ _ _ _ _)
   | (with_reducible exact impl_ApplySwaps.mono _ _ _ _ _)
   | (with_reducible exact laws_eqCracker.mono _ _ _ _ _ _ _)
   | (with_reducible exact laws_eqSwapS.mono _ _ _)
   | (with_reducible exact laws_heldCracker.mono _ _ _ _ _)
   | (with_reducible exact laws_markCracker.mono _ _ _ _ _)
   | (with_reducible exact laws_markSwapS.mono _ _ _)
   | (with_reducible exact laws_toCracker.mono _ _ _ _)
   | (with_reducible exact laws_toSwapS.mono _ _)
   | (with_reducible exact spec_ApplySwaps.mono _ _ _ _ _)
   | (with_reducible exact LeO.refl _)
   | (with_reducible exact LeO.none _)
   | (with_reducible refine LeO.ite ?_ ?_)
   | (with_reducible refine LeO.bind ?_ (fun _ => ?_))
   | exact ih0 _ _ _ _ _ _ _ _ _ _ _ _ _ _ _ _ _
   | exact ih1 _ _ _ _ _ _ _ _ _ _ _ _
   | exact ih2 _ _ _ _ _
   | exact impl_ApplySwaps.mono _ _ _ _ _
   | exact laws_eqCracker.mono _ _ _ _ _ _ _
   | exact laws_eqSwapS.mono _ _ _
   | exact laws_heldCracker.mono _ _ _ _ _
   | exact laws_markCracker.mono _ _ _ _ _
   | exact laws_markSwapS.mono _ _ _
   | exact laws_toCracker.mono _ _ _ _
   | exact laws_toSwapS.mono _ _
   | exact spec_ApplySwaps.mono _ _ _ _ _
   | exact LeO.none _
   | refine LeO.ite ?_ ?_
   | refine LeO.bind ?_ (fun _ => ?_)
  ·intro y0 y1 y2 y3 y4 y5 y6 y7 y8 y9 y10 y11
   unfold laws_FnExactApplySwaps.j1
   repeat' first
   | (with_reducible exact ih0 _ _ _ _ _ _ _ _ _ _ _ _ _ _ _ _ _)
   | (with_reducible exact ih1 _ _ _ _ _ _ _ _ _ _ _ _)
   | (with_reducible exact ih2 _ _ _ _ _)
   | (with_reducible exact impl_ApplySwaps.mono _ _ _ _ _)
   | (with_reducible exact laws_eqCracker.mono _ _ _ _ _ _ _)
   | (with_reducible exact laws_eqSwapS.mono _ _ _)
   | (with_reducible exact laws_heldCracker.mono _ _ _ _ _)
   | (with_reducible exact laws_markCracker.mono _ _ _ _ _)
   | (with_reducible exact laws_markSwapS.mono _ _ _)
   | (with_reducible exact laws_toCracker.mono _ _ _ _)
   | (with_reducible exact laws_toSwapS.mono _ _)
   | (with_reducible exact spec_ApplySwaps.mono _ _ _ _ _)
   | (with_reducible exact LeO.refl _)
   | (with_reducible exact LeO.none _)
   | (with_reducible refine LeO.ite ?_ ?_)
   | (with_reducible refine LeO.bind ?_ (fun _ => ?_))
   | exact ih0 _ _ _ _ _ _ _ _ _ _ _ _ _ _ _ _ _
   | exact ih1 _ _ _ _ _ _ _ _ _ _ _ _
   | exact ih2 _ _ _ _ _
   | exact impl_ApplySwaps.mono _ _ _ _ _
   | exact laws_eqCracker.mono _ _ _ _ _ _ _
   | exact laws_eqSwapS.mono _ _ _
   | exact laws_heldCracker.mono _ _ _ _ _
   | exact laws_markCracker.mono _ _ _ _ _
   | exact laws_markSwapS.mono _ _ _
   | exact laws_toCracker.mono _ _ _ _
   | exact laws_toSwapS.mono _ _
   | exact spec_ApplySwaps.mono _ _ _ _ _
   | exact LeO.none _
   | refine LeO.ite ?_ ?_
   | refine LeO.bind ?_ (fun _ => ?_)
  ·intro y0 y1 y2 y3 y4
   unfold laws_FnExactApplySwaps.j2
   repeat' first
   | (with_reducible exact ih0 _ _ _ _ _ _ _ _ _ _ _ _ _ _ _ _ _)
   | (with_reducible exact ih1 _ _ _ _ _ _ _ _ _ _ _ _)
   | (with_reducible exact ih2 _ _ _ _ _)
   | (with_reducible exact impl_ApplySwaps.mono _ _ _ _ _)
   | (with_reducible exact laws_eqCracker.mono _ _ _ _ _ _ _)
   | (with_reducible exact laws_eqSwapS.mono _ _ _)
   | (with_reducible exact laws_heldCracker.mono _ _ _ _ _)
   | (with_reducible exact laws_markCracker.mono _ _ _ _ _)
   | (with_reducible exact laws_markSwapS.mono _ _ _)
   | (with_reducible exact laws_toCracker.mono _ _ _ _)
   | (with_reducible exact laws_toSwapS.mono _ _)
   | (with_reducible exact spec_ApplySwaps.mono _ _ _ _ _)
   | (with_reducible exact LeO.refl _)
   | (with_reducible exact LeO.none _)
   | (with_reducible refine LeO.ite ?_ ?_)
   | (with_reducible refine LeO.bind ?_ (fun _ => ?_))
   | exact ih0 _ _ _ _ _ _ _ _ _ _ _ _ _ _ _ _ _
   | exact ih1 _ _ _ _ _ _ _ _ _ _ _ _
   | exact ih2 _ _ _ _ _
   | exact impl_ApplySwaps.mono _ _ _ _ _
   | exact laws_eqCracker.mono _ _ _ _ _ _ _
   | exact laws_eqSwapS.mono _ _ _
   | exact laws_heldCracker.mono _ _ _ _ _
   | exact laws_markCracker.mono _ _ _ _ _
   | exact laws_markSwapS.mono _ _ _
   | exact laws_toCracker.mono _ _ _ _
   | exact laws_toSwapS.mono _ _
   | exact spec_ApplySwaps.mono _ _ _ _ _
   | exact LeO.none _
   | refine LeO.ite ?_ ?_
   | refine LeO.bind ?_ (fun _ => ?_)
theorem laws_FnExactApplySwaps.mono : ∀ a0 a1 a2 a3 k, LeO (laws_FnExactApplySwaps.f k a0 a1 a2 a3) (laws_FnExactApplySwaps.f (k + 1) a0 a1 a2 a3) := by
 intro a0 a1 a2 a3 k
 obtain ⟨ih0,ih1,ih2⟩:= laws_FnExactApplySwaps.mono_l k
 unfold laws_FnExactApplySwaps.f
 repeat' first
  |(with_reducible exact ih0 _ _ _ _ _ _ _ _ _ _ _ _ _ _ _ _ _)
  |(with_reducible exact ih1 _ _ _ _ _ _ _ _ _ _ _ _)
  |(with_reducible exact ih2 _ _ _ _ _)
  |(with_reducible exact impl_ApplySwaps.mono _ _ _ _ _)
  |(with_reducible exact laws_eqCracker.mono _ _ _ _ _ _ _)
  |(with_reducible exact laws_eqSwapS.mono _ _ _)
  |(with_reducible exact laws_heldCracker.mono _ _ _ _ _)
  |(with_reducible exact laws_markCracker.mono _ _ _ _ _)
  |(with_reducible exact laws_markSwapS.mono _ _ _)
  |(with_reducible exact laws_toCracker.mono _ _ _ _)
  |(with_reducible exact laws_toSwapS.mono _ _)
  |(with_reducible exact spec_ApplySwaps.mono _ _ _ _ _)
  |(with_reducible exact LeO.refl _)
  |(with_reducible exact LeO.none _)
  |(with_reducible refine LeO.ite ?_ ?_)
  |(with_reducible refine LeO.bind ?_ (fun _ => ?_))
  |exact ih0 _ _ _ _ _ _ _ _ _ _ _ _ _ _ _ _ _
  |exact ih1 _ _ _ _ _ _ _ _ _ _ _ _
  |exact ih2 _ _ _ _ _
  |exact impl_ApplySwaps.mono _ _ _ _ _
  |exact laws_eqCracker.mono _ _ _ _ _ _ _
  |exact laws_eqSwapS.mono _ _ _
  |exact laws_heldCracker.mono _ _ _ _ _
  |exact laws_markCracker.mono _ _ _ _ _
  |exact laws_markSwapS.mono _ _ _
  |exact laws_toCracker.mono _ _ _ _
  |exact laws_toSwapS.mono _ _
  |exact spec_ApplySwaps.mono _ _ _ _ _
  |exact LeO.none _
  |refine LeO.ite ?_ ?_
  |refine LeO.bind ?_ (fun _ => ?_)
set_option maxHeartbeats 8000000 in
set_option maxRecDepth 100000 in
theorem laws_FnExactApplySwaps.calls (k : Nat) (A0_0 : Option Addr) (c0_0 : Nat) (l0_0 : List Int) (A0_1 : Option Addr) (c0_1 : Nat) (l0_1 : List Int) (A0_2 : Option Addr) (c0_2 : Nat) (l0_2 : List (S76)) (A1 : Option Addr) (c1 : Nat) (l1 : List (S59)) (r : Bool) (w : World) (hr0_0 : Kd.C (Kd.int .i64) w A0_0 l0_0.length l0_0) (hc0_0 : l0_0.length ≤ c0_0) (hr0_1 : Kd.C (Kd.int .i64) w A0_1 l0_1.length l0_1) (hc0_1 : l0_1.length ≤ c0_1) (hr0_2 : Kd.C k76 w A0_2 l0_2.length l0_2) (hc0_2 : l0_2.length ≤ c0_2) (hr1 : Kd.C k59 w A1 l1.length l1) (hc1 : l1.length ≤ c1) (HRT : Aside0 (r = true)) (h : laws_FnExactApplySwaps.f k l0_0 l0_1 l0_2 l1 = some r) :
  Calls Try.prog 3 #[.agg #[.slice A0_0 l0_0.length c0_0, .slice A0_1 l0_1.length c0_1, .slice A0_2 l0_2.length c0_2], .slice A1 l1.length c1] w fun e w' => e = .returned (.bool r) ∧ Below w.heap.size w w' := by
 have hu25:= Try.underlying25
 have hu31:= Try.underlying31
 have HR0_0:= mk hr0_0
 have HC0_0:= mk hc0_0
 clear hr0_0 hc0_0
 have HR0_1:= mk hr0_1
 have HC0_1:= mk hc0_1
 clear hr0_1 hc0_1
 have HR0_2:= mk hr0_2
 have HC0_2:= mk hc0_2
 clear hr0_2 hc0_2
 have HR1:= mk hr1
 have HC1:= mk hc1
 clear hr1 hc1
 have HB:= mk (Below.refl w.heap.size w)
 have H : ((laws_szCracker.f l0_0 l0_1 l0_2 1048576).bind fun t299 => (if t299 < 0 then (some true) else ((laws_szSwapS.f l1 t299).bind fun t300 => (if t300 < 0 then (some true) else ((laws_toCracker.f k l0_0 l0_1 l0_2).bind fun bt301 => ((laws_toSwapS.f k l1).bind fun t310 => ((spec_ApplySwaps.f k bt301.1 bt301.2.1 bt301.2.2 t310).bind fun bt313 => ((laws_toCracker.f k l0_0 l0_1 l0_2).bind fun bt324 => ((laws_toSwapS.f k l1).bind fun t334 => ((impl_ApplySwaps.f k bt324.1 bt324.2.1 bt324.2.2 t334).bind fun bt337 => ((laws_eqCracker.f k bt337.1 bt337.2.1 bt337.2.2.1 bt313.1 bt313.2.1 bt313.2.2.1).bind fun t348 => (if t348 = true then (laws_FnExactApplySwaps.j0 k l1 bt313.2.2.2 t334 bt337.2.2.2 (bt337.2.2.2 != bt313.2.2.2) l0_0 l0_1 l0_2 bt313.1 bt313.2.1 bt313.2.2.1 bt324.1 bt324.2.1 bt324.2.2 bt337.1 bt337.2.1 bt337.2.2.1) else (laws_FnExactApplySwaps.j0 k l1 bt313.2.2.2 t334 bt337.2.2.2 true l0_0 l0_1 l0_2 bt313.1 bt313.2.1 bt313.2.2.1 bt324.1 bt324.2.1 bt324.2.2 bt337.1 bt337.2.1 bt337.2.2.1))))))))))))) = some r:= h
 clear h
 replace H:= Option.bind_eq_some_iff.mp H
 obtain ⟨t299,A30,H⟩:= H
 replace H : (if t299 < 0 then (some true) else ((laws_szSwapS.f l1 t299).bind fun t300 => (if t300 < 0 then (some true) else ((laws_toCracker.f k l0_0 l0_1 l0_2).bind fun bt301 => ((laws_toSwapS.f k l1).bind fun t310 => ((spec_ApplySwaps.f k bt301.1 bt301.2.1 bt301.2.2 t310).bind fun bt313 => ((laws_toCracker.f k l0_0 l0_1 l0_2).bind fun bt324 => ((laws_toSwapS.f k l1).bind fun t334 => ((impl_ApplySwaps.f k bt324.1 bt324.2.1 bt324.2.2 t334).bind fun bt337 => ((laws_eqCracker.f k bt337.1 bt337.2.1 bt337.2.2.1 bt313.1 bt313.2.1 bt313.2.2.1).bind fun t348 => (if t348 = true then (laws_FnExactApplySwaps.j0 k l1 bt313.2.2.2 t334 bt337.2.2.2 (bt337.2.2.2 != bt313.2.2.2) l0_0 l0_1 l0_2 bt313.1 bt313.2.1 bt313.2.2.1 bt324.1 bt324.2.1 bt324.2.2 bt337.1 bt337.2.1 bt337.2.2.1) else (laws_FnExactApplySwaps.j0 k l1 bt313.2.2.2 t334 bt337.2.2.2 true l0_0 l0_1 l0_2 bt313.1 bt313.2.1 bt313.2.2.1 bt324.1 bt324.2.1 bt324.2.2 bt337.1 bt337.2.1 bt337.2.2.1)))))))))))) = some r:= H
 have A3:= mk A30
 clear A30
 by_cases c4 : t299 < 0
 ·rw [if_pos c4] at H
  have c4b0 : decide (t299 < 0) = true:= decide_eq_true c4
  clear c4
  obtain rfl:= Option.some.inj H
  go_enter Try.func3,Try.ntmps3
  go_wp2_with (first|((with_reducible refine gate_dst (N:= 2) rfl ?_);refine box_event ?hg (N:= 2) ?hd (cs:= #[.slice A0_0 l0_0.length c0_0,.slice A0_1 l0_1.length c0_1,.slice A0_2 l0_2.length c0_2]) (t:= 25) ?hr ?_;(case hd => rfl);(case hg => rfl);(case hr => first|(go_simp;done)|(go_simp;rfl));intro gb298 hg w5 hbox hb;have n0_:= mk (below_step (by repeat (first|(with_reducible first|exact HB.out|apply below_alloc|apply pw_below_drewN|apply below_drew1)|exact HB.out)) hb);have n1_:= mk (hbox);have n2_:= mk ((by rw [hg];exact (below_size (by repeat (first|(with_reducible first|exact HB.out|apply below_alloc|apply pw_below_drewN|apply below_drew1)|exact HB.out))) : w.heap.size ≤ gb298));have n3_:= mk ((by rw [hg];exact (below_size (by repeat (first|(with_reducible first|exact HB.out|apply below_alloc|apply pw_below_drewN|apply below_drew1)|exact HB.out))) : w.heap.size ≤ gb298));clear HB;have HB:= n0_;have BK298:= n1_;have GW298:= n2_;have GE298:= n3_;clear n0_ n1_ n2_ n3_;clear hb hbox hg;have hcz6_0 : w5.cell? ⟨gb298,0,none⟩ = some (.slice A0_0 l0_0.length c0_0):= (blk_cell BK298.out 0).trans rfl;have hcz6_1 : w5.cell? ⟨gb298,1,none⟩ = some (.slice A0_1 l0_1.length c0_1):= (blk_cell BK298.out 1).trans rfl;have hcz6_2 : w5.cell? ⟨gb298,2,none⟩ = some (.slice A0_2 l0_2.length c0_2):= (blk_cell BK298.out 2).trans rfl;have hfz6_0:= blk_frozen BK298.out 0;have hfz6_1:= blk_frozen BK298.out 1;have hfz6_2:= blk_frozen BK298.out 2)|((with_reducible refine gate_callee (f:= 6) rfl ?_);refine goesL_ (some 19) rfl rfl Try.func6 (by kernel_rfl) rfl #[.agg #[.slice A0_0 l0_0.length c0_0,.slice A0_1 l0_1.length c0_1,.slice A0_2 l0_2.length c0_2],.int .i64 1048576] rfl (by (try simp only [List.map_toArray,List.map_cons,List.map_nil]);first|done|rfl|(simp only [List.length_drop,List.length_take];rfl)) ?_;(with_reducible refine (laws_szCracker.calls _ _ l0_0 _ _ l0_1 _ _ l0_2 1048576 t299 _ ?side1 ?side2 ?side3 ?side4 ?side5 ?side6 A3.out).mono ?_);(case side1 => exact uc (Kd.C_below HR0_0.out HB.out));(case side2 => exact HC0_0.out);(case side3 => exact uc (Kd.C_below HR0_1.out HB.out));(case side4 => exact HC0_1.out);(case side5 => exact uc (Kd.C_below HR0_2.out HB.out));(case side6 => exact HC0_2.out);rintro e w7 ⟨rfl,hb⟩;refine ⟨_,rfl,?_⟩;have n0_:= mk (blk_below (g:= gb298) (o:= .cells #[.slice A0_0 l0_0.length c0_0,.slice A0_1 l0_1.length c0_1,.slice A0_2 l0_2.length c0_2] 25 (0,0)) (ub BK298.out) hb);have n1_:= mk (below_step (by repeat (first|(with_reducible first|exact HB.out|apply below_alloc|apply pw_below_drewN|apply below_drew1|refine below_set ?_ GE298.out)|exact HB.out)) hb);clear BK298;clear HB;have BK298:= n0_;have HB:= n1_;clear n0_ n1_;(try clear hb);(try clear hb2);(try clear hk);(try clear hi)))
  go_ret
  exact ⟨by first|rfl|(simp [errW_none,errW_some] <;> rfl)|(simp [*,errW_none,errW_some] <;> rfl),by repeat (first|(with_reducible first|exact HB.out|apply below_alloc|apply pw_below_drewN|apply below_drew1|refine below_set ?_ GE298.out)|exact HB.out)⟩
 ·rw [if_neg c4] at H
  have c4b0 : decide (t299 < 0) = false:= decide_eq_false c4
  clear c4
  replace H:= Option.bind_eq_some_iff.mp H
  obtain ⟨t300,A80,H⟩:= H
  replace H : (if t300 < 0 then (some true) else ((laws_toCracker.f k l0_0 l0_1 l0_2).bind fun bt301 => ((laws_toSwapS.f k l1).bind fun t310 => ((spec_ApplySwaps.f k bt301.1 bt301.2.1 bt301.2.2 t310).bind fun bt313 => ((laws_toCracker.f k l0_0 l0_1 l0_2).bind fun bt324 => ((laws_toSwapS.f k l1).bind fun t334 => ((impl_ApplySwaps.f k bt324.1 bt324.2.1 bt324.2.2 t334).bind fun bt337 => ((laws_eqCracker.f k bt337.1 bt337.2.1 bt337.2.2.1 bt313.1 bt313.2.1 bt313.2.2.1).bind fun t348 => (if t348 = true then (laws_FnExactApplySwaps.j0 k l1 bt313.2.2.2 t334 bt337.2.2.2 (bt337.2.2.2 != bt313.2.2.2) l0_0 l0_1 l0_2 bt313.1 bt313.2.1 bt313.2.2.1 bt324.1 bt324.2.1 bt324.2.2 bt337.1 bt337.2.1 bt337.2.2.1) else (laws_FnExactApplySwaps.j0 k l1 bt313.2.2.2 t334 bt337.2.2.2 true l0_0 l0_1 l0_2 bt313.1 bt313.2.1 bt313.2.2.1 bt324.1 bt324.2.1 bt324.2.2 bt337.1 bt337.2.1 bt337.2.2.1)))))))))) = some r:= H
  have A8:= mk A80
  clear A80
  by_cases c9 : t300 < 0
  ·rw [if_pos c9] at H
   have c9b0 : decide (t300 < 0) = true:= decide_eq_true c9
   clear c9
   obtain rfl:= Option.some.inj H
   go_enter Try.func3,Try.ntmps3
   go_wp2_with (first|((with_reducible refine gate_dst (N:= 2) rfl ?_);refine box_event ?hg (N:= 2) ?hd (cs:= #[.slice A0_0 l0_0.length c0_0,.slice A0_1 l0_1.length c0_1,.slice A0_2 l0_2.length c0_2]) (t:= 25) ?hr ?_;(case hd => rfl);(case hg => rfl);(case hr => first|(go_simp;done)|(go_simp;rfl));intro gb298 hg w10 hbox hb;have n0_:= mk (below_step (by repeat (first|(with_reducible first|exact HB.out|apply below_alloc|apply pw_below_drewN|apply below_drew1)|exact HB.out)) hb);have n1_:= mk (hbox);have n2_:= mk ((by rw [hg];exact (below_size (by repeat (first|(with_reducible first|exact HB.out|apply below_alloc|apply pw_below_drewN|apply below_drew1)|exact HB.out))) : w.heap.size ≤ gb298));have n3_:= mk ((by rw [hg];exact (below_size (by repeat (first|(with_reducible first|exact HB.out|apply below_alloc|apply pw_below_drewN|apply below_drew1)|exact HB.out))) : w.heap.size ≤ gb298));clear HB;have HB:= n0_;have BK298:= n1_;have GW298:= n2_;have GE298:= n3_;clear n0_ n1_ n2_ n3_;clear hb hbox hg;have hcz11_0 : w10.cell? ⟨gb298,0,none⟩ = some (.slice A0_0 l0_0.length c0_0):= (blk_cell BK298.out 0).trans rfl;have hcz11_1 : w10.cell? ⟨gb298,1,none⟩ = some (.slice A0_1 l0_1.length c0_1):= (blk_cell BK298.out 1).trans rfl;have hcz11_2 : w10.cell? ⟨gb298,2,none⟩ = some (.slice A0_2 l0_2.length c0_2):= (blk_cell BK298.out 2).trans rfl;have hfz11_0:= blk_frozen BK298.out 0;have hfz11_1:= blk_frozen BK298.out 1;have hfz11_2:= blk_frozen BK298.out 2)|((with_reducible refine gate_callee (f:= 6) rfl ?_);refine goesL_ (some 19) rfl rfl Try.func6 (by kernel_rfl) rfl #[.agg #[.slice A0_0 l0_0.length c0_0,.slice A0_1 l0_1.length c0_1,.slice A0_2 l0_2.length c0_2],.int .i64 1048576] rfl (by (try simp only [List.map_toArray,List.map_cons,List.map_nil]);first|done|rfl|(simp only [List.length_drop,List.length_take];rfl)) ?_;(with_reducible refine (laws_szCracker.calls _ _ l0_0 _ _ l0_1 _ _ l0_2 1048576 t299 _ ?side1 ?side2 ?side3 ?side4 ?side5 ?side6 A3.out).mono ?_);(case side1 => exact uc (Kd.C_below HR0_0.out HB.out));(case side2 => exact HC0_0.out);(case side3 => exact uc (Kd.C_below HR0_1.out HB.out));(case side4 => exact HC0_1.out);(case side5 => exact uc (Kd.C_below HR0_2.out HB.out));(case side6 => exact HC0_2.out);rintro e w12 ⟨rfl,hb⟩;refine ⟨_,rfl,?_⟩;have n0_:= mk (blk_below (g:= gb298) (o:= .cells #[.slice A0_0 l0_0.length c0_0,.slice A0_1 l0_1.length c0_1,.slice A0_2 l0_2.length c0_2] 25 (0,0)) (ub BK298.out) hb);have n1_:= mk (below_step (by repeat (first|(with_reducible first|exact HB.out|apply below_alloc|apply pw_below_drewN|apply below_drew1|refine below_set ?_ GE298.out)|exact HB.out)) hb);clear BK298;clear HB;have BK298:= n0_;have HB:= n1_;clear n0_ n1_;(try clear hb);(try clear hb2);(try clear hk);(try clear hi))|((with_reducible refine gate_callee (f:= 7) rfl ?_);refine goesL_ (some 24) rfl rfl Try.func7 (by kernel_rfl) rfl #[.slice A1 l1.length c1,.int .i64 t299] rfl (by (try simp only [List.map_toArray,List.map_cons,List.map_nil]);first|done|rfl|(simp only [List.length_drop,List.length_take];rfl)) ?_;(with_reducible refine (laws_szSwapS.calls _ _ l1 t299 t300 _ ?side1 ?side2 A8.out).mono ?_);(case side1 => exact uc (Kd.C_below HR1.out HB.out));(case side2 => exact HC1.out);rintro e w' ⟨rfl,⟨nd,rfl⟩⟩;refine ⟨_,rfl,?_⟩))
   go_ret
   exact ⟨by first|rfl|(simp [errW_none,errW_some] <;> rfl)|(simp [*,errW_none,errW_some] <;> rfl),by repeat (first|(with_reducible first|exact HB.out|apply below_alloc|apply pw_below_drewN|apply below_drew1|refine below_set ?_ GE298.out)|exact HB.out)⟩
  ·rw [if_neg c9] at H
   have c9b0 : decide (t300 < 0) = false:= decide_eq_false c9
   clear c9
   replace H:= Option.bind_eq_some_iff.mp H
   obtain ⟨⟨t301,t304,t307⟩,A130,H⟩:= H
   replace H : ((laws_toSwapS.f k l1).bind fun t310 => ((spec_ApplySwaps.f k t301 t304 t307 t310).bind fun bt313 => ((laws_toCracker.f k l0_0 l0_1 l0_2).bind fun bt324 => ((laws_toSwapS.f k l1).bind fun t334 => ((impl_ApplySwaps.f k bt324.1 bt324.2.1 bt324.2.2 t334).bind fun bt337 => ((laws_eqCracker.f k bt337.1 bt337.2.1 bt337.2.2.1 bt313.1 bt313.2.1 bt313.2.2.1).bind fun t348 => (if t348 = true then (laws_FnExactApplySwaps.j0 k l1 bt313.2.2.2 t334 bt337.2.2.2 (bt337.2.2.2 != bt313.2.2.2) l0_0 l0_1 l0_2 bt313.1 bt313.2.1 bt313.2.2.1 bt324.1 bt324.2.1 bt324.2.2 bt337.1 bt337.2.1 bt337.2.2.1) else (laws_FnExactApplySwaps.j0 k l1 bt313.2.2.2 t334 bt337.2.2.2 true l0_0 l0_1 l0_2 bt313.1 bt313.2.1 bt313.2.2.1 bt324.1 bt324.2.1 bt324.2.2 bt337.1 bt337.2.1 bt337.2.2.1)))))))) = some r:= H
   have A13:= mk A130
   clear A130
   replace H:= Option.bind_eq_some_iff.mp H
   obtain ⟨t310,A140,H⟩:= H
   replace H : ((spec_ApplySwaps.f k t301 t304 t307 t310).bind fun bt313 => ((laws_toCracker.f k l0_0 l0_1 l0_2).bind fun bt324 => ((laws_toSwapS.f k l1).bind fun t334 => ((impl_ApplySwaps.f k bt324.1 bt324.2.1 bt324.2.2 t334).bind fun bt337 => ((laws_eqCracker.f k bt337.1 bt337.2.1 bt337.2.2.1 bt313.1 bt313.2.1 bt313.2.2.1).bind fun t348 => (if t348 = true then (laws_FnExactApplySwaps.j0 k l1 bt313.2.2.2 t334 bt337.2.2.2 (bt337.2.2.2 != bt313.2.2.2) l0_0 l0_1 l0_2 bt313.1 bt313.2.1 bt313.2.2.1 bt324.1 bt324.2.1 bt324.2.2 bt337.1 bt337.2.1 bt337.2.2.1) else (laws_FnExactApplySwaps.j0 k l1 bt313.2.2.2 t334 bt337.2.2.2 true l0_0 l0_1 l0_2 bt313.1 bt313.2.1 bt313.2.2.1 bt324.1 bt324.2.1 bt324.2.2 bt337.1 bt337.2.1 bt337.2.2.1))))))) = some r:= H
   have A14:= mk A140
   clear A140
   replace H:= Option.bind_eq_some_iff.mp H
   obtain ⟨⟨t313,t316,t319,t322⟩,A150,H⟩:= H
   replace H : ((laws_toCracker.f k l0_0 l0_1 l0_2).bind fun bt324 => ((laws_toSwapS.f k l1).bind fun t334 => ((impl_ApplySwaps.f k bt324.1 bt324.2.1 bt324.2.2 t334).bind fun bt337 => ((laws_eqCracker.f k bt337.1 bt337.2.1 bt337.2.2.1 t313 t316 t319).bind fun t348 => (if t348 = true then (laws_FnExactApplySwaps.j0 k l1 t322 t334 bt337.2.2.2 (bt337.2.2.2 != t322) l0_0 l0_1 l0_2 t313 t316 t319 bt324.1 bt324.2.1 bt324.2.2 bt337.1 bt337.2.1 bt337.2.2.1) else (laws_FnExactApplySwaps.j0 k l1 t322 t334 bt337.2.2.2 true l0_0 l0_1 l0_2 t313 t316 t319 bt324.1 bt324.2.1 bt324.2.2 bt337.1 bt337.2.1 bt337.2.2.1)))))) = some r:= H
   have A15:= mk A150
   clear A150
   replace H:= Option.bind_eq_some_iff.mp H
   obtain ⟨⟨t324,t327,t330⟩,A160,H⟩:= H
   replace H : ((laws_toSwapS.f k l1).bind fun t334 => ((impl_ApplySwaps.f k t324 t327 t330 t334).bind fun bt337 => ((laws_eqCracker.f k bt337.1 bt337.2.1 bt337.2.2.1 t313 t316 t319).bind fun t348 => (if t348 = true then (laws_FnExactApplySwaps.j0 k l1 t322 t334 bt337.2.2.2 (bt337.2.2.2 != t322) l0_0 l0_1 l0_2 t313 t316 t319 t324 t327 t330 bt337.1 bt337.2.1 bt337.2.2.1) else (laws_FnExactApplySwaps.j0 k l1 t322 t334 bt337.2.2.2 true l0_0 l0_1 l0_2 t313 t316 t319 t324 t327 t330 bt337.1 bt337.2.1 bt337.2.2.1))))) = some r:= H
   have A16:= mk A160
   clear A160
   replace H:= Option.bind_eq_some_iff.mp H
   obtain ⟨t334,A170,H⟩:= H
   replace H : ((impl_ApplySwaps.f k t324 t327 t330 t334).bind fun bt337 => ((laws_eqCracker.f k bt337.1 bt337.2.1 bt337.2.2.1 t313 t316 t319).bind fun t348 => (if t348 = true then (laws_FnExactApplySwaps.j0 k l1 t322 t334 bt337.2.2.2 (bt337.2.2.2 != t322) l0_0 l0_1 l0_2 t313 t316 t319 t324 t327 t330 bt337.1 bt337.2.1 bt337.2.2.1) else (laws_FnExactApplySwaps.j0 k l1 t322 t334 bt337.2.2.2 true l0_0 l0_1 l0_2 t313 t316 t319 t324 t327 t330 bt337.1 bt337.2.1 bt337.2.2.1)))) = some r:= H
   have A17:= mk A170
   clear A170
   replace H:= Option.bind_eq_some_iff.mp H
   obtain ⟨⟨t337,t340,t343,t346⟩,A180,H⟩:= H
   replace H : ((laws_eqCracker.f k t337 t340 t343 t313 t316 t319).bind fun t348 => (if t348 = true then (laws_FnExactApplySwaps.j0 k l1 t322 t334 t346 (t346 != t322) l0_0 l0_1 l0_2 t313 t316 t319 t324 t327 t330 t337 t340 t343) else (laws_FnExactApplySwaps.j0 k l1 t322 t334 t346 true l0_0 l0_1 l0_2 t313 t316 t319 t324 t327 t330 t337 t340 t343))) = some r:= H
   have A18:= mk A180
   clear A180
   have HC19:= mk H
   clear H
   go_enter Try.func3,Try.ntmps3
   go_upto_region 12 with (first|((with_reducible refine gate_dst (N:= 2) rfl ?_);refine box_event ?hg (N:= 2) ?hd (cs:= #[.slice A0_0 l0_0.length c0_0,.slice A0_1 l0_1.length c0_1,.slice A0_2 l0_2.length c0_2]) (t:= 25) ?hr ?_;(case hd => rfl);(case hg => rfl);(case hr => first|(go_simp;done)|(go_simp;rfl));intro gb298 hg w20 hbox hb;have n0_:= mk (below_step (by repeat (first|(with_reducible first|exact HB.out|apply below_alloc|apply pw_below_drewN|apply below_drew1)|exact HB.out)) hb);have n1_:= mk (hbox);have n2_:= mk ((by rw [hg];exact (below_size (by repeat (first|(with_reducible first|exact HB.out|apply below_alloc|apply pw_below_drewN|apply below_drew1)|exact HB.out))) : w.heap.size ≤ gb298));have n3_:= mk ((by rw [hg];exact (below_size (by repeat (first|(with_reducible first|exact HB.out|apply below_alloc|apply pw_below_drewN|apply below_drew1)|exact HB.out))) : w.heap.size ≤ gb298));clear HB;have HB:= n0_;have BK298:= n1_;have GW298:= n2_;have GE298:= n3_;clear n0_ n1_ n2_ n3_;clear hb hbox hg;have hcz21_0 : w20.cell? ⟨gb298,0,none⟩ = some (.slice A0_0 l0_0.length c0_0):= (blk_cell BK298.out 0).trans rfl;have hcz21_1 : w20.cell? ⟨gb298,1,none⟩ = some (.slice A0_1 l0_1.length c0_1):= (blk_cell BK298.out 1).trans rfl;have hcz21_2 : w20.cell? ⟨gb298,2,none⟩ = some (.slice A0_2 l0_2.length c0_2):= (blk_cell BK298.out 2).trans rfl;have hfz21_0:= blk_frozen BK298.out 0;have hfz21_1:= blk_frozen BK298.out 1;have hfz21_2:= blk_frozen BK298.out 2)|((with_reducible refine gate_callee (f:= 6) rfl ?_);refine goesL_ (some 19) rfl rfl Try.func6 (by kernel_rfl) rfl #[.agg #[.slice A0_0 l0_0.length c0_0,.slice A0_1 l0_1.length c0_1,.slice A0_2 l0_2.length c0_2],.int .i64 1048576] rfl (by (try simp only [List.map_toArray,List.map_cons,List.map_nil]);first|done|rfl|(simp only [List.length_drop,List.length_take];rfl)) ?_;(with_reducible refine (laws_szCracker.calls _ _ l0_0 _ _ l0_1 _ _ l0_2 1048576 t299 _ ?side1 ?side2 ?side3 ?side4 ?side5 ?side6 A3.out).mono ?_);(case side1 => exact uc (Kd.C_below HR0_0.out HB.out));(case side2 => exact HC0_0.out);(case side3 => exact uc (Kd.C_below HR0_1.out HB.out));(case side4 => exact HC0_1.out);(case side5 => exact uc (Kd.C_below HR0_2.out HB.out));(case side6 => exact HC0_2.out);rintro e w22 ⟨rfl,hb⟩;refine ⟨_,rfl,?_⟩;have n0_:= mk (blk_below (g:= gb298) (o:= .cells #[.slice A0_0 l0_0.length c0_0,.slice A0_1 l0_1.length c0_1,.slice A0_2 l0_2.length c0_2] 25 (0,0)) (ub BK298.out) hb);have n1_:= mk (below_step (by repeat (first|(with_reducible first|exact HB.out|apply below_alloc|apply pw_below_drewN|apply below_drew1|refine below_set ?_ GE298.out)|exact HB.out)) hb);clear BK298;clear HB;have BK298:= n0_;have HB:= n1_;clear n0_ n1_;(try clear hb);(try clear hb2);(try clear hk);(try clear hi))|((with_reducible refine gate_callee (f:= 7) rfl ?_);refine goesL_ (some 24) rfl rfl Try.func7 (by kernel_rfl) rfl #[.slice A1 l1.length c1,.int .i64 t299] rfl (by (try simp only [List.map_toArray,List.map_cons,List.map_nil]);first|done|rfl|(simp only [List.length_drop,List.length_take];rfl)) ?_;(with_reducible refine (laws_szSwapS.calls _ _ l1 t299 t300 _ ?side1 ?side2 A8.out).mono ?_);(case side1 => exact uc (Kd.C_below HR1.out HB.out));(case side2 => exact HC1.out);rintro e w' ⟨rfl,⟨nd,rfl⟩⟩;refine ⟨_,rfl,?_⟩;(try (rw [drewN_self w22];generalize hq_ : World.drewN w22 _ = w22;have n0_ : Aside0 (w22.heap[gb298]? = some (.cells #[.slice A0_0 l0_0.length c0_0,.slice A0_1 l0_1.length c0_1,.slice A0_2 l0_2.length c0_2] 25 (0,0))):= ⟨by rw [← hq_];exact (ub BK298.out)⟩;have n1_ : Aside0 (Below w.heap.size w w22):= ⟨by rw [← hq_];exact (by repeat (first|(with_reducible first|exact HB.out|apply below_alloc|apply pw_below_drewN|apply below_drew1|refine below_set ?_ GE298.out)|exact HB.out))⟩;clear BK298 HB hq_;have BK298:= n0_;have HB:= n1_;clear n0_ n1_));have hcz23_0 : w22.cell? ⟨gb298,0,none⟩ = some (.slice A0_0 l0_0.length c0_0):= (blk_cell BK298.out 0).trans rfl;have hcz23_1 : w22.cell? ⟨gb298,1,none⟩ = some (.slice A0_1 l0_1.length c0_1):= (blk_cell BK298.out 1).trans rfl;have hcz23_2 : w22.cell? ⟨gb298,2,none⟩ = some (.slice A0_2 l0_2.length c0_2):= (blk_cell BK298.out 2).trans rfl;have hfz23_0:= blk_frozen BK298.out 0;have hfz23_1:= blk_frozen BK298.out 1;have hfz23_2:= blk_frozen BK298.out 2)|((with_reducible refine gate_callee (f:= 9) rfl ?_);refine goesL_ (some 29) rfl rfl Try.func9 (by kernel_rfl) rfl #[.agg #[.slice A0_0 l0_0.length c0_0,.slice A0_1 l0_1.length c0_1,.slice A0_2 l0_2.length c0_2]] rfl (by (try simp only [List.map_toArray,List.map_cons,List.map_nil]);first|done|rfl|(simp only [List.length_drop,List.length_take];rfl)) ?_;(with_reducible refine (laws_toCracker.calls k _ _ l0_0 _ _ l0_1 _ _ l0_2 t301 t304 t307 _ ?side1 ?side2 ?side3 ?side4 ?side5 ?side6 A13.out).mono ?_);(case side1 => exact uc (Kd.C_below HR0_0.out HB.out));(case side2 => exact HC0_0.out);(case side3 => exact uc (Kd.C_below HR0_1.out HB.out));(case side4 => exact HC0_1.out);(case side5 => exact uc (Kd.C_below HR0_2.out HB.out));(case side6 => exact HC0_2.out);rintro e w24 ⟨v302,v305,v308,rfl,ho0,ho1,ho2,hb⟩;refine ⟨_,rfl,?_⟩;have n0_:= mk (Kd.R_lower ho0 (below_size (by repeat (first|(with_reducible first|exact HB.out|apply below_alloc|apply pw_below_drewN|apply below_drew1|refine below_set ?_ GE298.out)|exact HB.out))));have n1_:= mk (Kd.R_lower ho1 (below_size (by repeat (first|(with_reducible first|exact HB.out|apply below_alloc|apply pw_below_drewN|apply below_drew1|refine below_set ?_ GE298.out)|exact HB.out))));have n2_:= mk (Kd.R_lower ho2 (below_size (by repeat (first|(with_reducible first|exact HB.out|apply below_alloc|apply pw_below_drewN|apply below_drew1|refine below_set ?_ GE298.out)|exact HB.out))));have n3_:= mk (blk_below (g:= gb298) (o:= .cells #[.slice A0_0 l0_0.length c0_0,.slice A0_1 l0_1.length c0_1,.slice A0_2 l0_2.length c0_2] 25 (0,0)) (ub BK298.out) hb);have n4_:= mk (below_step (by repeat (first|(with_reducible first|exact HB.out|apply below_alloc|apply pw_below_drewN|apply below_drew1|refine below_set ?_ GE298.out)|exact HB.out)) hb);clear BK298;clear HB;have HO303:= n0_;have HO306:= n1_;have HO309:= n2_;have BK298:= n3_;have HB:= n4_;clear n0_ n1_ n2_ n3_ n4_;(try clear hb);(try clear hb2);(try clear hk);(try clear hi);(try clear ho0);(try clear ho1);(try clear ho2))|((with_reducible refine gate_callee (f:= 10) rfl ?_);refine goesL_ (some 31) rfl rfl Try.func10 (by kernel_rfl) rfl #[.slice A1 l1.length c1] rfl (by (try simp only [List.map_toArray,List.map_cons,List.map_nil]);first|done|rfl|(simp only [List.length_drop,List.length_take];rfl)) ?_;(with_reducible refine (laws_toSwapS.calls k _ _ l1 t310 _ ?side1 ?side2 A14.out).mono ?_);(case side1 => exact uc (Kd.C_below HR1.out HB.out));(case side2 => exact HC1.out);rintro e w25 ⟨v311,rfl,ho0,hb⟩;refine ⟨_,rfl,?_⟩;have n0_:= mk (Kd.R_below (up HO303.out) hb);have n1_:= mk (Kd.R_below (up HO306.out) hb);have n2_:= mk (Kd.R_below (up HO309.out) hb);have n3_:= mk (Kd.R_lower ho0 (below_size (by repeat (first|(with_reducible first|exact HB.out|apply below_alloc|apply pw_below_drewN|apply below_drew1|refine below_set ?_ GE298.out)|exact HB.out))));have n4_:= mk (blk_below (g:= gb298) (o:= .cells #[.slice A0_0 l0_0.length c0_0,.slice A0_1 l0_1.length c0_1,.slice A0_2 l0_2.length c0_2] 25 (0,0)) (ub BK298.out) hb);have n5_:= mk (below_step (by repeat (first|(with_reducible first|exact HB.out|apply below_alloc|apply pw_below_drewN|apply below_drew1|refine below_set ?_ GE298.out)|exact HB.out)) hb);clear HO303;clear HO306;clear HO309;clear BK298;clear HB;have HO303:= n0_;have HO306:= n1_;have HO309:= n2_;have HO312:= n3_;have BK298:= n4_;have HB:= n5_;clear n0_ n1_ n2_ n3_ n4_ n5_;(try clear hb);(try clear hb2);(try clear hk);(try clear hi);(try clear ho0);obtain ⟨Ao26,co26,eo26⟩:= Kd.R_slice HO303.out;subst eo26;obtain ⟨Ao27,co27,eo27⟩:= Kd.R_slice HO306.out;subst eo27;obtain ⟨Ao28,co28,eo28⟩:= Kd.R_slice HO309.out;subst eo28;obtain ⟨Ao29,co29,eo29⟩:= Kd.R_slice HO312.out;subst eo29)|((with_reducible refine gate_callee (f:= 8) rfl ?_);refine goesL_ (some 32) rfl rfl Try.func8 (by kernel_rfl) rfl #[.agg #[.slice Ao26 t301.length co26,.slice Ao27 t304.length co27,.slice Ao28 t307.length co28],.slice Ao29 t310.length co29] rfl (by (try simp only [List.map_toArray,List.map_cons,List.map_nil]);first|done|rfl|(simp only [List.length_drop,List.length_take];rfl)) ?_;(with_reducible refine (spec_ApplySwaps.calls k _ _ t301 _ _ t304 _ _ t307 _ _ t310 t313 t316 t319 t322 _ ?side1 ?side2 ?side3 ?side4 ?side5 ?side6 ?side7 ?side8 A15.out).mono ?_);(case side1 => exact uc (Kd.R_reads' HO303.out).2.2);(case side2 => exact (Kd.R_reads' HO303.out).2.1);(case side3 => exact uc (Kd.R_reads' HO306.out).2.2);(case side4 => exact (Kd.R_reads' HO306.out).2.1);(case side5 => exact uc (Kd.R_reads' HO309.out).2.2);(case side6 => exact (Kd.R_reads' HO309.out).2.1);(case side7 => exact uc (Kd.R_reads' HO312.out).2.2);(case side8 => exact (Kd.R_reads' HO312.out).2.1);rintro e w30 ⟨v314,v317,v320,rfl,ho0,ho1,ho2,hb⟩;refine ⟨_,rfl,?_⟩;have n0_:= mk (Kd.R_mono (Kd.R_told (Kd.R_told (Kd.R_old (up HO303.out) hb) (Kd.R_base ho0)) (Kd.R_base ho1)) (fun _ h_ => h_.1));have n1_:= mk (Kd.R_mono (Kd.R_told (Kd.R_told (Kd.R_old (up HO306.out) hb) (Kd.R_base ho0)) (Kd.R_base ho1)) (fun _ h_ => h_.1));have n2_:= mk (Kd.R_elder' (up HO309.out) (Kd.R_base ho2) hb);have n3_:= mk (Kd.R_below (up HO312.out) hb);have n4_:= mk (Kd.R_lower (Kd.R_new' (Kd.R_new' ho0 (Kd.R_lt (up HO303.out))) (Kd.R_lt (up HO306.out))) (below_size (by repeat (first|(with_reducible first|exact HB.out|apply below_alloc|apply pw_below_drewN|apply below_drew1|refine below_set ?_ GE298.out)|exact HB.out))));have n5_:= mk (Kd.R_lower (Kd.R_new' (Kd.R_new' ho1 (Kd.R_lt (up HO303.out))) (Kd.R_lt (up HO306.out))) (below_size (by repeat (first|(with_reducible first|exact HB.out|apply below_alloc|apply pw_below_drewN|apply below_drew1|refine below_set ?_ GE298.out)|exact HB.out))));have n6_:= mk (Kd.R_lower (Kd.R_new' ho2 (Kd.R_lt (up HO309.out))) (below_size (by repeat (first|(with_reducible first|exact HB.out|apply below_alloc|apply pw_below_drewN|apply below_drew1|refine below_set ?_ GE298.out)|exact HB.out))));have n7_:= mk (blk_below (g:= gb298) (o:= .cells #[.slice A0_0 l0_0.length c0_0,.slice A0_1 l0_1.length c0_1,.slice A0_2 l0_2.length c0_2] 25 (0,0)) (ub BK298.out) hb);have n8_:= mk (below_step (by repeat (first|(with_reducible first|exact HB.out|apply below_alloc|apply pw_below_drewN|apply below_drew1|refine below_set ?_ GE298.out)|exact HB.out)) hb);clear HO303;clear HO306;clear HO309;clear HO312;clear BK298;clear HB;have HO303:= n0_;have HO306:= n1_;have HO309:= n2_;have HO312:= n3_;have HO315:= n4_;have HO318:= n5_;have HO321:= n6_;have BK298:= n7_;have HB:= n8_;clear n0_ n1_ n2_ n3_ n4_ n5_ n6_ n7_ n8_;(try clear hb);(try clear hb2);(try clear hk);(try clear hi);(try clear ho0);(try clear ho1);(try clear ho2))|((with_reducible refine gate_dst (N:= 6) rfl ?_);refine box_event ?hg (N:= 6) ?hd (cs:= #[.slice none 0 0,.slice none 0 0,.slice none 0 0]) (t:= 31) ?hr ?_;(case hd => rfl);(case hg => rfl);(case hr => first|(go_simp;done)|(go_simp;rfl));intro gb323 hg w31 hbox hb;have n0_:= mk (Kd.R_below (up HO303.out) hb);have n1_:= mk (Kd.R_below (up HO306.out) hb);have n2_:= mk (Kd.R_below (up HO309.out) hb);have n3_:= mk (Kd.R_below (up HO312.out) hb);have n4_:= mk (Kd.R_below (up HO315.out) hb);have n5_:= mk (Kd.R_below (up HO318.out) hb);have n6_:= mk (Kd.R_below (up HO321.out) hb);have n7_:= mk (blk_below (g:= gb298) (o:= .cells #[.slice A0_0 l0_0.length c0_0,.slice A0_1 l0_1.length c0_1,.slice A0_2 l0_2.length c0_2] 25 (0,0)) (ub BK298.out) hb);have n8_:= mk (below_step (by repeat (first|(with_reducible first|exact HB.out|apply below_alloc|apply pw_below_drewN|apply below_drew1|refine below_set ?_ GE298.out)|exact HB.out)) hb);have n9_:= mk (hbox);have n10_:= mk ((by rw [hg];exact (below_size (by repeat (first|(with_reducible first|exact HB.out|apply below_alloc|apply pw_below_drewN|apply below_drew1|refine below_set ?_ GE298.out)|exact HB.out))) : w.heap.size ≤ gb323));have n11_:= mk ((by rw [hg];exact (below_size (by repeat (first|(with_reducible first|exact HB.out|apply below_alloc|apply pw_below_drewN|apply below_drew1|refine below_set ?_ GE298.out)|exact HB.out))) : w.heap.size ≤ gb323));have n12_:= mk ((by rw [hg];exact Nat.ne_of_lt (blk_lt (g:= gb298) (o:= .cells #[.slice A0_0 l0_0.length c0_0,.slice A0_1 l0_1.length c0_1,.slice A0_2 l0_2.length c0_2] 25 (0,0)) (ub BK298.out)) : gb298 ≠ gb323));have n13_:= mk ((by rw [hg];exact Nat.ne_of_gt (blk_lt (g:= gb298) (o:= .cells #[.slice A0_0 l0_0.length c0_0,.slice A0_1 l0_1.length c0_1,.slice A0_2 l0_2.length c0_2] 25 (0,0)) (ub BK298.out)) : gb323 ≠ gb298));clear HO303;clear HO306;clear HO309;clear HO312;clear HO315;clear HO318;clear HO321;clear BK298;clear HB;have HO303:= n0_;have HO306:= n1_;have HO309:= n2_;have HO312:= n3_;have HO315:= n4_;have HO318:= n5_;have HO321:= n6_;have BK298:= n7_;have HB:= n8_;have BK323:= n9_;have GW323:= n10_;have GE323:= n11_;have NB298_323:= n12_;have NB323_298:= n13_;clear n0_ n1_ n2_ n3_ n4_ n5_ n6_ n7_ n8_ n9_ n10_ n11_ n12_ n13_;clear hb hbox hg;obtain ⟨Ao32,co32,eo32⟩:= Kd.R_slice HO315.out;subst eo32;have hnb33:= NB323_298.out;have hnc33:= NB298_323.out;have hcz34_0 : w31.cell? ⟨gb323,0,none⟩ = some (.slice none 0 0):= (blk_cell BK323.out 0).trans rfl;have hcz34_1 : w31.cell? ⟨gb323,1,none⟩ = some (.slice none 0 0):= (blk_cell BK323.out 1).trans rfl;have hcz34_2 : w31.cell? ⟨gb323,2,none⟩ = some (.slice none 0 0):= (blk_cell BK323.out 2).trans rfl;have hfz34_0:= blk_frozen BK323.out 0;have hfz34_1:= blk_frozen BK323.out 1;have hfz34_2:= blk_frozen BK323.out 2;obtain ⟨Ao35,co35,eo35⟩:= Kd.R_slice HO318.out;subst eo35;obtain ⟨Ao36,co36,eo36⟩:= Kd.R_slice HO321.out;subst eo36;have hcz37_0 : w31.cell? ⟨gb298,0,none⟩ = some (.slice A0_0 l0_0.length c0_0):= (blk_cell BK298.out 0).trans rfl;have hcz37_1 : w31.cell? ⟨gb298,1,none⟩ = some (.slice A0_1 l0_1.length c0_1):= (blk_cell BK298.out 1).trans rfl;have hcz37_2 : w31.cell? ⟨gb298,2,none⟩ = some (.slice A0_2 l0_2.length c0_2):= (blk_cell BK298.out 2).trans rfl;have hfz37_0:= blk_frozen BK298.out 0;have hfz37_1:= blk_frozen BK298.out 1;have hfz37_2:= blk_frozen BK298.out 2)|((with_reducible refine gate_callee (f:= 9) rfl ?_);refine goesL_ (some 36) rfl rfl Try.func9 (by kernel_rfl) rfl #[.agg #[.slice A0_0 l0_0.length c0_0,.slice A0_1 l0_1.length c0_1,.slice A0_2 l0_2.length c0_2]] rfl (by (try simp only [List.map_toArray,List.map_cons,List.map_nil]);first|done|rfl|(simp only [List.length_drop,List.length_take];rfl)) ?_;(with_reducible refine (laws_toCracker.calls k _ _ l0_0 _ _ l0_1 _ _ l0_2 t324 t327 t330 _ ?side1 ?side2 ?side3 ?side4 ?side5 ?side6 A16.out).mono ?_);(case side1 => exact Kd.C_below HR0_0.out (by repeat (first|(with_reducible first|exact HB.out|apply below_alloc|apply pw_below_drewN|apply below_drew1|refine below_set ?_ GE298.out|refine below_set ?_ GE323.out)|exact HB.out)));(case side2 => exact HC0_0.out);(case side3 => exact Kd.C_below HR0_1.out (by repeat (first|(with_reducible first|exact HB.out|apply below_alloc|apply pw_below_drewN|apply below_drew1|refine below_set ?_ GE298.out|refine below_set ?_ GE323.out)|exact HB.out)));(case side4 => exact HC0_1.out);(case side5 => exact Kd.C_below HR0_2.out (by repeat (first|(with_reducible first|exact HB.out|apply below_alloc|apply pw_below_drewN|apply below_drew1|refine below_set ?_ GE298.out|refine below_set ?_ GE323.out)|exact HB.out)));(case side6 => exact HC0_2.out);rintro e w38 ⟨v325,v328,v331,rfl,ho0,ho1,ho2,hb⟩;refine ⟨_,rfl,?_⟩;have n0_:= mk (Kd.R_mono (Kd.R_told (Kd.R_told (Kd.R_old (by exact up ((Kd.R_mono (Kd.R_far (p:= ⟨gb323,2,none⟩) (Kd.R_far (p:= ⟨gb323,1,none⟩) (Kd.R_far (p:= ⟨gb323,0,none⟩) (Kd.R_types HO303.out BK323.out (by decide)) (fun _ hk => hk.2) (.slice Ao32 t313.length co32)) (fun _ hk => hk.2) (.slice Ao35 t316.length co35)) (fun _ hk => hk.2) (.slice Ao36 t319.length co36)) (fun _ h_ => h_.1)))) hb) (Kd.R_base ho0)) (Kd.R_base ho1)) (fun _ h_ => h_.1));have n1_:= mk (Kd.R_mono (Kd.R_told (Kd.R_told (Kd.R_old (by exact up ((Kd.R_mono (Kd.R_far (p:= ⟨gb323,2,none⟩) (Kd.R_far (p:= ⟨gb323,1,none⟩) (Kd.R_far (p:= ⟨gb323,0,none⟩) (Kd.R_types HO306.out BK323.out (by decide)) (fun _ hk => hk.2) (.slice Ao32 t313.length co32)) (fun _ hk => hk.2) (.slice Ao35 t316.length co35)) (fun _ hk => hk.2) (.slice Ao36 t319.length co36)) (fun _ h_ => h_.1)))) hb) (Kd.R_base ho0)) (Kd.R_base ho1)) (fun _ h_ => h_.1));have n2_:= mk (Kd.R_elder' (by exact up ((Kd.R_mono (Kd.R_far (p:= ⟨gb323,2,none⟩) (Kd.R_far (p:= ⟨gb323,1,none⟩) (Kd.R_far (p:= ⟨gb323,0,none⟩) (Kd.R_types HO309.out BK323.out (by decide)) (fun _ hk => hk.2) (.slice Ao32 t313.length co32)) (fun _ hk => hk.2) (.slice Ao35 t316.length co35)) (fun _ hk => hk.2) (.slice Ao36 t319.length co36)) (fun _ h_ => h_.1)))) (Kd.R_base ho2) hb);have n3_:= mk (Kd.R_below (by exact up ((Kd.R_mono (Kd.R_far (p:= ⟨gb323,2,none⟩) (Kd.R_far (p:= ⟨gb323,1,none⟩) (Kd.R_far (p:= ⟨gb323,0,none⟩) (Kd.R_types HO312.out BK323.out (by decide)) (fun _ hk => hk.2) (.slice Ao32 t313.length co32)) (fun _ hk => hk.2) (.slice Ao35 t316.length co35)) (fun _ hk => hk.2) (.slice Ao36 t319.length co36)) (fun _ h_ => h_.1)))) hb);have n4_:= mk (Kd.R_mono (Kd.R_told (Kd.R_told (Kd.R_old (by exact up ((Kd.R_mono (Kd.R_far (p:= ⟨gb323,2,none⟩) (Kd.R_far (p:= ⟨gb323,1,none⟩) (Kd.R_far (p:= ⟨gb323,0,none⟩) (Kd.R_types HO315.out BK323.out (by decide)) (fun _ hk => hk.2) (.slice Ao32 t313.length co32)) (fun _ hk => hk.2) (.slice Ao35 t316.length co35)) (fun _ hk => hk.2) (.slice Ao36 t319.length co36)) (fun _ h_ => h_.1)))) hb) (Kd.R_base ho0)) (Kd.R_base ho1)) (fun _ h_ => h_.1));have n5_:= mk (Kd.R_mono (Kd.R_told (Kd.R_told (Kd.R_old (by exact up ((Kd.R_mono (Kd.R_far (p:= ⟨gb323,2,none⟩) (Kd.R_far (p:= ⟨gb323,1,none⟩) (Kd.R_far (p:= ⟨gb323,0,none⟩) (Kd.R_types HO318.out BK323.out (by decide)) (fun _ hk => hk.2) (.slice Ao32 t313.length co32)) (fun _ hk => hk.2) (.slice Ao35 t316.length co35)) (fun _ hk => hk.2) (.slice Ao36 t319.length co36)) (fun _ h_ => h_.1)))) hb) (Kd.R_base ho0)) (Kd.R_base ho1)) (fun _ h_ => h_.1));have n6_:= mk (Kd.R_elder' (by exact up ((Kd.R_mono (Kd.R_far (p:= ⟨gb323,2,none⟩) (Kd.R_far (p:= ⟨gb323,1,none⟩) (Kd.R_far (p:= ⟨gb323,0,none⟩) (Kd.R_types HO321.out BK323.out (by decide)) (fun _ hk => hk.2) (.slice Ao32 t313.length co32)) (fun _ hk => hk.2) (.slice Ao35 t316.length co35)) (fun _ hk => hk.2) (.slice Ao36 t319.length co36)) (fun _ h_ => h_.1)))) (Kd.R_base ho2) hb);have n7_:= mk (Kd.R_lower (Kd.R_new' (Kd.R_new' (Kd.R_new' (Kd.R_new' ho0 (Kd.R_lt (by exact up ((Kd.R_mono (Kd.R_far (p:= ⟨gb323,2,none⟩) (Kd.R_far (p:= ⟨gb323,1,none⟩) (Kd.R_far (p:= ⟨gb323,0,none⟩) (Kd.R_types HO303.out BK323.out (by decide)) (fun _ hk => hk.2) (.slice Ao32 t313.length co32)) (fun _ hk => hk.2) (.slice Ao35 t316.length co35)) (fun _ hk => hk.2) (.slice Ao36 t319.length co36)) (fun _ h_ => h_.1)))))) (Kd.R_lt (by exact up ((Kd.R_mono (Kd.R_far (p:= ⟨gb323,2,none⟩) (Kd.R_far (p:= ⟨gb323,1,none⟩) (Kd.R_far (p:= ⟨gb323,0,none⟩) (Kd.R_types HO306.out BK323.out (by decide)) (fun _ hk => hk.2) (.slice Ao32 t313.length co32)) (fun _ hk => hk.2) (.slice Ao35 t316.length co35)) (fun _ hk => hk.2) (.slice Ao36 t319.length co36)) (fun _ h_ => h_.1)))))) (Kd.R_lt (by exact up ((Kd.R_mono (Kd.R_far (p:= ⟨gb323,2,none⟩) (Kd.R_far (p:= ⟨gb323,1,none⟩) (Kd.R_far (p:= ⟨gb323,0,none⟩) (Kd.R_types HO315.out BK323.out (by decide)) (fun _ hk => hk.2) (.slice Ao32 t313.length co32)) (fun _ hk => hk.2) (.slice Ao35 t316.length co35)) (fun _ hk => hk.2) (.slice Ao36 t319.length co36)) (fun _ h_ => h_.1)))))) (Kd.R_lt (by exact up ((Kd.R_mono (Kd.R_far (p:= ⟨gb323,2,none⟩) (Kd.R_far (p:= ⟨gb323,1,none⟩) (Kd.R_far (p:= ⟨gb323,0,none⟩) (Kd.R_types HO318.out BK323.out (by decide)) (fun _ hk => hk.2) (.slice Ao32 t313.length co32)) (fun _ hk => hk.2) (.slice Ao35 t316.length co35)) (fun _ hk => hk.2) (.slice Ao36 t319.length co36)) (fun _ h_ => h_.1)))))) (below_size (by repeat (first|(with_reducible first|exact HB.out|apply below_alloc|apply pw_below_drewN|apply below_drew1|refine below_set ?_ GE298.out|refine below_set ?_ GE323.out)|exact HB.out))));have n8_:= mk (Kd.R_lower (Kd.R_new' (Kd.R_new' (Kd.R_new' (Kd.R_new' ho1 (Kd.R_lt (by exact up ((Kd.R_mono (Kd.R_far (p:= ⟨gb323,2,none⟩) (Kd.R_far (p:= ⟨gb323,1,none⟩) (Kd.R_far (p:= ⟨gb323,0,none⟩) (Kd.R_types HO303.out BK323.out (by decide)) (fun _ hk => hk.2) (.slice Ao32 t313.length co32)) (fun _ hk => hk.2) (.slice Ao35 t316.length co35)) (fun _ hk => hk.2) (.slice Ao36 t319.length co36)) (fun _ h_ => h_.1)))))) (Kd.R_lt (by exact up ((Kd.R_mono (Kd.R_far (p:= ⟨gb323,2,none⟩) (Kd.R_far (p:= ⟨gb323,1,none⟩) (Kd.R_far (p:= ⟨gb323,0,none⟩) (Kd.R_types HO306.out BK323.out (by decide)) (fun _ hk => hk.2) (.slice Ao32 t313.length co32)) (fun _ hk => hk.2) (.slice Ao35 t316.length co35)) (fun _ hk => hk.2) (.slice Ao36 t319.length co36)) (fun _ h_ => h_.1)))))) (Kd.R_lt (by exact up ((Kd.R_mono (Kd.R_far (p:= ⟨gb323,2,none⟩) (Kd.R_far (p:= ⟨gb323,1,none⟩) (Kd.R_far (p:= ⟨gb323,0,none⟩) (Kd.R_types HO315.out BK323.out (by decide)) (fun _ hk => hk.2) (.slice Ao32 t313.length co32)) (fun _ hk => hk.2) (.slice Ao35 t316.length co35)) (fun _ hk => hk.2) (.slice Ao36 t319.length co36)) (fun _ h_ => h_.1)))))) (Kd.R_lt (by exact up ((Kd.R_mono (Kd.R_far (p:= ⟨gb323,2,none⟩) (Kd.R_far (p:= ⟨gb323,1,none⟩) (Kd.R_far (p:= ⟨gb323,0,none⟩) (Kd.R_types HO318.out BK323.out (by decide)) (fun _ hk => hk.2) (.slice Ao32 t313.length co32)) (fun _ hk => hk.2) (.slice Ao35 t316.length co35)) (fun _ hk => hk.2) (.slice Ao36 t319.length co36)) (fun _ h_ => h_.1)))))) (below_size (by repeat (first|(with_reducible first|exact HB.out|apply below_alloc|apply pw_below_drewN|apply below_drew1|refine below_set ?_ GE298.out|refine below_set ?_ GE323.out)|exact HB.out))));have n9_:= mk (Kd.R_lower (Kd.R_new' (Kd.R_new' ho2 (Kd.R_lt (by exact up ((Kd.R_mono (Kd.R_far (p:= ⟨gb323,2,none⟩) (Kd.R_far (p:= ⟨gb323,1,none⟩) (Kd.R_far (p:= ⟨gb323,0,none⟩) (Kd.R_types HO309.out BK323.out (by decide)) (fun _ hk => hk.2) (.slice Ao32 t313.length co32)) (fun _ hk => hk.2) (.slice Ao35 t316.length co35)) (fun _ hk => hk.2) (.slice Ao36 t319.length co36)) (fun _ h_ => h_.1)))))) (Kd.R_lt (by exact up ((Kd.R_mono (Kd.R_far (p:= ⟨gb323,2,none⟩) (Kd.R_far (p:= ⟨gb323,1,none⟩) (Kd.R_far (p:= ⟨gb323,0,none⟩) (Kd.R_types HO321.out BK323.out (by decide)) (fun _ hk => hk.2) (.slice Ao32 t313.length co32)) (fun _ hk => hk.2) (.slice Ao35 t316.length co35)) (fun _ hk => hk.2) (.slice Ao36 t319.length co36)) (fun _ h_ => h_.1)))))) (below_size (by repeat (first|(with_reducible first|exact HB.out|apply below_alloc|apply pw_below_drewN|apply below_drew1|refine below_set ?_ GE298.out|refine below_set ?_ GE323.out)|exact HB.out))));have n10_:= mk (blk_below (g:= gb298) (o:= .cells #[.slice A0_0 l0_0.length c0_0,.slice A0_1 l0_1.length c0_1,.slice A0_2 l0_2.length c0_2] 25 (0,0)) (by (with_reducible repeat (first|refine blk_drewN ?_ _|refine blk_drew ?_|refine blk_alloc ?_ _));refine blk_far ?_ NB298_323.out _;(with_reducible repeat (first|refine blk_drewN ?_ _|refine blk_drew ?_|refine blk_alloc ?_ _));refine blk_far ?_ NB298_323.out _;(with_reducible repeat (first|refine blk_drewN ?_ _|refine blk_drew ?_|refine blk_alloc ?_ _));refine blk_far ?_ NB298_323.out _;(with_reducible repeat (first|refine blk_drewN ?_ _|refine blk_drew ?_|refine blk_alloc ?_ _));exact BK298.out) hb);have n11_:= mk (blk_below (g:= gb323) (o:= .cells #[.slice Ao32 t313.length co32,.slice Ao35 t316.length co35,.slice Ao36 t319.length co36] 31 (0,0)) (by (with_reducible repeat (first|refine blk_drewN ?_ _|refine blk_drew ?_|refine blk_alloc ?_ _));refine blk_put (cs:= #[.slice Ao32 t313.length co32,.slice Ao35 t316.length co35,.slice none 0 0]) ?_ 2 _ rfl;(with_reducible repeat (first|refine blk_drewN ?_ _|refine blk_drew ?_|refine blk_alloc ?_ _));refine blk_put (cs:= #[.slice Ao32 t313.length co32,.slice none 0 0,.slice none 0 0]) ?_ 1 _ rfl;(with_reducible repeat (first|refine blk_drewN ?_ _|refine blk_drew ?_|refine blk_alloc ?_ _));refine blk_put (cs:= #[.slice none 0 0,.slice none 0 0,.slice none 0 0]) ?_ 0 _ rfl;(with_reducible repeat (first|refine blk_drewN ?_ _|refine blk_drew ?_|refine blk_alloc ?_ _));exact BK323.out) hb);have n12_:= mk (below_step (by repeat (first|(with_reducible first|exact HB.out|apply below_alloc|apply pw_below_drewN|apply below_drew1|refine below_set ?_ GE298.out|refine below_set ?_ GE323.out)|exact HB.out)) hb);clear HO303;clear HO306;clear HO309;clear HO312;clear HO315;clear HO318;clear HO321;clear BK298;clear BK323;clear HB;have HO303:= n0_;have HO306:= n1_;have HO309:= n2_;have HO312:= n3_;have HO315:= n4_;have HO318:= n5_;have HO321:= n6_;have HO326:= n7_;have HO329:= n8_;have HO332:= n9_;have BK298:= n10_;have BK323:= n11_;have HB:= n12_;clear n0_ n1_ n2_ n3_ n4_ n5_ n6_ n7_ n8_ n9_ n10_ n11_ n12_;(try clear hb);(try clear hb2);(try clear hk);(try clear hi);(try clear ho0);(try clear ho1);(try clear ho2))|((with_reducible refine gate_dst (N:= 8) rfl ?_);refine box_event ?hg (N:= 8) ?hd (cs:= #[.slice none 0 0,.slice none 0 0,.slice none 0 0]) (t:= 31) ?hr ?_;(case hd => rfl);(case hg => rfl);(case hr => first|(go_simp;done)|(go_simp;rfl));intro gb333 hg w39 hbox hb;have n0_:= mk (Kd.R_below (up HO303.out) hb);have n1_:= mk (Kd.R_below (up HO306.out) hb);have n2_:= mk (Kd.R_below (up HO309.out) hb);have n3_:= mk (Kd.R_below (up HO312.out) hb);have n4_:= mk (Kd.R_below (up HO315.out) hb);have n5_:= mk (Kd.R_below (up HO318.out) hb);have n6_:= mk (Kd.R_below (up HO321.out) hb);have n7_:= mk (Kd.R_below (up HO326.out) hb);have n8_:= mk (Kd.R_below (up HO329.out) hb);have n9_:= mk (Kd.R_below (up HO332.out) hb);have n10_:= mk (blk_below (g:= gb298) (o:= .cells #[.slice A0_0 l0_0.length c0_0,.slice A0_1 l0_1.length c0_1,.slice A0_2 l0_2.length c0_2] 25 (0,0)) (ub BK298.out) hb);have n11_:= mk (blk_below (g:= gb323) (o:= .cells #[.slice Ao32 t313.length co32,.slice Ao35 t316.length co35,.slice Ao36 t319.length co36] 31 (0,0)) (ub BK323.out) hb);have n12_:= mk (below_step (by repeat (first|(with_reducible first|exact HB.out|apply below_alloc|apply pw_below_drewN|apply below_drew1|refine below_set ?_ GE298.out|refine below_set ?_ GE323.out)|exact HB.out)) hb);have n13_:= mk (hbox);have n14_:= mk ((by rw [hg];exact (below_size (by repeat (first|(with_reducible first|exact HB.out|apply below_alloc|apply pw_below_drewN|apply below_drew1|refine below_set ?_ GE298.out|refine below_set ?_ GE323.out)|exact HB.out))) : w.heap.size ≤ gb333));have n15_:= mk ((by rw [hg];exact (below_size (by repeat (first|(with_reducible first|exact HB.out|apply below_alloc|apply pw_below_drewN|apply below_drew1|refine below_set ?_ GE298.out|refine below_set ?_ GE323.out)|exact HB.out))) : w.heap.size ≤ gb333));have n16_:= mk ((by rw [hg];exact Nat.ne_of_lt (blk_lt (g:= gb298) (o:= .cells #[.slice A0_0 l0_0.length c0_0,.slice A0_1 l0_1.length c0_1,.slice A0_2 l0_2.length c0_2] 25 (0,0)) (ub BK298.out)) : gb298 ≠ gb333));have n17_:= mk ((by rw [hg];exact Nat.ne_of_gt (blk_lt (g:= gb298) (o:= .cells #[.slice A0_0 l0_0.length c0_0,.slice A0_1 l0_1.length c0_1,.slice A0_2 l0_2.length c0_2] 25 (0,0)) (ub BK298.out)) : gb333 ≠ gb298));have n18_:= mk ((by rw [hg];exact Nat.ne_of_lt (blk_lt (g:= gb323) (o:= .cells #[.slice Ao32 t313.length co32,.slice Ao35 t316.length co35,.slice Ao36 t319.length co36] 31 (0,0)) (ub BK323.out)) : gb323 ≠ gb333));have n19_:= mk ((by rw [hg];exact Nat.ne_of_gt (blk_lt (g:= gb323) (o:= .cells #[.slice Ao32 t313.length co32,.slice Ao35 t316.length co35,.slice Ao36 t319.length co36] 31 (0,0)) (ub BK323.out)) : gb333 ≠ gb323));clear HO303;clear HO306;clear HO309;clear HO312;clear HO315;clear HO318;clear HO321;clear HO326;clear HO329;clear HO332;clear BK298;clear BK323;clear HB;have HO303:= n0_;have HO306:= n1_;have HO309:= n2_;have HO312:= n3_;have HO315:= n4_;have HO318:= n5_;have HO321:= n6_;have HO326:= n7_;have HO329:= n8_;have HO332:= n9_;have BK298:= n10_;have BK323:= n11_;have HB:= n12_;have BK333:= n13_;have GW333:= n14_;have GE333:= n15_;have NB298_333:= n16_;have NB333_298:= n17_;have NB323_333:= n18_;have NB333_323:= n19_;clear n0_ n1_ n2_ n3_ n4_ n5_ n6_ n7_ n8_ n9_ n10_ n11_ n12_ n13_ n14_ n15_ n16_ n17_ n18_ n19_;clear hb hbox hg;obtain ⟨Ao40,co40,eo40⟩:= Kd.R_slice HO326.out;subst eo40;have hnb41:= NB333_298.out;have hnc41:= NB298_333.out;have hnb42:= NB333_323.out;have hnc42:= NB323_333.out;have hcz43_0 : w39.cell? ⟨gb333,0,none⟩ = some (.slice none 0 0):= (blk_cell BK333.out 0).trans rfl;have hcz43_1 : w39.cell? ⟨gb333,1,none⟩ = some (.slice none 0 0):= (blk_cell BK333.out 1).trans rfl;have hcz43_2 : w39.cell? ⟨gb333,2,none⟩ = some (.slice none 0 0):= (blk_cell BK333.out 2).trans rfl;have hfz43_0:= blk_frozen BK333.out 0;have hfz43_1:= blk_frozen BK333.out 1;have hfz43_2:= blk_frozen BK333.out 2;obtain ⟨Ao44,co44,eo44⟩:= Kd.R_slice HO329.out;subst eo44;obtain ⟨Ao45,co45,eo45⟩:= Kd.R_slice HO332.out;subst eo45)|((with_reducible refine gate_callee (f:= 10) rfl ?_);refine goesL_ (some 38) rfl rfl Try.func10 (by kernel_rfl) rfl #[.slice A1 l1.length c1] rfl (by (try simp only [List.map_toArray,List.map_cons,List.map_nil]);first|done|rfl|(simp only [List.length_drop,List.length_take];rfl)) ?_;(with_reducible refine (laws_toSwapS.calls k _ _ l1 t334 _ ?side1 ?side2 A17.out).mono ?_);(case side1 => exact Kd.C_below HR1.out (by repeat (first|(with_reducible first|exact HB.out|apply below_alloc|apply pw_below_drewN|apply below_drew1|refine below_set ?_ GE298.out|refine below_set ?_ GE323.out|refine below_set ?_ GE333.out)|exact HB.out)));(case side2 => exact HC1.out);rintro e w46 ⟨v335,rfl,ho0,hb⟩;refine ⟨_,rfl,?_⟩;have n0_:= mk (Kd.R_below (by exact up ((Kd.R_mono (Kd.R_far (p:= ⟨gb333,2,none⟩) (Kd.R_far (p:= ⟨gb333,1,none⟩) (Kd.R_far (p:= ⟨gb333,0,none⟩) (Kd.R_types HO303.out BK333.out (by decide)) (fun _ hk => hk.2) (.slice Ao40 t324.length co40)) (fun _ hk => hk.2) (.slice Ao44 t327.length co44)) (fun _ hk => hk.2) (.slice Ao45 t330.length co45)) (fun _ h_ => h_.1)))) hb);have n1_:= mk (Kd.R_below (by exact up ((Kd.R_mono (Kd.R_far (p:= ⟨gb333,2,none⟩) (Kd.R_far (p:= ⟨gb333,1,none⟩) (Kd.R_far (p:= ⟨gb333,0,none⟩) (Kd.R_types HO306.out BK333.out (by decide)) (fun _ hk => hk.2) (.slice Ao40 t324.length co40)) (fun _ hk => hk.2) (.slice Ao44 t327.length co44)) (fun _ hk => hk.2) (.slice Ao45 t330.length co45)) (fun _ h_ => h_.1)))) hb);have n2_:= mk (Kd.R_below (by exact up ((Kd.R_mono (Kd.R_far (p:= ⟨gb333,2,none⟩) (Kd.R_far (p:= ⟨gb333,1,none⟩) (Kd.R_far (p:= ⟨gb333,0,none⟩) (Kd.R_types HO309.out BK333.out (by decide)) (fun _ hk => hk.2) (.slice Ao40 t324.length co40)) (fun _ hk => hk.2) (.slice Ao44 t327.length co44)) (fun _ hk => hk.2) (.slice Ao45 t330.length co45)) (fun _ h_ => h_.1)))) hb);have n3_:= mk (Kd.R_elder' (by exact up ((Kd.R_mono (Kd.R_far (p:= ⟨gb333,2,none⟩) (Kd.R_far (p:= ⟨gb333,1,none⟩) (Kd.R_far (p:= ⟨gb333,0,none⟩) (Kd.R_types HO312.out BK333.out (by decide)) (fun _ hk => hk.2) (.slice Ao40 t324.length co40)) (fun _ hk => hk.2) (.slice Ao44 t327.length co44)) (fun _ hk => hk.2) (.slice Ao45 t330.length co45)) (fun _ h_ => h_.1)))) (Kd.R_base ho0) hb);have n4_:= mk (Kd.R_below (by exact up ((Kd.R_mono (Kd.R_far (p:= ⟨gb333,2,none⟩) (Kd.R_far (p:= ⟨gb333,1,none⟩) (Kd.R_far (p:= ⟨gb333,0,none⟩) (Kd.R_types HO315.out BK333.out (by decide)) (fun _ hk => hk.2) (.slice Ao40 t324.length co40)) (fun _ hk => hk.2) (.slice Ao44 t327.length co44)) (fun _ hk => hk.2) (.slice Ao45 t330.length co45)) (fun _ h_ => h_.1)))) hb);have n5_:= mk (Kd.R_below (by exact up ((Kd.R_mono (Kd.R_far (p:= ⟨gb333,2,none⟩) (Kd.R_far (p:= ⟨gb333,1,none⟩) (Kd.R_far (p:= ⟨gb333,0,none⟩) (Kd.R_types HO318.out BK333.out (by decide)) (fun _ hk => hk.2) (.slice Ao40 t324.length co40)) (fun _ hk => hk.2) (.slice Ao44 t327.length co44)) (fun _ hk => hk.2) (.slice Ao45 t330.length co45)) (fun _ h_ => h_.1)))) hb);have n6_:= mk (Kd.R_below (by exact up ((Kd.R_mono (Kd.R_far (p:= ⟨gb333,2,none⟩) (Kd.R_far (p:= ⟨gb333,1,none⟩) (Kd.R_far (p:= ⟨gb333,0,none⟩) (Kd.R_types HO321.out BK333.out (by decide)) (fun _ hk => hk.2) (.slice Ao40 t324.length co40)) (fun _ hk => hk.2) (.slice Ao44 t327.length co44)) (fun _ hk => hk.2) (.slice Ao45 t330.length co45)) (fun _ h_ => h_.1)))) hb);have n7_:= mk (Kd.R_below (by exact up ((Kd.R_mono (Kd.R_far (p:= ⟨gb333,2,none⟩) (Kd.R_far (p:= ⟨gb333,1,none⟩) (Kd.R_far (p:= ⟨gb333,0,none⟩) (Kd.R_types HO326.out BK333.out (by decide)) (fun _ hk => hk.2) (.slice Ao40 t324.length co40)) (fun _ hk => hk.2) (.slice Ao44 t327.length co44)) (fun _ hk => hk.2) (.slice Ao45 t330.length co45)) (fun _ h_ => h_.1)))) hb);have n8_:= mk (Kd.R_below (by exact up ((Kd.R_mono (Kd.R_far (p:= ⟨gb333,2,none⟩) (Kd.R_far (p:= ⟨gb333,1,none⟩) (Kd.R_far (p:= ⟨gb333,0,none⟩) (Kd.R_types HO329.out BK333.out (by decide)) (fun _ hk => hk.2) (.slice Ao40 t324.length co40)) (fun _ hk => hk.2) (.slice Ao44 t327.length co44)) (fun _ hk => hk.2) (.slice Ao45 t330.length co45)) (fun _ h_ => h_.1)))) hb);have n9_:= mk (Kd.R_below (by exact up ((Kd.R_mono (Kd.R_far (p:= ⟨gb333,2,none⟩) (Kd.R_far (p:= ⟨gb333,1,none⟩) (Kd.R_far (p:= ⟨gb333,0,none⟩) (Kd.R_types HO332.out BK333.out (by decide)) (fun _ hk => hk.2) (.slice Ao40 t324.length co40)) (fun _ hk => hk.2) (.slice Ao44 t327.length co44)) (fun _ hk => hk.2) (.slice Ao45 t330.length co45)) (fun _ h_ => h_.1)))) hb);have n10_:= mk (Kd.R_lower (Kd.R_new' ho0 (Kd.R_lt (by exact up ((Kd.R_mono (Kd.R_far (p:= ⟨gb333,2,none⟩) (Kd.R_far (p:= ⟨gb333,1,none⟩) (Kd.R_far (p:= ⟨gb333,0,none⟩) (Kd.R_types HO312.out BK333.out (by decide)) (fun _ hk => hk.2) (.slice Ao40 t324.length co40)) (fun _ hk => hk.2) (.slice Ao44 t327.length co44)) (fun _ hk => hk.2) (.slice Ao45 t330.length co45)) (fun _ h_ => h_.1)))))) (below_size (by repeat (first|(with_reducible first|exact HB.out|apply below_alloc|apply pw_below_drewN|apply below_drew1|refine below_set ?_ GE298.out|refine below_set ?_ GE323.out|refine below_set ?_ GE333.out)|exact HB.out))));have n11_:= mk (blk_below (g:= gb298) (o:= .cells #[.slice A0_0 l0_0.length c0_0,.slice A0_1 l0_1.length c0_1,.slice A0_2 l0_2.length c0_2] 25 (0,0)) (by (with_reducible repeat (first|refine blk_drewN ?_ _|refine blk_drew ?_|refine blk_alloc ?_ _));refine blk_far ?_ NB298_333.out _;(with_reducible repeat (first|refine blk_drewN ?_ _|refine blk_drew ?_|refine blk_alloc ?_ _));refine blk_far ?_ NB298_333.out _;(with_reducible repeat (first|refine blk_drewN ?_ _|refine blk_drew ?_|refine blk_alloc ?_ _));refine blk_far ?_ NB298_333.out _;(with_reducible repeat (first|refine blk_drewN ?_ _|refine blk_drew ?_|refine blk_alloc ?_ _));exact BK298.out) hb);have n12_:= mk (blk_below (g:= gb323) (o:= .cells #[.slice Ao32 t313.length co32,.slice Ao35 t316.length co35,.slice Ao36 t319.length co36] 31 (0,0)) (by (with_reducible repeat (first|refine blk_drewN ?_ _|refine blk_drew ?_|refine blk_alloc ?_ _));refine blk_far ?_ NB323_333.out _;(with_reducible repeat (first|refine blk_drewN ?_ _|refine blk_drew ?_|refine blk_alloc ?_ _));refine blk_far ?_ NB323_333.out _;(with_reducible repeat (first|refine blk_drewN ?_ _|refine blk_drew ?_|refine blk_alloc ?_ _));refine blk_far ?_ NB323_333.out _;(with_reducible repeat (first|refine blk_drewN ?_ _|refine blk_drew ?_|refine blk_alloc ?_ _));exact BK323.out) hb);have n13_:= mk (blk_below (g:= gb333) (o:= .cells #[.slice Ao40 t324.length co40,.slice Ao44 t327.length co44,.slice Ao45 t330.length co45] 31 (0,0)) (by (with_reducible repeat (first|refine blk_drewN ?_ _|refine blk_drew ?_|refine blk_alloc ?_ _));refine blk_put (cs:= #[.slice Ao40 t324.length co40,.slice Ao44 t327.length co44,.slice none 0 0]) ?_ 2 _ rfl;(with_reducible repeat (first|refine blk_drewN ?_ _|refine blk_drew ?_|refine blk_alloc ?_ _));refine blk_put (cs:= #[.slice Ao40 t324.length co40,.slice none 0 0,.slice none 0 0]) ?_ 1 _ rfl;(with_reducible repeat (first|refine blk_drewN ?_ _|refine blk_drew ?_|refine blk_alloc ?_ _));refine blk_put (cs:= #[.slice none 0 0,.slice none 0 0,.slice none 0 0]) ?_ 0 _ rfl;(with_reducible repeat (first|refine blk_drewN ?_ _|refine blk_drew ?_|refine blk_alloc ?_ _));exact BK333.out) hb);have n14_:= mk (below_step (by repeat (first|(with_reducible first|exact HB.out|apply below_alloc|apply pw_below_drewN|apply below_drew1|refine below_set ?_ GE298.out|refine below_set ?_ GE323.out|refine below_set ?_ GE333.out)|exact HB.out)) hb);clear HO303;clear HO306;clear HO309;clear HO312;clear HO315;clear HO318;clear HO321;clear HO326;clear HO329;clear HO332;clear BK298;clear BK323;clear BK333;clear HB;have HO303:= n0_;have HO306:= n1_;have HO309:= n2_;have HO312:= n3_;have HO315:= n4_;have HO318:= n5_;have HO321:= n6_;have HO326:= n7_;have HO329:= n8_;have HO332:= n9_;have HO336:= n10_;have BK298:= n11_;have BK323:= n12_;have BK333:= n13_;have HB:= n14_;clear n0_ n1_ n2_ n3_ n4_ n5_ n6_ n7_ n8_ n9_ n10_ n11_ n12_ n13_ n14_;(try clear hb);(try clear hb2);(try clear hk);(try clear hi);(try clear ho0);have hcz47_0 : w46.cell? ⟨gb333,0,none⟩ = some (.slice Ao40 t324.length co40):= (blk_cell BK333.out 0).trans rfl;have hcz47_1 : w46.cell? ⟨gb333,1,none⟩ = some (.slice Ao44 t327.length co44):= (blk_cell BK333.out 1).trans rfl;have hcz47_2 : w46.cell? ⟨gb333,2,none⟩ = some (.slice Ao45 t330.length co45):= (blk_cell BK333.out 2).trans rfl;have hfz47_0:= blk_frozen BK333.out 0;have hfz47_1:= blk_frozen BK333.out 1;have hfz47_2:= blk_frozen BK333.out 2;obtain ⟨Ao48,co48,eo48⟩:= Kd.R_slice HO336.out;subst eo48)|((with_reducible refine gate_callee (f:= 11) rfl ?_);refine goesL_ (some 42) rfl rfl Try.func11 (by kernel_rfl) rfl #[.agg #[.slice Ao40 t324.length co40,.slice Ao44 t327.length co44,.slice Ao45 t330.length co45],.slice Ao48 t334.length co48] rfl (by (try simp only [List.map_toArray,List.map_cons,List.map_nil]);first|done|rfl|(simp only [List.length_drop,List.length_take];rfl)) ?_;(with_reducible refine (impl_ApplySwaps.calls k _ _ t324 _ _ t327 _ _ t330 _ _ t334 t337 t340 t343 t346 _ ?side1 ?side2 ?side3 ?side4 ?side5 ?side6 ?side7 ?side8 A18.out).mono ?_);(case side1 => exact uc (Kd.R_reads' HO326.out).2.2);(case side2 => exact (Kd.R_reads' HO326.out).2.1);(case side3 => exact uc (Kd.R_reads' HO329.out).2.2);(case side4 => exact (Kd.R_reads' HO329.out).2.1);(case side5 => exact uc (Kd.R_reads' HO332.out).2.2);(case side6 => exact (Kd.R_reads' HO332.out).2.1);(case side7 => exact uc (Kd.R_reads' HO336.out).2.2);(case side8 => exact (Kd.R_reads' HO336.out).2.1);rintro e w49 ⟨v338,v341,v344,rfl,ho0,ho1,ho2,hb⟩;refine ⟨_,rfl,?_⟩;have n0_:= mk (Kd.R_mono (Kd.R_told (Kd.R_told (Kd.R_old (up HO303.out) hb) (Kd.R_base ho0)) (Kd.R_base ho1)) (fun _ h_ => h_.1));have n1_:= mk (Kd.R_mono (Kd.R_told (Kd.R_told (Kd.R_old (up HO306.out) hb) (Kd.R_base ho0)) (Kd.R_base ho1)) (fun _ h_ => h_.1));have n2_:= mk (Kd.R_elder' (up HO309.out) (Kd.R_base ho2) hb);have n3_:= mk (Kd.R_below (up HO312.out) hb);have n4_:= mk (Kd.R_mono (Kd.R_told (Kd.R_told (Kd.R_old (up HO315.out) hb) (Kd.R_base ho0)) (Kd.R_base ho1)) (fun _ h_ => h_.1));have n5_:= mk (Kd.R_mono (Kd.R_told (Kd.R_told (Kd.R_old (up HO318.out) hb) (Kd.R_base ho0)) (Kd.R_base ho1)) (fun _ h_ => h_.1));have n6_:= mk (Kd.R_elder' (up HO321.out) (Kd.R_base ho2) hb);have n7_:= mk (Kd.R_mono (Kd.R_told (Kd.R_told (Kd.R_old (up HO326.out) hb) (Kd.R_base ho0)) (Kd.R_base ho1)) (fun _ h_ => h_.1));have n8_:= mk (Kd.R_mono (Kd.R_told (Kd.R_told (Kd.R_old (up HO329.out) hb) (Kd.R_base ho0)) (Kd.R_base ho1)) (fun _ h_ => h_.1));have n9_:= mk (Kd.R_elder' (up HO332.out) (Kd.R_base ho2) hb);have n10_:= mk (Kd.R_below (up HO336.out) hb);have n11_:= mk (Kd.R_lower (Kd.R_new' (Kd.R_new' (Kd.R_new' (Kd.R_new' (Kd.R_new' (Kd.R_new' ho0 (Kd.R_lt (up HO303.out))) (Kd.R_lt (up HO306.out))) (Kd.R_lt (up HO315.out))) (Kd.R_lt (up HO318.out))) (Kd.R_lt (up HO326.out))) (Kd.R_lt (up HO329.out))) (below_size (by repeat (first|(with_reducible first|exact HB.out|apply below_alloc|apply pw_below_drewN|apply below_drew1|refine below_set ?_ GE298.out|refine below_set ?_ GE323.out|refine below_set ?_ GE333.out)|exact HB.out))));have n12_:= mk (Kd.R_lower (Kd.R_new' (Kd.R_new' (Kd.R_new' (Kd.R_new' (Kd.R_new' (Kd.R_new' ho1 (Kd.R_lt (up HO303.out))) (Kd.R_lt (up HO306.out))) (Kd.R_lt (up HO315.out))) (Kd.R_lt (up HO318.out))) (Kd.R_lt (up HO326.out))) (Kd.R_lt (up HO329.out))) (below_size (by repeat (first|(with_reducible first|exact HB.out|apply below_alloc|apply pw_below_drewN|apply below_drew1|refine below_set ?_ GE298.out|refine below_set ?_ GE323.out|refine below_set ?_ GE333.out)|exact HB.out))));have n13_:= mk (Kd.R_lower (Kd.R_new' (Kd.R_new' (Kd.R_new' ho2 (Kd.R_lt (up HO309.out))) (Kd.R_lt (up HO321.out))) (Kd.R_lt (up HO332.out))) (below_size (by repeat (first|(with_reducible first|exact HB.out|apply below_alloc|apply pw_below_drewN|apply below_drew1|refine below_set ?_ GE298.out|refine below_set ?_ GE323.out|refine below_set ?_ GE333.out)|exact HB.out))));have n14_:= mk (blk_below (g:= gb298) (o:= .cells #[.slice A0_0 l0_0.length c0_0,.slice A0_1 l0_1.length c0_1,.slice A0_2 l0_2.length c0_2] 25 (0,0)) (ub BK298.out) hb);have n15_:= mk (blk_below (g:= gb323) (o:= .cells #[.slice Ao32 t313.length co32,.slice Ao35 t316.length co35,.slice Ao36 t319.length co36] 31 (0,0)) (ub BK323.out) hb);have n16_:= mk (blk_below (g:= gb333) (o:= .cells #[.slice Ao40 t324.length co40,.slice Ao44 t327.length co44,.slice Ao45 t330.length co45] 31 (0,0)) (ub BK333.out) hb);have n17_:= mk (below_step (by repeat (first|(with_reducible first|exact HB.out|apply below_alloc|apply pw_below_drewN|apply below_drew1|refine below_set ?_ GE298.out|refine below_set ?_ GE323.out|refine below_set ?_ GE333.out)|exact HB.out)) hb);clear HO303;clear HO306;clear HO309;clear HO312;clear HO315;clear HO318;clear HO321;clear HO326;clear HO329;clear HO332;clear HO336;clear BK298;clear BK323;clear BK333;clear HB;have HO303:= n0_;have HO306:= n1_;have HO309:= n2_;have HO312:= n3_;have HO315:= n4_;have HO318:= n5_;have HO321:= n6_;have HO326:= n7_;have HO329:= n8_;have HO332:= n9_;have HO336:= n10_;have HO339:= n11_;have HO342:= n12_;have HO345:= n13_;have BK298:= n14_;have BK323:= n15_;have BK333:= n16_;have HB:= n17_;clear n0_ n1_ n2_ n3_ n4_ n5_ n6_ n7_ n8_ n9_ n10_ n11_ n12_ n13_ n14_ n15_ n16_ n17_;(try clear hb);(try clear hb2);(try clear hk);(try clear hi);(try clear ho0);(try clear ho1);(try clear ho2))|((with_reducible refine gate_dst (N:= 10) rfl ?_);refine box_event ?hg (N:= 10) ?hd (cs:= #[.slice none 0 0,.slice none 0 0,.slice none 0 0]) (t:= 31) ?hr ?_;(case hd => rfl);(case hg => rfl);(case hr => first|(go_simp;done)|(go_simp;rfl));intro gb347 hg w50 hbox hb;have n0_:= mk (Kd.R_below (up HO303.out) hb);have n1_:= mk (Kd.R_below (up HO306.out) hb);have n2_:= mk (Kd.R_below (up HO309.out) hb);have n3_:= mk (Kd.R_below (up HO312.out) hb);have n4_:= mk (Kd.R_below (up HO315.out) hb);have n5_:= mk (Kd.R_below (up HO318.out) hb);have n6_:= mk (Kd.R_below (up HO321.out) hb);have n7_:= mk (Kd.R_below (up HO326.out) hb);have n8_:= mk (Kd.R_below (up HO329.out) hb);have n9_:= mk (Kd.R_below (up HO332.out) hb);have n10_:= mk (Kd.R_below (up HO336.out) hb);have n11_:= mk (Kd.R_below (up HO339.out) hb);have n12_:= mk (Kd.R_below (up HO342.out) hb);have n13_:= mk (Kd.R_below (up HO345.out) hb);have n14_:= mk (blk_below (g:= gb298) (o:= .cells #[.slice A0_0 l0_0.length c0_0,.slice A0_1 l0_1.length c0_1,.slice A0_2 l0_2.length c0_2] 25 (0,0)) (ub BK298.out) hb);have n15_:= mk (blk_below (g:= gb323) (o:= .cells #[.slice Ao32 t313.length co32,.slice Ao35 t316.length co35,.slice Ao36 t319.length co36] 31 (0,0)) (ub BK323.out) hb);have n16_:= mk (blk_below (g:= gb333) (o:= .cells #[.slice Ao40 t324.length co40,.slice Ao44 t327.length co44,.slice Ao45 t330.length co45] 31 (0,0)) (ub BK333.out) hb);have n17_:= mk (below_step (by repeat (first|(with_reducible first|exact HB.out|apply below_alloc|apply pw_below_drewN|apply below_drew1|refine below_set ?_ GE298.out|refine below_set ?_ GE323.out|refine below_set ?_ GE333.out)|exact HB.out)) hb);have n18_:= mk (hbox);have n19_:= mk ((by rw [hg];exact (below_size (by repeat (first|(with_reducible first|exact HB.out|apply below_alloc|apply pw_below_drewN|apply below_drew1|refine below_set ?_ GE298.out|refine below_set ?_ GE323.out|refine below_set ?_ GE333.out)|exact HB.out))) : w.heap.size ≤ gb347));have n20_:= mk ((by rw [hg];exact (below_size (by repeat (first|(with_reducible first|exact HB.out|apply below_alloc|apply pw_below_drewN|apply below_drew1|refine below_set ?_ GE298.out|refine below_set ?_ GE323.out|refine below_set ?_ GE333.out)|exact HB.out))) : w.heap.size ≤ gb347));have n21_:= mk ((by rw [hg];exact Nat.ne_of_lt (blk_lt (g:= gb298) (o:= .cells #[.slice A0_0 l0_0.length c0_0,.slice A0_1 l0_1.length c0_1,.slice A0_2 l0_2.length c0_2] 25 (0,0)) (ub BK298.out)) : gb298 ≠ gb347));have n22_:= mk ((by rw [hg];exact Nat.ne_of_gt (blk_lt (g:= gb298) (o:= .cells #[.slice A0_0 l0_0.length c0_0,.slice A0_1 l0_1.length c0_1,.slice A0_2 l0_2.length c0_2] 25 (0,0)) (ub BK298.out)) : gb347 ≠ gb298));have n23_:= mk ((by rw [hg];exact Nat.ne_of_lt (blk_lt (g:= gb323) (o:= .cells #[.slice Ao32 t313.length co32,.slice Ao35 t316.length co35,.slice Ao36 t319.length co36] 31 (0,0)) (ub BK323.out)) : gb323 ≠ gb347));have n24_:= mk ((by rw [hg];exact Nat.ne_of_gt (blk_lt (g:= gb323) (o:= .cells #[.slice Ao32 t313.length co32,.slice Ao35 t316.length co35,.slice Ao36 t319.length co36] 31 (0,0)) (ub BK323.out)) : gb347 ≠ gb323));have n25_:= mk ((by rw [hg];exact Nat.ne_of_lt (blk_lt (g:= gb333) (o:= .cells #[.slice Ao40 t324.length co40,.slice Ao44 t327.length co44,.slice Ao45 t330.length co45] 31 (0,0)) (ub BK333.out)) : gb333 ≠ gb347));have n26_:= mk ((by rw [hg];exact Nat.ne_of_gt (blk_lt (g:= gb333) (o:= .cells #[.slice Ao40 t324.length co40,.slice Ao44 t327.length co44,.slice Ao45 t330.length co45] 31 (0,0)) (ub BK333.out)) : gb347 ≠ gb333));clear HO303;clear HO306;clear HO309;clear HO312;clear HO315;clear HO318;clear HO321;clear HO326;clear HO329;clear HO332;clear HO336;clear HO339;clear HO342;clear HO345;clear BK298;clear BK323;clear BK333;clear HB;have HO303:= n0_;have HO306:= n1_;have HO309:= n2_;have HO312:= n3_;have HO315:= n4_;have HO318:= n5_;have HO321:= n6_;have HO326:= n7_;have HO329:= n8_;have HO332:= n9_;have HO336:= n10_;have HO339:= n11_;have HO342:= n12_;have HO345:= n13_;have BK298:= n14_;have BK323:= n15_;have BK333:= n16_;have HB:= n17_;have BK347:= n18_;have GW347:= n19_;have GE347:= n20_;have NB298_347:= n21_;have NB347_298:= n22_;have NB323_347:= n23_;have NB347_323:= n24_;have NB333_347:= n25_;have NB347_333:= n26_;clear n0_ n1_ n2_ n3_ n4_ n5_ n6_ n7_ n8_ n9_ n10_ n11_ n12_ n13_ n14_ n15_ n16_ n17_ n18_ n19_ n20_ n21_ n22_ n23_ n24_ n25_ n26_;clear hb hbox hg;obtain ⟨Ao51,co51,eo51⟩:= Kd.R_slice HO339.out;subst eo51;have hnb52:= NB347_298.out;have hnc52:= NB298_347.out;have hnb53:= NB347_323.out;have hnc53:= NB323_347.out;have hnb54:= NB347_333.out;have hnc54:= NB333_347.out;have hcz55_0 : w50.cell? ⟨gb347,0,none⟩ = some (.slice none 0 0):= (blk_cell BK347.out 0).trans rfl;have hcz55_1 : w50.cell? ⟨gb347,1,none⟩ = some (.slice none 0 0):= (blk_cell BK347.out 1).trans rfl;have hcz55_2 : w50.cell? ⟨gb347,2,none⟩ = some (.slice none 0 0):= (blk_cell BK347.out 2).trans rfl;have hfz55_0:= blk_frozen BK347.out 0;have hfz55_1:= blk_frozen BK347.out 1;have hfz55_2:= blk_frozen BK347.out 2;obtain ⟨Ao56,co56,eo56⟩:= Kd.R_slice HO342.out;subst eo56;obtain ⟨Ao57,co57,eo57⟩:= Kd.R_slice HO345.out;subst eo57))
   (try simp only [Act.put,List.setIfInBounds_toArray,List.set_cons_zero,List.set_cons_succ])
   go_cut [53] (fun v53 wc => ∃ (kq : Nat) (x53_18 : Bool),v53 = .bool x53_18 ∧ Aside0 (laws_FnExactApplySwaps.j0 kq l1 t322 t334 t346 x53_18 l0_0 l0_1 l0_2 t313 t316 t319 t324 t327 t330 t337 t340 t343 = some r) ∧ Aside0 (kq ≤ k) ∧ Aside0 (Kd.R k50 50 wc w.heap.size (fun _ => True) (.slice Ao48 t334.length co48) t334) ∧ Aside0 (Kd.R (Kd.int .i64) 3 wc w.heap.size (fun k_ => some k_ ≠ ((.slice Ao35 t316.length co35) : Value).ownBlock ∧ some k_ ≠ ((.slice Ao40 t324.length co40) : Value).ownBlock ∧ some k_ ≠ ((.slice Ao44 t327.length co44) : Value).ownBlock ∧ some k_ ≠ ((.slice Ao51 t337.length co51) : Value).ownBlock ∧ some k_ ≠ ((.slice Ao56 t340.length co56) : Value).ownBlock) (.slice Ao32 t313.length co32) t313) ∧ Aside0 (Kd.R (Kd.int .i64) 3 wc w.heap.size (fun k_ => some k_ ≠ ((.slice Ao32 t313.length co32) : Value).ownBlock ∧ some k_ ≠ ((.slice Ao40 t324.length co40) : Value).ownBlock ∧ some k_ ≠ ((.slice Ao44 t327.length co44) : Value).ownBlock ∧ some k_ ≠ ((.slice Ao51 t337.length co51) : Value).ownBlock ∧ some k_ ≠ ((.slice Ao56 t340.length co56) : Value).ownBlock) (.slice Ao35 t316.length co35) t316) ∧ Aside0 (Kd.R k74 74 wc w.heap.size (fun k_ => some k_ ≠ ((.slice Ao45 t330.length co45) : Value).ownBlock ∧ some k_ ≠ ((.slice Ao57 t343.length co57) : Value).ownBlock) (.slice Ao36 t319.length co36) t319) ∧ Aside0 (Kd.R (Kd.int .i64) 3 wc w.heap.size (fun k_ => some k_ ≠ ((.slice Ao32 t313.length co32) : Value).ownBlock ∧ some k_ ≠ ((.slice Ao35 t316.length co35) : Value).ownBlock ∧ some k_ ≠ ((.slice Ao44 t327.length co44) : Value).ownBlock ∧ some k_ ≠ ((.slice Ao51 t337.length co51) : Value).ownBlock ∧ some k_ ≠ ((.slice Ao56 t340.length co56) : Value).ownBlock) (.slice Ao40 t324.length co40) t324) ∧ Aside0 (Kd.R (Kd.int .i64) 3 wc w.heap.size (fun k_ => some k_ ≠ ((.slice Ao32 t313.length co32) : Value).ownBlock ∧ some k_ ≠ ((.slice Ao35 t316.length co35) : Value).ownBlock ∧ some k_ ≠ ((.slice Ao40 t324.length co40) : Value).ownBlock ∧ some k_ ≠ ((.slice Ao51 t337.length co51) : Value).ownBlock ∧ some k_ ≠ ((.slice Ao56 t340.length co56) : Value).ownBlock) (.slice Ao44 t327.length co44) t327) ∧ Aside0 (Kd.R k74 74 wc w.heap.size (fun k_ => some k_ ≠ ((.slice Ao36 t319.length co36) : Value).ownBlock ∧ some k_ ≠ ((.slice Ao57 t343.length co57) : Value).ownBlock) (.slice Ao45 t330.length co45) t330) ∧ Aside0 (Kd.R (Kd.int .i64) 3 wc w.heap.size (fun k_ => some k_ ≠ ((.slice Ao32 t313.length co32) : Value).ownBlock ∧ some k_ ≠ ((.slice Ao35 t316.length co35) : Value).ownBlock ∧ some k_ ≠ ((.slice Ao40 t324.length co40) : Value).ownBlock ∧ some k_ ≠ ((.slice Ao44 t327.length co44) : Value).ownBlock ∧ some k_ ≠ ((.slice Ao56 t340.length co56) : Value).ownBlock) (.slice Ao51 t337.length co51) t337) ∧ Aside0 (Kd.R (Kd.int .i64) 3 wc w.heap.size (fun k_ => some k_ ≠ ((.slice Ao32 t313.length co32) : Value).ownBlock ∧ some k_ ≠ ((.slice Ao35 t316.length co35) : Value).ownBlock ∧ some k_ ≠ ((.slice Ao40 t324.length co40) : Value).ownBlock ∧ some k_ ≠ ((.slice Ao44 t327.length co44) : Value).ownBlock ∧ some k_ ≠ ((.slice Ao51 t337.length co51) : Value).ownBlock) (.slice Ao56 t340.length co56) t340) ∧ Aside0 (Kd.R k74 74 wc w.heap.size (fun k_ => some k_ ≠ ((.slice Ao36 t319.length co36) : Value).ownBlock ∧ some k_ ≠ ((.slice Ao45 t330.length co45) : Value).ownBlock) (.slice Ao57 t343.length co57) t343) ∧ Aside0 (wc.heap[gb298]? = some (.cells #[(.slice A0_0 l0_0.length c0_0),(.slice A0_1 l0_1.length c0_1),(.slice A0_2 l0_2.length c0_2)] 25 (0,0))) ∧ Aside0 (wc.heap[gb323]? = some (.cells #[(.slice Ao32 t313.length co32),(.slice Ao35 t316.length co35),(.slice Ao36 t319.length co36)] 31 (0,0))) ∧ Aside0 (wc.heap[gb333]? = some (.cells #[(.slice Ao40 t324.length co40),(.slice Ao44 t327.length co44),(.slice Ao45 t330.length co45)] 31 (0,0))) ∧ Aside0 (wc.heap[gb347]? = some (.cells #[(.slice Ao51 t337.length co51),(.slice Ao56 t340.length co56),(.slice Ao57 t343.length co57)] 31 (0,0))) ∧ Aside0 (Below w.heap.size w wc))
   case first =>
    have H:= HC19.out
    clear HC19
    replace H:= Option.bind_eq_some_iff.mp H
    obtain ⟨t348,A580,H⟩:= H
    replace H : (if t348 = true then (laws_FnExactApplySwaps.j0 k l1 t322 t334 t346 (t346 != t322) l0_0 l0_1 l0_2 t313 t316 t319 t324 t327 t330 t337 t340 t343) else (laws_FnExactApplySwaps.j0 k l1 t322 t334 t346 true l0_0 l0_1 l0_2 t313 t316 t319 t324 t327 t330 t337 t340 t343)) = some r:= H
    have A58:= mk A580
    clear A580
    by_cases c59 : t348 = true
    subst c59
    have H1 : (laws_FnExactApplySwaps.j0 k l1 t322 t334 t346 (t346 != t322) l0_0 l0_1 l0_2 t313 t316 t319 t324 t327 t330 t337 t340 t343) = some r:= by rw [if_pos rfl] at H;exact H
    clear H
    have H:= H1
    clear H1
    have H':= mk H
    clear H
    have hnb60:= NB347_298.out
    have hnc60:= NB298_347.out
    have hnb61:= NB347_323.out
    have hnc61:= NB323_347.out
    have hnb62:= NB347_333.out
    have hnc62:= NB333_347.out
    have hcz63_0 : w50.cell? ⟨gb347,0,none⟩ = some (.slice none 0 0):= (blk_cell BK347.out 0).trans rfl
    have hcz63_1 : w50.cell? ⟨gb347,1,none⟩ = some (.slice none 0 0):= (blk_cell BK347.out 1).trans rfl
    have hcz63_2 : w50.cell? ⟨gb347,2,none⟩ = some (.slice none 0 0):= (blk_cell BK347.out 2).trans rfl
    have hfz63_0:= blk_frozen BK347.out 0
    have hfz63_1:= blk_frozen BK347.out 1
    have hfz63_2:= blk_frozen BK347.out 2
    have hnb64:= NB323_298.out
    have hnc64:= NB298_323.out
    have hnb65:= NB323_333.out
    have hnc65:= NB333_323.out
    have hcz66_0 : w50.cell? ⟨gb323,0,none⟩ = some (.slice Ao32 t313.length co32):= (blk_cell BK323.out 0).trans rfl
    have hcz66_1 : w50.cell? ⟨gb323,1,none⟩ = some (.slice Ao35 t316.length co35):= (blk_cell BK323.out 1).trans rfl
    have hcz66_2 : w50.cell? ⟨gb323,2,none⟩ = some (.slice Ao36 t319.length co36):= (blk_cell BK323.out 2).trans rfl
    have hfz66_0:= blk_frozen BK323.out 0
    have hfz66_1:= blk_frozen BK323.out 1
    have hfz66_2:= blk_frozen BK323.out 2
    rotate_left
    replace c59:= Bool.eq_false_iff.mpr c59
    subst c59
    have H1 : (laws_FnExactApplySwaps.j0 k l1 t322 t334 t346 true l0_0 l0_1 l0_2 t313 t316 t319 t324 t327 t330 t337 t340 t343) = some r:= by rw [if_neg (show ¬ (false = true) by decide)] at H;exact H
    clear H
    have H:= H1
    clear H1
    have H':= mk H
    clear H
    have hnb68:= NB347_298.out
    have hnc68:= NB298_347.out
    have hnb69:= NB347_323.out
    have hnc69:= NB323_347.out
    have hnb70:= NB347_333.out
    have hnc70:= NB333_347.out
    have hcz71_0 : w50.cell? ⟨gb347,0,none⟩ = some (.slice none 0 0):= (blk_cell BK347.out 0).trans rfl
    have hcz71_1 : w50.cell? ⟨gb347,1,none⟩ = some (.slice none 0 0):= (blk_cell BK347.out 1).trans rfl
    have hcz71_2 : w50.cell? ⟨gb347,2,none⟩ = some (.slice none 0 0):= (blk_cell BK347.out 2).trans rfl
    have hfz71_0:= blk_frozen BK347.out 0
    have hfz71_1:= blk_frozen BK347.out 1
    have hfz71_2:= blk_frozen BK347.out 2
    have hnb72:= NB323_298.out
    have hnc72:= NB298_323.out
    have hnb73:= NB323_333.out
    have hnc73:= NB333_323.out
    have hcz74_0 : w50.cell? ⟨gb323,0,none⟩ = some (.slice Ao32 t313.length co32):= (blk_cell BK323.out 0).trans rfl
    have hcz74_1 : w50.cell? ⟨gb323,1,none⟩ = some (.slice Ao35 t316.length co35):= (blk_cell BK323.out 1).trans rfl
    have hcz74_2 : w50.cell? ⟨gb323,2,none⟩ = some (.slice Ao36 t319.length co36):= (blk_cell BK323.out 2).trans rfl
    have hfz74_0:= blk_frozen BK323.out 0
    have hfz74_1:= blk_frozen BK323.out 1
    have hfz74_2:= blk_frozen BK323.out 2
    rotate_left
    all_goals
     go_wp2_with (first|((with_reducible refine gate_callee (f:= 12) rfl ?_);refine goesL_ (some 47) rfl rfl Try.func12 (by kernel_rfl) rfl #[.agg #[.slice Ao51 t337.length co51,.slice Ao56 t340.length co56,.slice Ao57 t343.length co57],.agg #[.slice Ao32 t313.length co32,.slice Ao35 t316.length co35,.slice Ao36 t319.length co36]] rfl (by (try simp only [List.map_toArray,List.map_cons,List.map_nil]);first|done|rfl|(simp only [List.length_drop,List.length_take];rfl)) ?_;(with_reducible refine (laws_eqCracker.calls k _ _ t337 _ _ t340 _ _ t343 _ _ t313 _ _ t316 _ _ t319 _ _ ?side1 ?side2 ?side3 ?side4 ?side5 ?side6 ?side7 ?side8 ?side9 ?side10 ?side11 ?side12 A58.out).mono ?_);(case side1 => refine (Kd.R_reads' (e:= 3) (base:= w.heap.size) (ok:= fun k_ => ((((((some k_ ≠ (.slice Ao56 t340.length co56 : Value).ownBlock ∧ some k_ ≠ (.slice Ao26 t301.length co26 : Value).ownBlock) ∧ some k_ ≠ (.slice Ao27 t304.length co27 : Value).ownBlock) ∧ some k_ ≠ (.slice Ao32 t313.length co32 : Value).ownBlock) ∧ some k_ ≠ (.slice Ao35 t316.length co35 : Value).ownBlock) ∧ some k_ ≠ (.slice Ao40 t324.length co40 : Value).ownBlock) ∧ some k_ ≠ (.slice Ao44 t327.length co44 : Value).ownBlock)) (n:= t337.length) (c:= co51) ?_).2.2;exact (by exact up ((Kd.R_mono (Kd.R_far (p:= ⟨gb347,2,none⟩) (Kd.R_far (p:= ⟨gb347,1,none⟩) (Kd.R_far (p:= ⟨gb347,0,none⟩) (Kd.R_types HO339.out BK347.out (by decide)) (fun _ hk => hk.2) (.slice Ao51 t337.length co51)) (fun _ hk => hk.2) (.slice Ao56 t340.length co56)) (fun _ hk => hk.2) (.slice Ao57 t343.length co57)) (fun _ h_ => h_.1)))));(case side2 => exact (Kd.R_reads' HO339.out).2.1);(case side3 => refine (Kd.R_reads' (e:= 3) (base:= w.heap.size) (ok:= fun k_ => ((((((some k_ ≠ (.slice Ao51 t337.length co51 : Value).ownBlock ∧ some k_ ≠ (.slice Ao26 t301.length co26 : Value).ownBlock) ∧ some k_ ≠ (.slice Ao27 t304.length co27 : Value).ownBlock) ∧ some k_ ≠ (.slice Ao32 t313.length co32 : Value).ownBlock) ∧ some k_ ≠ (.slice Ao35 t316.length co35 : Value).ownBlock) ∧ some k_ ≠ (.slice Ao40 t324.length co40 : Value).ownBlock) ∧ some k_ ≠ (.slice Ao44 t327.length co44 : Value).ownBlock)) (n:= t340.length) (c:= co56) ?_).2.2;exact (by exact up ((Kd.R_mono (Kd.R_far (p:= ⟨gb347,2,none⟩) (Kd.R_far (p:= ⟨gb347,1,none⟩) (Kd.R_far (p:= ⟨gb347,0,none⟩) (Kd.R_types HO342.out BK347.out (by decide)) (fun _ hk => hk.2) (.slice Ao51 t337.length co51)) (fun _ hk => hk.2) (.slice Ao56 t340.length co56)) (fun _ hk => hk.2) (.slice Ao57 t343.length co57)) (fun _ h_ => h_.1)))));(case side4 => exact (Kd.R_reads' HO342.out).2.1);(case side5 => refine (Kd.R_reads' (e:= 74) (base:= w.heap.size) (ok:= fun k_ => (((True ∧ some k_ ≠ (.slice Ao28 t307.length co28 : Value).ownBlock) ∧ some k_ ≠ (.slice Ao36 t319.length co36 : Value).ownBlock) ∧ some k_ ≠ (.slice Ao45 t330.length co45 : Value).ownBlock)) (n:= t343.length) (c:= co57) ?_).2.2;exact (by exact up ((Kd.R_mono (Kd.R_far (p:= ⟨gb347,2,none⟩) (Kd.R_far (p:= ⟨gb347,1,none⟩) (Kd.R_far (p:= ⟨gb347,0,none⟩) (Kd.R_types HO345.out BK347.out (by decide)) (fun _ hk => hk.2) (.slice Ao51 t337.length co51)) (fun _ hk => hk.2) (.slice Ao56 t340.length co56)) (fun _ hk => hk.2) (.slice Ao57 t343.length co57)) (fun _ h_ => h_.1)))));(case side6 => exact (Kd.R_reads' HO345.out).2.1);(case side7 => refine (Kd.R_reads' (e:= 3) (base:= w.heap.size) (ok:= fun k_ => ((((((some k_ ≠ (.slice Ao35 t316.length co35 : Value).ownBlock ∧ some k_ ≠ (.slice Ao26 t301.length co26 : Value).ownBlock) ∧ some k_ ≠ (.slice Ao27 t304.length co27 : Value).ownBlock) ∧ some k_ ≠ (.slice Ao40 t324.length co40 : Value).ownBlock) ∧ some k_ ≠ (.slice Ao44 t327.length co44 : Value).ownBlock) ∧ some k_ ≠ (.slice Ao51 t337.length co51 : Value).ownBlock) ∧ some k_ ≠ (.slice Ao56 t340.length co56 : Value).ownBlock)) (n:= t313.length) (c:= co32) ?_).2.2;exact (by exact up ((Kd.R_mono (Kd.R_far (p:= ⟨gb347,2,none⟩) (Kd.R_far (p:= ⟨gb347,1,none⟩) (Kd.R_far (p:= ⟨gb347,0,none⟩) (Kd.R_types HO315.out BK347.out (by decide)) (fun _ hk => hk.2) (.slice Ao51 t337.length co51)) (fun _ hk => hk.2) (.slice Ao56 t340.length co56)) (fun _ hk => hk.2) (.slice Ao57 t343.length co57)) (fun _ h_ => h_.1)))));(case side8 => exact (Kd.R_reads' HO315.out).2.1);(case side9 => refine (Kd.R_reads' (e:= 3) (base:= w.heap.size) (ok:= fun k_ => ((((((some k_ ≠ (.slice Ao32 t313.length co32 : Value).ownBlock ∧ some k_ ≠ (.slice Ao26 t301.length co26 : Value).ownBlock) ∧ some k_ ≠ (.slice Ao27 t304.length co27 : Value).ownBlock) ∧ some k_ ≠ (.slice Ao40 t324.length co40 : Value).ownBlock) ∧ some k_ ≠ (.slice Ao44 t327.length co44 : Value).ownBlock) ∧ some k_ ≠ (.slice Ao51 t337.length co51 : Value).ownBlock) ∧ some k_ ≠ (.slice Ao56 t340.length co56 : Value).ownBlock)) (n:= t316.length) (c:= co35) ?_).2.2;exact (by exact up ((Kd.R_mono (Kd.R_far (p:= ⟨gb347,2,none⟩) (Kd.R_far (p:= ⟨gb347,1,none⟩) (Kd.R_far (p:= ⟨gb347,0,none⟩) (Kd.R_types HO318.out BK347.out (by decide)) (fun _ hk => hk.2) (.slice Ao51 t337.length co51)) (fun _ hk => hk.2) (.slice Ao56 t340.length co56)) (fun _ hk => hk.2) (.slice Ao57 t343.length co57)) (fun _ h_ => h_.1)))));(case side10 => exact (Kd.R_reads' HO318.out).2.1);(case side11 => refine (Kd.R_reads' (e:= 74) (base:= w.heap.size) (ok:= fun k_ => (((True ∧ some k_ ≠ (.slice Ao28 t307.length co28 : Value).ownBlock) ∧ some k_ ≠ (.slice Ao45 t330.length co45 : Value).ownBlock) ∧ some k_ ≠ (.slice Ao57 t343.length co57 : Value).ownBlock)) (n:= t319.length) (c:= co36) ?_).2.2;exact (by exact up ((Kd.R_mono (Kd.R_far (p:= ⟨gb347,2,none⟩) (Kd.R_far (p:= ⟨gb347,1,none⟩) (Kd.R_far (p:= ⟨gb347,0,none⟩) (Kd.R_types HO321.out BK347.out (by decide)) (fun _ hk => hk.2) (.slice Ao51 t337.length co51)) (fun _ hk => hk.2) (.slice Ao56 t340.length co56)) (fun _ hk => hk.2) (.slice Ao57 t343.length co57)) (fun _ h_ => h_.1)))));(case side12 => exact (Kd.R_reads' HO321.out).2.1);rintro e w67 ⟨rfl,hb⟩;refine ⟨_,rfl,?_⟩;have n0_:= mk (Kd.R_below (by exact up ((Kd.R_mono (Kd.R_far (p:= ⟨gb347,2,none⟩) (Kd.R_far (p:= ⟨gb347,1,none⟩) (Kd.R_far (p:= ⟨gb347,0,none⟩) (Kd.R_types HO303.out BK347.out (by decide)) (fun _ hk => hk.2) (.slice Ao51 t337.length co51)) (fun _ hk => hk.2) (.slice Ao56 t340.length co56)) (fun _ hk => hk.2) (.slice Ao57 t343.length co57)) (fun _ h_ => h_.1)))) hb);have n1_:= mk (Kd.R_below (by exact up ((Kd.R_mono (Kd.R_far (p:= ⟨gb347,2,none⟩) (Kd.R_far (p:= ⟨gb347,1,none⟩) (Kd.R_far (p:= ⟨gb347,0,none⟩) (Kd.R_types HO306.out BK347.out (by decide)) (fun _ hk => hk.2) (.slice Ao51 t337.length co51)) (fun _ hk => hk.2) (.slice Ao56 t340.length co56)) (fun _ hk => hk.2) (.slice Ao57 t343.length co57)) (fun _ h_ => h_.1)))) hb);have n2_:= mk (Kd.R_below (by exact up ((Kd.R_mono (Kd.R_far (p:= ⟨gb347,2,none⟩) (Kd.R_far (p:= ⟨gb347,1,none⟩) (Kd.R_far (p:= ⟨gb347,0,none⟩) (Kd.R_types HO309.out BK347.out (by decide)) (fun _ hk => hk.2) (.slice Ao51 t337.length co51)) (fun _ hk => hk.2) (.slice Ao56 t340.length co56)) (fun _ hk => hk.2) (.slice Ao57 t343.length co57)) (fun _ h_ => h_.1)))) hb);have n3_:= mk (Kd.R_below (by exact up ((Kd.R_mono (Kd.R_far (p:= ⟨gb347,2,none⟩) (Kd.R_far (p:= ⟨gb347,1,none⟩) (Kd.R_far (p:= ⟨gb347,0,none⟩) (Kd.R_types HO312.out BK347.out (by decide)) (fun _ hk => hk.2) (.slice Ao51 t337.length co51)) (fun _ hk => hk.2) (.slice Ao56 t340.length co56)) (fun _ hk => hk.2) (.slice Ao57 t343.length co57)) (fun _ h_ => h_.1)))) hb);have n4_:= mk (Kd.R_below (by exact up ((Kd.R_mono (Kd.R_far (p:= ⟨gb347,2,none⟩) (Kd.R_far (p:= ⟨gb347,1,none⟩) (Kd.R_far (p:= ⟨gb347,0,none⟩) (Kd.R_types HO315.out BK347.out (by decide)) (fun _ hk => hk.2) (.slice Ao51 t337.length co51)) (fun _ hk => hk.2) (.slice Ao56 t340.length co56)) (fun _ hk => hk.2) (.slice Ao57 t343.length co57)) (fun _ h_ => h_.1)))) hb);have n5_:= mk (Kd.R_below (by exact up ((Kd.R_mono (Kd.R_far (p:= ⟨gb347,2,none⟩) (Kd.R_far (p:= ⟨gb347,1,none⟩) (Kd.R_far (p:= ⟨gb347,0,none⟩) (Kd.R_types HO318.out BK347.out (by decide)) (fun _ hk => hk.2) (.slice Ao51 t337.length co51)) (fun _ hk => hk.2) (.slice Ao56 t340.length co56)) (fun _ hk => hk.2) (.slice Ao57 t343.length co57)) (fun _ h_ => h_.1)))) hb);have n6_:= mk (Kd.R_below (by exact up ((Kd.R_mono (Kd.R_far (p:= ⟨gb347,2,none⟩) (Kd.R_far (p:= ⟨gb347,1,none⟩) (Kd.R_far (p:= ⟨gb347,0,none⟩) (Kd.R_types HO321.out BK347.out (by decide)) (fun _ hk => hk.2) (.slice Ao51 t337.length co51)) (fun _ hk => hk.2) (.slice Ao56 t340.length co56)) (fun _ hk => hk.2) (.slice Ao57 t343.length co57)) (fun _ h_ => h_.1)))) hb);have n7_:= mk (Kd.R_below (by exact up ((Kd.R_mono (Kd.R_far (p:= ⟨gb347,2,none⟩) (Kd.R_far (p:= ⟨gb347,1,none⟩) (Kd.R_far (p:= ⟨gb347,0,none⟩) (Kd.R_types HO326.out BK347.out (by decide)) (fun _ hk => hk.2) (.slice Ao51 t337.length co51)) (fun _ hk => hk.2) (.slice Ao56 t340.length co56)) (fun _ hk => hk.2) (.slice Ao57 t343.length co57)) (fun _ h_ => h_.1)))) hb);have n8_:= mk (Kd.R_below (by exact up ((Kd.R_mono (Kd.R_far (p:= ⟨gb347,2,none⟩) (Kd.R_far (p:= ⟨gb347,1,none⟩) (Kd.R_far (p:= ⟨gb347,0,none⟩) (Kd.R_types HO329.out BK347.out (by decide)) (fun _ hk => hk.2) (.slice Ao51 t337.length co51)) (fun _ hk => hk.2) (.slice Ao56 t340.length co56)) (fun _ hk => hk.2) (.slice Ao57 t343.length co57)) (fun _ h_ => h_.1)))) hb);have n9_:= mk (Kd.R_below (by exact up ((Kd.R_mono (Kd.R_far (p:= ⟨gb347,2,none⟩) (Kd.R_far (p:= ⟨gb347,1,none⟩) (Kd.R_far (p:= ⟨gb347,0,none⟩) (Kd.R_types HO332.out BK347.out (by decide)) (fun _ hk => hk.2) (.slice Ao51 t337.length co51)) (fun _ hk => hk.2) (.slice Ao56 t340.length co56)) (fun _ hk => hk.2) (.slice Ao57 t343.length co57)) (fun _ h_ => h_.1)))) hb);have n10_:= mk (Kd.R_below (by exact up ((Kd.R_mono (Kd.R_far (p:= ⟨gb347,2,none⟩) (Kd.R_far (p:= ⟨gb347,1,none⟩) (Kd.R_far (p:= ⟨gb347,0,none⟩) (Kd.R_types HO336.out BK347.out (by decide)) (fun _ hk => hk.2) (.slice Ao51 t337.length co51)) (fun _ hk => hk.2) (.slice Ao56 t340.length co56)) (fun _ hk => hk.2) (.slice Ao57 t343.length co57)) (fun _ h_ => h_.1)))) hb);have n11_:= mk (Kd.R_below (by exact up ((Kd.R_mono (Kd.R_far (p:= ⟨gb347,2,none⟩) (Kd.R_far (p:= ⟨gb347,1,none⟩) (Kd.R_far (p:= ⟨gb347,0,none⟩) (Kd.R_types HO339.out BK347.out (by decide)) (fun _ hk => hk.2) (.slice Ao51 t337.length co51)) (fun _ hk => hk.2) (.slice Ao56 t340.length co56)) (fun _ hk => hk.2) (.slice Ao57 t343.length co57)) (fun _ h_ => h_.1)))) hb);have n12_:= mk (Kd.R_below (by exact up ((Kd.R_mono (Kd.R_far (p:= ⟨gb347,2,none⟩) (Kd.R_far (p:= ⟨gb347,1,none⟩) (Kd.R_far (p:= ⟨gb347,0,none⟩) (Kd.R_types HO342.out BK347.out (by decide)) (fun _ hk => hk.2) (.slice Ao51 t337.length co51)) (fun _ hk => hk.2) (.slice Ao56 t340.length co56)) (fun _ hk => hk.2) (.slice Ao57 t343.length co57)) (fun _ h_ => h_.1)))) hb);have n13_:= mk (Kd.R_below (by exact up ((Kd.R_mono (Kd.R_far (p:= ⟨gb347,2,none⟩) (Kd.R_far (p:= ⟨gb347,1,none⟩) (Kd.R_far (p:= ⟨gb347,0,none⟩) (Kd.R_types HO345.out BK347.out (by decide)) (fun _ hk => hk.2) (.slice Ao51 t337.length co51)) (fun _ hk => hk.2) (.slice Ao56 t340.length co56)) (fun _ hk => hk.2) (.slice Ao57 t343.length co57)) (fun _ h_ => h_.1)))) hb);have n14_:= mk (blk_below (g:= gb298) (o:= .cells #[.slice A0_0 l0_0.length c0_0,.slice A0_1 l0_1.length c0_1,.slice A0_2 l0_2.length c0_2] 25 (0,0)) (by (with_reducible repeat (first|refine blk_drewN ?_ _|refine blk_drew ?_|refine blk_alloc ?_ _));refine blk_far ?_ NB298_347.out _;(with_reducible repeat (first|refine blk_drewN ?_ _|refine blk_drew ?_|refine blk_alloc ?_ _));refine blk_far ?_ NB298_347.out _;(with_reducible repeat (first|refine blk_drewN ?_ _|refine blk_drew ?_|refine blk_alloc ?_ _));refine blk_far ?_ NB298_347.out _;(with_reducible repeat (first|refine blk_drewN ?_ _|refine blk_drew ?_|refine blk_alloc ?_ _));exact BK298.out) hb);have n15_:= mk (blk_below (g:= gb323) (o:= .cells #[.slice Ao32 t313.length co32,.slice Ao35 t316.length co35,.slice Ao36 t319.length co36] 31 (0,0)) (by (with_reducible repeat (first|refine blk_drewN ?_ _|refine blk_drew ?_|refine blk_alloc ?_ _));refine blk_far ?_ NB323_347.out _;(with_reducible repeat (first|refine blk_drewN ?_ _|refine blk_drew ?_|refine blk_alloc ?_ _));refine blk_far ?_ NB323_347.out _;(with_reducible repeat (first|refine blk_drewN ?_ _|refine blk_drew ?_|refine blk_alloc ?_ _));refine blk_far ?_ NB323_347.out _;(with_reducible repeat (first|refine blk_drewN ?_ _|refine blk_drew ?_|refine blk_alloc ?_ _));exact BK323.out) hb);have n16_:= mk (blk_below (g:= gb333) (o:= .cells #[.slice Ao40 t324.length co40,.slice Ao44 t327.length co44,.slice Ao45 t330.length co45] 31 (0,0)) (by (with_reducible repeat (first|refine blk_drewN ?_ _|refine blk_drew ?_|refine blk_alloc ?_ _));refine blk_far ?_ NB333_347.out _;(with_reducible repeat (first|refine blk_drewN ?_ _|refine blk_drew ?_|refine blk_alloc ?_ _));refine blk_far ?_ NB333_347.out _;(with_reducible repeat (first|refine blk_drewN ?_ _|refine blk_drew ?_|refine blk_alloc ?_ _));refine blk_far ?_ NB333_347.out _;(with_reducible repeat (first|refine blk_drewN ?_ _|refine blk_drew ?_|refine blk_alloc ?_ _));exact BK333.out) hb);have n17_:= mk (blk_below (g:= gb347) (o:= .cells #[.slice Ao51 t337.length co51,.slice Ao56 t340.length co56,.slice Ao57 t343.length co57] 31 (0,0)) (by (with_reducible repeat (first|refine blk_drewN ?_ _|refine blk_drew ?_|refine blk_alloc ?_ _));refine blk_put (cs:= #[.slice Ao51 t337.length co51,.slice Ao56 t340.length co56,.slice none 0 0]) ?_ 2 _ rfl;(with_reducible repeat (first|refine blk_drewN ?_ _|refine blk_drew ?_|refine blk_alloc ?_ _));refine blk_put (cs:= #[.slice Ao51 t337.length co51,.slice none 0 0,.slice none 0 0]) ?_ 1 _ rfl;(with_reducible repeat (first|refine blk_drewN ?_ _|refine blk_drew ?_|refine blk_alloc ?_ _));refine blk_put (cs:= #[.slice none 0 0,.slice none 0 0,.slice none 0 0]) ?_ 0 _ rfl;(with_reducible repeat (first|refine blk_drewN ?_ _|refine blk_drew ?_|refine blk_alloc ?_ _));exact BK347.out) hb);have n18_:= mk (below_step (by repeat (first|(with_reducible first|exact HB.out|apply below_alloc|apply pw_below_drewN|apply below_drew1|refine below_set ?_ GE298.out|refine below_set ?_ GE323.out|refine below_set ?_ GE333.out|refine below_set ?_ GE347.out)|exact HB.out)) hb);clear HO303;clear HO306;clear HO309;clear HO312;clear HO315;clear HO318;clear HO321;clear HO326;clear HO329;clear HO332;clear HO336;clear HO339;clear HO342;clear HO345;clear BK298;clear BK323;clear BK333;clear BK347;clear HB;have HO303:= n0_;have HO306:= n1_;have HO309:= n2_;have HO312:= n3_;have HO315:= n4_;have HO318:= n5_;have HO321:= n6_;have HO326:= n7_;have HO329:= n8_;have HO332:= n9_;have HO336:= n10_;have HO339:= n11_;have HO342:= n12_;have HO345:= n13_;have BK298:= n14_;have BK323:= n15_;have BK333:= n16_;have BK347:= n17_;have HB:= n18_;clear n0_ n1_ n2_ n3_ n4_ n5_ n6_ n7_ n8_ n9_ n10_ n11_ n12_ n13_ n14_ n15_ n16_ n17_ n18_;(try clear hb);(try clear hb2);(try clear hk);(try clear hi)))
    ·go_meet
     case rel => exact ⟨_,((t346 != t322)),(by first|rfl|(simp;done)|(simp [*];done)),H',⟨by first|omega|exact Nat.le_refl _⟩,⟨by exact up (Kd.R_mono HO336.out (fun _ hk => trivial))⟩,⟨by exact up (Kd.R_mono HO315.out (fun _ hk => by first|exact ⟨hk.1.1.1.1.1.1,⟨hk.1.1.1.2,⟨hk.1.1.2,⟨hk.1.2,hk.2⟩⟩⟩⟩|(revert hk;simp only [and_imp];intros;(repeat' (refine And.intro ?_ ?_)) <;> assumption)))⟩,⟨by exact up (Kd.R_mono HO318.out (fun _ hk => by first|exact ⟨hk.1.1.1.1.1.1,⟨hk.1.1.1.2,⟨hk.1.1.2,⟨hk.1.2,hk.2⟩⟩⟩⟩|(revert hk;simp only [and_imp];intros;(repeat' (refine And.intro ?_ ?_)) <;> assumption)))⟩,⟨by exact up (Kd.R_mono HO321.out (fun _ hk => by first|exact ⟨hk.1.2,hk.2⟩|(revert hk;simp only [and_imp];intros;(repeat' (refine And.intro ?_ ?_)) <;> assumption)))⟩,⟨by exact up (Kd.R_mono HO326.out (fun _ hk => by first|exact ⟨hk.1.1.1.2,⟨hk.1.1.2,⟨hk.1.1.1.1.1.1,⟨hk.1.2,hk.2⟩⟩⟩⟩|(revert hk;simp only [and_imp];intros;(repeat' (refine And.intro ?_ ?_)) <;> assumption)))⟩,⟨by exact up (Kd.R_mono HO329.out (fun _ hk => by first|exact ⟨hk.1.1.1.2,⟨hk.1.1.2,⟨hk.1.1.1.1.1.1,⟨hk.1.2,hk.2⟩⟩⟩⟩|(revert hk;simp only [and_imp];intros;(repeat' (refine And.intro ?_ ?_)) <;> assumption)))⟩,⟨by exact up (Kd.R_mono HO332.out (fun _ hk => by first|exact ⟨hk.1.2,hk.2⟩|(revert hk;simp only [and_imp];intros;(repeat' (refine And.intro ?_ ?_)) <;> assumption)))⟩,⟨by exact up (Kd.R_mono HO339.out (fun _ hk => by first|exact ⟨hk.1.1.1.2,⟨hk.1.1.2,⟨hk.1.2,⟨hk.2,hk.1.1.1.1.1.1⟩⟩⟩⟩|(revert hk;simp only [and_imp];intros;(repeat' (refine And.intro ?_ ?_)) <;> assumption)))⟩,⟨by exact up (Kd.R_mono HO342.out (fun _ hk => by first|exact ⟨hk.1.1.1.2,⟨hk.1.1.2,⟨hk.1.2,⟨hk.2,hk.1.1.1.1.1.1⟩⟩⟩⟩|(revert hk;simp only [and_imp];intros;(repeat' (refine And.intro ?_ ?_)) <;> assumption)))⟩,⟨by exact up (Kd.R_mono HO345.out (fun _ hk => by first|exact ⟨hk.1.2,hk.2⟩|(revert hk;simp only [and_imp];intros;(repeat' (refine And.intro ?_ ?_)) <;> assumption)))⟩,⟨ub BK298.out⟩,⟨ub BK323.out⟩,⟨ub BK333.out⟩,⟨ub BK347.out⟩,⟨by repeat (first|(with_reducible first|exact HB.out|apply below_alloc|apply pw_below_drewN|apply below_drew1|refine below_set ?_ GE298.out|refine below_set ?_ GE323.out|refine below_set ?_ GE333.out|refine below_set ?_ GE347.out)|exact HB.out)⟩⟩
    ·go_meet
     case rel => exact ⟨_,(true),(by first|rfl|(simp;done)|(simp [*];done)),H',⟨by first|omega|exact Nat.le_refl _⟩,⟨by exact up (Kd.R_mono HO336.out (fun _ hk => trivial))⟩,⟨by exact up (Kd.R_mono HO315.out (fun _ hk => by first|exact ⟨hk.1.1.1.1.1.1,⟨hk.1.1.1.2,⟨hk.1.1.2,⟨hk.1.2,hk.2⟩⟩⟩⟩|(revert hk;simp only [and_imp];intros;(repeat' (refine And.intro ?_ ?_)) <;> assumption)))⟩,⟨by exact up (Kd.R_mono HO318.out (fun _ hk => by first|exact ⟨hk.1.1.1.1.1.1,⟨hk.1.1.1.2,⟨hk.1.1.2,⟨hk.1.2,hk.2⟩⟩⟩⟩|(revert hk;simp only [and_imp];intros;(repeat' (refine And.intro ?_ ?_)) <;> assumption)))⟩,⟨by exact up (Kd.R_mono HO321.out (fun _ hk => by first|exact ⟨hk.1.2,hk.2⟩|(revert hk;simp only [and_imp];intros;(repeat' (refine And.intro ?_ ?_)) <;> assumption)))⟩,⟨by exact up (Kd.R_mono HO326.out (fun _ hk => by first|exact ⟨hk.1.1.1.2,⟨hk.1.1.2,⟨hk.1.1.1.1.1.1,⟨hk.1.2,hk.2⟩⟩⟩⟩|(revert hk;simp only [and_imp];intros;(repeat' (refine And.intro ?_ ?_)) <;> assumption)))⟩,⟨by exact up (Kd.R_mono HO329.out (fun _ hk => by first|exact ⟨hk.1.1.1.2,⟨hk.1.1.2,⟨hk.1.1.1.1.1.1,⟨hk.1.2,hk.2⟩⟩⟩⟩|(revert hk;simp only [and_imp];intros;(repeat' (refine And.intro ?_ ?_)) <;> assumption)))⟩,⟨by exact up (Kd.R_mono HO332.out (fun _ hk => by first|exact ⟨hk.1.2,hk.2⟩|(revert hk;simp only [and_imp];intros;(repeat' (refine And.intro ?_ ?_)) <;> assumption)))⟩,⟨by exact up (Kd.R_mono HO339.out (fun _ hk => by first|exact ⟨hk.1.1.1.2,⟨hk.1.1.2,⟨hk.1.2,⟨hk.2,hk.1.1.1.1.1.1⟩⟩⟩⟩|(revert hk;simp only [and_imp];intros;(repeat' (refine And.intro ?_ ?_)) <;> assumption)))⟩,⟨by exact up (Kd.R_mono HO342.out (fun _ hk => by first|exact ⟨hk.1.1.1.2,⟨hk.1.1.2,⟨hk.1.2,⟨hk.2,hk.1.1.1.1.1.1⟩⟩⟩⟩|(revert hk;simp only [and_imp];intros;(repeat' (refine And.intro ?_ ?_)) <;> assumption)))⟩,⟨by exact up (Kd.R_mono HO345.out (fun _ hk => by first|exact ⟨hk.1.2,hk.2⟩|(revert hk;simp only [and_imp];intros;(repeat' (refine And.intro ?_ ?_)) <;> assumption)))⟩,⟨ub BK298.out⟩,⟨ub BK323.out⟩,⟨ub BK333.out⟩,⟨ub BK347.out⟩,⟨by repeat (first|(with_reducible first|exact HB.out|apply below_alloc|apply pw_below_drewN|apply below_drew1|refine below_set ?_ GE298.out|refine below_set ?_ GE323.out|refine below_set ?_ GE333.out|refine below_set ?_ GE347.out)|exact HB.out)⟩⟩
   case rest =>
    clear HC19
    try clear c1
    try clear p2
    try clear c3
    try clear c4
    try clear c4b0
    try clear c5
    try clear c6
    try clear c7
    try clear c8
    try clear c9
    try clear c9b0
    try clear c10
    try clear c11
    try clear c12
    try clear c33
    try clear c41
    try clear c42
    try clear c52
    try clear c53
    try clear c54
    try clear c59
    try clear c60
    try clear c61
    try clear c62
    try clear c64
    try clear c65
    try clear c68
    try clear c69
    try clear c70
    try clear c72
    try clear c73
    try clear hcz11_0
    try clear hcz11_1
    try clear hcz11_2
    try clear hcz21_0
    try clear hcz21_1
    try clear hcz21_2
    try clear hcz23_0
    try clear hcz23_1
    try clear hcz23_2
    try clear hcz34_0
    try clear hcz34_1
    try clear hcz34_2
    try clear hcz37_0
    try clear hcz37_1
    try clear hcz37_2
    try clear hcz43_0
    try clear hcz43_1
    try clear hcz43_2
    try clear hcz47_0
    try clear hcz47_1
    try clear hcz47_2
    try clear hcz55_0
    try clear hcz55_1
    try clear hcz55_2
    try clear hcz63_0
    try clear hcz63_1
    try clear hcz63_2
    try clear hcz66_0
    try clear hcz66_1
    try clear hcz66_2
    try clear hcz6_0
    try clear hcz6_1
    try clear hcz6_2
    try clear hcz71_0
    try clear hcz71_1
    try clear hcz71_2
    try clear hcz74_0
    try clear hcz74_1
    try clear hcz74_2
    try clear hfz11_0
    try clear hfz11_1
    try clear hfz11_2
    try clear hfz21_0
    try clear hfz21_1
    try clear hfz21_2
    try clear hfz23_0
    try clear hfz23_1
    try clear hfz23_2
    try clear hfz34_0
    try clear hfz34_1
    try clear hfz34_2
    try clear hfz37_0
    try clear hfz37_1
    try clear hfz37_2
    try clear hfz43_0
    try clear hfz43_1
    try clear hfz43_2
    try clear hfz47_0
    try clear hfz47_1
    try clear hfz47_2
    try clear hfz55_0
    try clear hfz55_1
    try clear hfz55_2
    try clear hfz63_0
    try clear hfz63_1
    try clear hfz63_2
    try clear hfz66_0
    try clear hfz66_1
    try clear hfz66_2
    try clear hfz6_0
    try clear hfz6_1
    try clear hfz6_2
    try clear hfz71_0
    try clear hfz71_1
    try clear hfz71_2
    try clear hfz74_0
    try clear hfz74_1
    try clear hfz74_2
    obtain ⟨kq,x53_18,rfl,HA,HJ18,HO_9,HO_324000,HO_324001,HO_324002,HO_334000,HO_334001,HO_334002,HO_348000,HO_348001,HO_348002,BK298,BK323,BK333,BK347,HB⟩:= hcut
    cases kq with
   |zero => exact absurd HA.out (by simp [laws_FnExactApplySwaps.j0])
   |succ kj18 =>
     have H:= HA.out
     clear HA
     simp only [laws_FnExactApplySwaps.j0] at H
     by_cases c76 : x53_18 = true
     ·subst c76
      have H1 : (some false) = some r:= by rw [if_pos rfl] at H;exact H
      clear H
      have H:= H1
      clear H1
      exact absurd ((Option.some.inj H).trans HRT.out) (by decide)
     ·replace c76:= Bool.eq_false_iff.mpr c76
      subst c76
      have H1 : ((laws_toCracker.f kj18 l0_0 l0_1 l0_2).bind fun bt349 => ((laws_eqCracker.f kj18 t324 t327 t330 bt349.1 bt349.2.1 bt349.2.2).bind fun t358 => (if t358 = true then ((laws_toSwapS.f kj18 l1).bind fun t359 => ((laws_eqSwapS.f kj18 t334 t359).bind fun t362 => (if t362 = true then ((laws_markCracker.f kj18 t324 t327 t330 1).bind fun bt363 => ((laws_markSwapS.f kj18 t334 bt363.1).bind fun bt367 => (if bt367.1 < 0 then (laws_FnExactApplySwaps.j1 kj18 l1 t322 true l0_0 l0_1 l0_2 t313 t316 t319 t337 t340 t343) else ((laws_eqCracker.f kj18 t337 t340 t343 t313 t316 t319).bind fun t369 => (if t369 = true then (laws_FnExactApplySwaps.j1 kj18 l1 t322 (t346 != t322) l0_0 l0_1 l0_2 t313 t316 t319 t337 t340 t343) else (laws_FnExactApplySwaps.j1 kj18 l1 t322 true l0_0 l0_1 l0_2 t313 t316 t319 t337 t340 t343)))))) else (some false)))) else (some false)))) = some r:= by rw [if_neg (show ¬ (false = true) by decide)] at H;exact H
      clear H
      have H:= H1
      clear H1
      replace H:= Option.bind_eq_some_iff.mp H
      obtain ⟨⟨t349,t352,t355⟩,A770,H⟩:= H
      replace H : ((laws_eqCracker.f kj18 t324 t327 t330 t349 t352 t355).bind fun t358 => (if t358 = true then ((laws_toSwapS.f kj18 l1).bind fun t359 => ((laws_eqSwapS.f kj18 t334 t359).bind fun t362 => (if t362 = true then ((laws_markCracker.f kj18 t324 t327 t330 1).bind fun bt363 => ((laws_markSwapS.f kj18 t334 bt363.1).bind fun bt367 => (if bt367.1 < 0 then (laws_FnExactApplySwaps.j1 kj18 l1 t322 true l0_0 l0_1 l0_2 t313 t316 t319 t337 t340 t343) else ((laws_eqCracker.f kj18 t337 t340 t343 t313 t316 t319).bind fun t369 => (if t369 = true then (laws_FnExactApplySwaps.j1 kj18 l1 t322 (t346 != t322) l0_0 l0_1 l0_2 t313 t316 t319 t337 t340 t343) else (laws_FnExactApplySwaps.j1 kj18 l1 t322 true l0_0 l0_1 l0_2 t313 t316 t319 t337 t340 t343)))))) else (some false)))) else (some false))) = some r:= H
      have A77:= mk A770
      clear A770
      replace H:= Option.bind_eq_some_iff.mp H
      obtain ⟨t358,A780,H⟩:= H
      replace H : (if t358 = true then ((laws_toSwapS.f kj18 l1).bind fun t359 => ((laws_eqSwapS.f kj18 t334 t359).bind fun t362 => (if t362 = true then ((laws_markCracker.f kj18 t324 t327 t330 1).bind fun bt363 => ((laws_markSwapS.f kj18 t334 bt363.1).bind fun bt367 => (if bt367.1 < 0 then (laws_FnExactApplySwaps.j1 kj18 l1 t322 true l0_0 l0_1 l0_2 t313 t316 t319 t337 t340 t343) else ((laws_eqCracker.f kj18 t337 t340 t343 t313 t316 t319).bind fun t369 => (if t369 = true then (laws_FnExactApplySwaps.j1 kj18 l1 t322 (t346 != t322) l0_0 l0_1 l0_2 t313 t316 t319 t337 t340 t343) else (laws_FnExactApplySwaps.j1 kj18 l1 t322 true l0_0 l0_1 l0_2 t313 t316 t319 t337 t340 t343)))))) else (some false)))) else (some false)) = some r:= H
      have A78:= mk A780
      clear A780
      by_cases c79 : t358 = true
      ·subst c79
       have H1 : ((laws_toSwapS.f kj18 l1).bind fun t359 => ((laws_eqSwapS.f kj18 t334 t359).bind fun t362 => (if t362 = true then ((laws_markCracker.f kj18 t324 t327 t330 1).bind fun bt363 => ((laws_markSwapS.f kj18 t334 bt363.1).bind fun bt367 => (if bt367.1 < 0 then (laws_FnExactApplySwaps.j1 kj18 l1 t322 true l0_0 l0_1 l0_2 t313 t316 t319 t337 t340 t343) else ((laws_eqCracker.f kj18 t337 t340 t343 t313 t316 t319).bind fun t369 => (if t369 = true then (laws_FnExactApplySwaps.j1 kj18 l1 t322 (t346 != t322) l0_0 l0_1 l0_2 t313 t316 t319 t337 t340 t343) else (laws_FnExactApplySwaps.j1 kj18 l1 t322 true l0_0 l0_1 l0_2 t313 t316 t319 t337 t340 t343)))))) else (some false)))) = some r:= by rw [if_pos rfl] at H;exact H
       clear H
       have H:= H1
       clear H1
       replace H:= Option.bind_eq_some_iff.mp H
       obtain ⟨t359,A800,H⟩:= H
       replace H : ((laws_eqSwapS.f kj18 t334 t359).bind fun t362 => (if t362 = true then ((laws_markCracker.f kj18 t324 t327 t330 1).bind fun bt363 => ((laws_markSwapS.f kj18 t334 bt363.1).bind fun bt367 => (if bt367.1 < 0 then (laws_FnExactApplySwaps.j1 kj18 l1 t322 true l0_0 l0_1 l0_2 t313 t316 t319 t337 t340 t343) else ((laws_eqCracker.f kj18 t337 t340 t343 t313 t316 t319).bind fun t369 => (if t369 = true then (laws_FnExactApplySwaps.j1 kj18 l1 t322 (t346 != t322) l0_0 l0_1 l0_2 t313 t316 t319 t337 t340 t343) else (laws_FnExactApplySwaps.j1 kj18 l1 t322 true l0_0 l0_1 l0_2 t313 t316 t319 t337 t340 t343)))))) else (some false))) = some r:= H
       have A80:= mk A800
       clear A800
       replace H:= Option.bind_eq_some_iff.mp H
       obtain ⟨t362,A810,H⟩:= H
       replace H : (if t362 = true then ((laws_markCracker.f kj18 t324 t327 t330 1).bind fun bt363 => ((laws_markSwapS.f kj18 t334 bt363.1).bind fun bt367 => (if bt367.1 < 0 then (laws_FnExactApplySwaps.j1 kj18 l1 t322 true l0_0 l0_1 l0_2 t313 t316 t319 t337 t340 t343) else ((laws_eqCracker.f kj18 t337 t340 t343 t313 t316 t319).bind fun t369 => (if t369 = true then (laws_FnExactApplySwaps.j1 kj18 l1 t322 (t346 != t322) l0_0 l0_1 l0_2 t313 t316 t319 t337 t340 t343) else (laws_FnExactApplySwaps.j1 kj18 l1 t322 true l0_0 l0_1 l0_2 t313 t316 t319 t337 t340 t343)))))) else (some false)) = some r:= H
       have A81:= mk A810
       clear A810
       by_cases c82 : t362 = true
       ·subst c82
        have H1 : ((laws_markCracker.f kj18 t324 t327 t330 1).bind fun bt363 => ((laws_markSwapS.f kj18 t334 bt363.1).bind fun bt367 => (if bt367.1 < 0 then (laws_FnExactApplySwaps.j1 kj18 l1 t322 true l0_0 l0_1 l0_2 t313 t316 t319 t337 t340 t343) else ((laws_eqCracker.f kj18 t337 t340 t343 t313 t316 t319).bind fun t369 => (if t369 = true then (laws_FnExactApplySwaps.j1 kj18 l1 t322 (t346 != t322) l0_0 l0_1 l0_2 t313 t316 t319 t337 t340 t343) else (laws_FnExactApplySwaps.j1 kj18 l1 t322 true l0_0 l0_1 l0_2 t313 t316 t319 t337 t340 t343)))))) = some r:= by rw [if_pos rfl] at H;exact H
        clear H
        have H:= H1
        clear H1
        replace H:= Option.bind_eq_some_iff.mp H
        obtain ⟨⟨t363,t364,t365,t366⟩,A830,H⟩:= H
        replace H : ((laws_markSwapS.f kj18 t334 t363).bind fun bt367 => (if bt367.1 < 0 then (laws_FnExactApplySwaps.j1 kj18 l1 t322 true l0_0 l0_1 l0_2 t313 t316 t319 t337 t340 t343) else ((laws_eqCracker.f kj18 t337 t340 t343 t313 t316 t319).bind fun t369 => (if t369 = true then (laws_FnExactApplySwaps.j1 kj18 l1 t322 (t346 != t322) l0_0 l0_1 l0_2 t313 t316 t319 t337 t340 t343) else (laws_FnExactApplySwaps.j1 kj18 l1 t322 true l0_0 l0_1 l0_2 t313 t316 t319 t337 t340 t343))))) = some r:= H
        have A83:= mk A830
        clear A830
        replace H:= Option.bind_eq_some_iff.mp H
        obtain ⟨⟨t367,t368⟩,A840,H⟩:= H
        replace H : (if t367 < 0 then (laws_FnExactApplySwaps.j1 kj18 l1 t322 true l0_0 l0_1 l0_2 t313 t316 t319 t337 t340 t343) else ((laws_eqCracker.f kj18 t337 t340 t343 t313 t316 t319).bind fun t369 => (if t369 = true then (laws_FnExactApplySwaps.j1 kj18 l1 t322 (t346 != t322) l0_0 l0_1 l0_2 t313 t316 t319 t337 t340 t343) else (laws_FnExactApplySwaps.j1 kj18 l1 t322 true l0_0 l0_1 l0_2 t313 t316 t319 t337 t340 t343)))) = some r:= H
        have A84:= mk A840
        clear A840
        have HC85:= mk H
        clear H
        try go_wp2
        have n0_:= mk (Kd.R_drew HO_9.out)
        have n1_:= mk (Kd.R_drew HO_324000.out)
        have n2_:= mk (Kd.R_drew HO_324001.out)
        have n3_:= mk (Kd.R_drew HO_324002.out)
        have n4_:= mk (Kd.R_drew HO_334000.out)
        have n5_:= mk (Kd.R_drew HO_334001.out)
        have n6_:= mk (Kd.R_drew HO_334002.out)
        have n7_:= mk (Kd.R_drew HO_348000.out)
        have n8_:= mk (Kd.R_drew HO_348001.out)
        have n9_:= mk (Kd.R_drew HO_348002.out)
        have n10_:= mk (blk_drew BK298.out)
        have n11_:= mk (blk_drew BK323.out)
        have n12_:= mk (blk_drew BK333.out)
        have n13_:= mk (blk_drew BK347.out)
        have n14_:= mk (below_drew1 HB.out)
        clear HO_9
        clear HO_324000
        clear HO_324001
        clear HO_324002
        clear HO_334000
        clear HO_334001
        clear HO_334002
        clear HO_348000
        clear HO_348001
        clear HO_348002
        clear BK298
        clear BK323
        clear BK333
        clear BK347
        clear HB
        have HO_9:= n0_
        have HO_324000:= n1_
        have HO_324001:= n2_
        have HO_324002:= n3_
        have HO_334000:= n4_
        have HO_334001:= n5_
        have HO_334002:= n6_
        have HO_348000:= n7_
        have HO_348001:= n8_
        have HO_348002:= n9_
        have BK298:= n10_
        have BK323:= n11_
        have BK333:= n12_
        have BK347:= n13_
        have HB:= n14_
        clear n0_ n1_ n2_ n3_ n4_ n5_ n6_ n7_ n8_ n9_ n10_ n11_ n12_ n13_ n14_
        refine start_ (n:= 5) (S:= fun w' => w'.cell? ⟨gb333,0,none⟩ = some (.slice Ao40 t324.length co40) ∧ w'.cell? ⟨gb333,1,none⟩ = some (.slice Ao44 t327.length co44) ∧ w'.cell? ⟨gb333,2,none⟩ = some (.slice Ao45 t330.length co45) ∧ w'.cell? ⟨gb298,0,none⟩ = some (.slice A0_0 l0_0.length c0_0) ∧ w'.cell? ⟨gb298,1,none⟩ = some (.slice A0_1 l0_1.length c0_1) ∧ w'.cell? ⟨gb298,2,none⟩ = some (.slice A0_2 l0_2.length c0_2)) (ds:= []) #[F_,F_,F_,F_,F_] (by kernel_rfl) rfl rfl ⟨(blk_cell BK333.out 0).trans rfl,(blk_cell BK333.out 1).trans rfl,(blk_cell BK333.out 2).trans rfl,(blk_cell BK298.out 0).trans rfl,(blk_cell BK298.out 1).trans rfl,(blk_cell BK298.out 2).trans rfl⟩ (fun hHeld => ?_)
        generalize wc.drew = w86 at HO_9 HO_324000 HO_324001 HO_324002 HO_334000 HO_334001 HO_334002 HO_348000 HO_348001 HO_348002 BK298 BK323 BK333 BK347 HB hHeld ⊢
        refine take_ (i:= 0) (N:= some 54) (v:= ?_) (a':= ?_) #[T_,F_,F_,F_,F_] rfl rfl (by kernel_rfl) (fun _ _ _ h => h) (Or.inl ⟨by rfl,?_⟩) hHeld ?_ ?_
        rotate_left
        ·rintro w' ⟨s0,s1,s2,s3,s4,s5⟩
         go_simp
         with_reducible rfl
        rotate_left
        ·simp only [Act.put,List.setIfInBounds_toArray,List.set_cons_zero,List.set_cons_succ,i64_w,i32_w]
         rfl
        refine take_ (i:= 1) (N:= some 55) (v:= ?_) (a':= ?_) #[T_,T_,F_,F_,F_] rfl rfl (by kernel_rfl) (fun _ _ _ h => h) (Or.inl ⟨by rfl,?_⟩) hHeld ?_ ?_
        rotate_left
        ·rintro w' ⟨s0,s1,s2,s3,s4,s5⟩
         go_simp
         with_reducible rfl
        rotate_left
        ·simp only [Act.put,List.setIfInBounds_toArray,List.set_cons_zero,List.set_cons_succ,i64_w,i32_w]
         rfl
        refine one_ (i:= 2) (N:= some 56) #[T_,T_,T_,F_,F_] rfl rfl (by kernel_rfl) (by decide) (fun K hK => ?_)
        refine goes_ Try.func9 (by kernel_rfl) rfl #[.agg #[.slice A0_0 l0_0.length c0_0,.slice A0_1 l0_1.length c0_1,.slice A0_2 l0_2.length c0_2]] (by rfl) rfl rfl (by (try simp only [List.map_toArray,List.map_cons,List.map_nil]);first|done|rfl|(simp only [List.length_drop,List.length_take];rfl)) ?_
        with_reducible refine (laws_toCracker.calls kj18 _ _ l0_0 _ _ l0_1 _ _ l0_2 t349 t352 t355 _ ?side1 ?side2 ?side3 ?side4 ?side5 ?side6 A77.out).mono ?_
        (case side1 => exact uc (Kd.C_below HR0_0.out HB.out))
        (case side2 => exact HC0_0.out)
        (case side3 => exact uc (Kd.C_below HR0_1.out HB.out))
        (case side4 => exact HC0_1.out)
        (case side5 => exact uc (Kd.C_below HR0_2.out HB.out))
        (case side6 => exact HC0_2.out)
        rintro e w87 ⟨v350,v353,v356,rfl,ho0,ho1,ho2,hb⟩
        refine ⟨_,rfl,?_⟩
        have n0_:= mk (Kd.R_below (up HO_9.out) hb)
        have n1_:= mk (Kd.R_mono (Kd.R_told (Kd.R_told (Kd.R_old (up HO_324000.out) hb) (Kd.R_base ho0)) (Kd.R_base ho1)) (fun _ h_ => h_.1))
        have n2_:= mk (Kd.R_mono (Kd.R_told (Kd.R_told (Kd.R_old (up HO_324001.out) hb) (Kd.R_base ho0)) (Kd.R_base ho1)) (fun _ h_ => h_.1))
        have n3_:= mk (Kd.R_elder' (up HO_324002.out) (Kd.R_base ho2) hb)
        have n4_:= mk (Kd.R_mono (Kd.R_told (Kd.R_told (Kd.R_old (up HO_334000.out) hb) (Kd.R_base ho0)) (Kd.R_base ho1)) (fun _ h_ => h_.1))
        have n5_:= mk (Kd.R_mono (Kd.R_told (Kd.R_told (Kd.R_old (up HO_334001.out) hb) (Kd.R_base ho0)) (Kd.R_base ho1)) (fun _ h_ => h_.1))
        have n6_:= mk (Kd.R_elder' (up HO_334002.out) (Kd.R_base ho2) hb)
        have n7_:= mk (Kd.R_mono (Kd.R_told (Kd.R_told (Kd.R_old (up HO_348000.out) hb) (Kd.R_base ho0)) (Kd.R_base ho1)) (fun _ h_ => h_.1))
        have n8_:= mk (Kd.R_mono (Kd.R_told (Kd.R_told (Kd.R_old (up HO_348001.out) hb) (Kd.R_base ho0)) (Kd.R_base ho1)) (fun _ h_ => h_.1))
        have n9_:= mk (Kd.R_elder' (up HO_348002.out) (Kd.R_base ho2) hb)
        have n10_:= mk (Kd.R_lower (Kd.R_new' (Kd.R_new' (Kd.R_new' (Kd.R_new' (Kd.R_new' (Kd.R_new' ho0 (Kd.R_lt (up HO_324000.out))) (Kd.R_lt (up HO_324001.out))) (Kd.R_lt (up HO_334000.out))) (Kd.R_lt (up HO_334001.out))) (Kd.R_lt (up HO_348000.out))) (Kd.R_lt (up HO_348001.out))) (below_size (by repeat (first|(with_reducible first|exact HB.out|apply below_alloc|apply pw_below_drewN|apply below_drew1|refine below_set ?_ GE298.out|refine below_set ?_ GE323.out|refine below_set ?_ GE333.out|refine below_set ?_ GE347.out)|exact HB.out))))
        have n11_:= mk (Kd.R_lower (Kd.R_new' (Kd.R_new' (Kd.R_new' (Kd.R_new' (Kd.R_new' (Kd.R_new' ho1 (Kd.R_lt (up HO_324000.out))) (Kd.R_lt (up HO_324001.out))) (Kd.R_lt (up HO_334000.out))) (Kd.R_lt (up HO_334001.out))) (Kd.R_lt (up HO_348000.out))) (Kd.R_lt (up HO_348001.out))) (below_size (by repeat (first|(with_reducible first|exact HB.out|apply below_alloc|apply pw_below_drewN|apply below_drew1|refine below_set ?_ GE298.out|refine below_set ?_ GE323.out|refine below_set ?_ GE333.out|refine below_set ?_ GE347.out)|exact HB.out))))
        have n12_:= mk (Kd.R_lower (Kd.R_new' (Kd.R_new' (Kd.R_new' ho2 (Kd.R_lt (up HO_324002.out))) (Kd.R_lt (up HO_334002.out))) (Kd.R_lt (up HO_348002.out))) (below_size (by repeat (first|(with_reducible first|exact HB.out|apply below_alloc|apply pw_below_drewN|apply below_drew1|refine below_set ?_ GE298.out|refine below_set ?_ GE323.out|refine below_set ?_ GE333.out|refine below_set ?_ GE347.out)|exact HB.out))))
        have n13_:= mk (blk_below (g:= gb298) (o:= .cells #[.slice A0_0 l0_0.length c0_0,.slice A0_1 l0_1.length c0_1,.slice A0_2 l0_2.length c0_2] 25 (0,0)) (ub BK298.out) hb)
        have n14_:= mk (blk_below (g:= gb323) (o:= .cells #[.slice Ao32 t313.length co32,.slice Ao35 t316.length co35,.slice Ao36 t319.length co36] 31 (0,0)) (ub BK323.out) hb)
        have n15_:= mk (blk_below (g:= gb333) (o:= .cells #[.slice Ao40 t324.length co40,.slice Ao44 t327.length co44,.slice Ao45 t330.length co45] 31 (0,0)) (ub BK333.out) hb)
        have n16_:= mk (blk_below (g:= gb347) (o:= .cells #[.slice Ao51 t337.length co51,.slice Ao56 t340.length co56,.slice Ao57 t343.length co57] 31 (0,0)) (ub BK347.out) hb)
        have n17_:= mk (below_step (by repeat (first|(with_reducible first|exact HB.out|apply below_alloc|apply pw_below_drewN|apply below_drew1|refine below_set ?_ GE298.out|refine below_set ?_ GE323.out|refine below_set ?_ GE333.out|refine below_set ?_ GE347.out)|exact HB.out)) hb)
        clear HO_9
        clear HO_324000
        clear HO_324001
        clear HO_324002
        clear HO_334000
        clear HO_334001
        clear HO_334002
        clear HO_348000
        clear HO_348001
        clear HO_348002
        clear BK298
        clear BK323
        clear BK333
        clear BK347
        clear HB
        have HO_9:= n0_
        have HO_324000:= n1_
        have HO_324001:= n2_
        have HO_324002:= n3_
        have HO_334000:= n4_
        have HO_334001:= n5_
        have HO_334002:= n6_
        have HO_348000:= n7_
        have HO_348001:= n8_
        have HO_348002:= n9_
        have HO351:= n10_
        have HO354:= n11_
        have HO357:= n12_
        have BK298:= n13_
        have BK323:= n14_
        have BK333:= n15_
        have BK347:= n16_
        have HB:= n17_
        clear n0_ n1_ n2_ n3_ n4_ n5_ n6_ n7_ n8_ n9_ n10_ n11_ n12_ n13_ n14_ n15_ n16_ n17_
        (try clear hb)
        (try clear hb2)
        (try clear hk)
        (try clear hi)
        (try clear ho0)
        (try clear ho1)
        (try clear ho2)
        obtain ⟨Ao88,co88,eo88⟩:= Kd.R_slice HO351.out
        (first|subst eo88|(injection eo88 with f1_ f2_ f3_;have f4_:= f1_.symm;have f5_:= f3_.symm;clear f1_ f2_ f3_;subst f4_;subst f5_))
        obtain ⟨Ao89,co89,eo89⟩:= Kd.R_slice HO354.out
        (first|subst eo89|(injection eo89 with f1_ f2_ f3_;have f4_:= f1_.symm;have f5_:= f3_.symm;clear f1_ f2_ f3_;subst f4_;subst f5_))
        obtain ⟨Ao90,co90,eo90⟩:= Kd.R_slice HO357.out
        (first|subst eo90|(injection eo90 with f1_ f2_ f3_;have f4_:= f1_.symm;have f5_:= f3_.symm;clear f1_ f2_ f3_;subst f4_;subst f5_))
        refine hK.out _ _ ⟨(blk_cell BK333.out 0).trans rfl,(blk_cell BK333.out 1).trans rfl,(blk_cell BK333.out 2).trans rfl,(blk_cell BK298.out 0).trans rfl,(blk_cell BK298.out 1).trans rfl,(blk_cell BK298.out 2).trans rfl⟩ (fun hHeld => ?_)
        clear hK K
        refine norm_ (a':= ?_) ?_ ?_
        rotate_left
        ·show Act.put _ (some 56) _ = _
         simp only [Act.put,List.setIfInBounds_toArray,List.set_cons_zero,List.set_cons_succ,i64_w,i32_w]
         rfl
        refine one_ (i:= 3) (N:= some 57) #[T_,T_,T_,T_,F_] rfl rfl (by kernel_rfl) (by decide) (fun K hK => ?_)
        refine goes_ Try.func12 (by kernel_rfl) rfl #[.agg #[.slice Ao40 t324.length co40,.slice Ao44 t327.length co44,.slice Ao45 t330.length co45],.agg #[.slice Ao88 t349.length co88,.slice Ao89 t352.length co89,.slice Ao90 t355.length co90]] (by rfl) rfl rfl (by (try simp only [List.map_toArray,List.map_cons,List.map_nil]);first|done|rfl|(simp only [List.length_drop,List.length_take];rfl)) ?_
        with_reducible refine (laws_eqCracker.calls kj18 _ _ t324 _ _ t327 _ _ t330 _ _ t349 _ _ t352 _ _ t355 true _ ?side1 ?side2 ?side3 ?side4 ?side5 ?side6 ?side7 ?side8 ?side9 ?side10 ?side11 ?side12 A78.out).mono ?_
        (case side1 => exact uc (Kd.R_reads' HO_334000.out).2.2)
        (case side2 => exact (Kd.R_reads' HO_334000.out).2.1)
        (case side3 => exact uc (Kd.R_reads' HO_334001.out).2.2)
        (case side4 => exact (Kd.R_reads' HO_334001.out).2.1)
        (case side5 => exact uc (Kd.R_reads' HO_334002.out).2.2)
        (case side6 => exact (Kd.R_reads' HO_334002.out).2.1)
        (case side7 => exact uc (Kd.R_reads' HO351.out).2.2)
        (case side8 => exact (Kd.R_reads' HO351.out).2.1)
        (case side9 => exact uc (Kd.R_reads' HO354.out).2.2)
        (case side10 => exact (Kd.R_reads' HO354.out).2.1)
        (case side11 => exact uc (Kd.R_reads' HO357.out).2.2)
        (case side12 => exact (Kd.R_reads' HO357.out).2.1)
        rintro e w91 ⟨rfl,hb⟩
        refine ⟨_,rfl,?_⟩
        have n0_:= mk (Kd.R_below (up HO_9.out) hb)
        have n1_:= mk (Kd.R_below (up HO_324000.out) hb)
        have n2_:= mk (Kd.R_below (up HO_324001.out) hb)
        have n3_:= mk (Kd.R_below (up HO_324002.out) hb)
        have n4_:= mk (Kd.R_below (up HO_334000.out) hb)
        have n5_:= mk (Kd.R_below (up HO_334001.out) hb)
        have n6_:= mk (Kd.R_below (up HO_334002.out) hb)
        have n7_:= mk (Kd.R_below (up HO_348000.out) hb)
        have n8_:= mk (Kd.R_below (up HO_348001.out) hb)
        have n9_:= mk (Kd.R_below (up HO_348002.out) hb)
        have n10_:= mk (Kd.R_below (up HO351.out) hb)
        have n11_:= mk (Kd.R_below (up HO354.out) hb)
        have n12_:= mk (Kd.R_below (up HO357.out) hb)
        have n13_:= mk (blk_below (g:= gb298) (o:= .cells #[.slice A0_0 l0_0.length c0_0,.slice A0_1 l0_1.length c0_1,.slice A0_2 l0_2.length c0_2] 25 (0,0)) (ub BK298.out) hb)
        have n14_:= mk (blk_below (g:= gb323) (o:= .cells #[.slice Ao32 t313.length co32,.slice Ao35 t316.length co35,.slice Ao36 t319.length co36] 31 (0,0)) (ub BK323.out) hb)
        have n15_:= mk (blk_below (g:= gb333) (o:= .cells #[.slice Ao40 t324.length co40,.slice Ao44 t327.length co44,.slice Ao45 t330.length co45] 31 (0,0)) (ub BK333.out) hb)
        have n16_:= mk (blk_below (g:= gb347) (o:= .cells #[.slice Ao51 t337.length co51,.slice Ao56 t340.length co56,.slice Ao57 t343.length co57] 31 (0,0)) (ub BK347.out) hb)
        have n17_:= mk (below_step (by repeat (first|(with_reducible first|exact HB.out|apply below_alloc|apply pw_below_drewN|apply below_drew1|refine below_set ?_ GE298.out|refine below_set ?_ GE323.out|refine below_set ?_ GE333.out|refine below_set ?_ GE347.out)|exact HB.out)) hb)
        clear HO_9
        clear HO_324000
        clear HO_324001
        clear HO_324002
        clear HO_334000
        clear HO_334001
        clear HO_334002
        clear HO_348000
        clear HO_348001
        clear HO_348002
        clear HO351
        clear HO354
        clear HO357
        clear BK298
        clear BK323
        clear BK333
        clear BK347
        clear HB
        have HO_9:= n0_
        have HO_324000:= n1_
        have HO_324001:= n2_
        have HO_324002:= n3_
        have HO_334000:= n4_
        have HO_334001:= n5_
        have HO_334002:= n6_
        have HO_348000:= n7_
        have HO_348001:= n8_
        have HO_348002:= n9_
        have HO351:= n10_
        have HO354:= n11_
        have HO357:= n12_
        have BK298:= n13_
        have BK323:= n14_
        have BK333:= n15_
        have BK347:= n16_
        have HB:= n17_
        clear n0_ n1_ n2_ n3_ n4_ n5_ n6_ n7_ n8_ n9_ n10_ n11_ n12_ n13_ n14_ n15_ n16_ n17_
        (try clear hb)
        (try clear hb2)
        (try clear hk)
        (try clear hi)
        refine hK.out _ _ ⟨(blk_cell BK333.out 0).trans rfl,(blk_cell BK333.out 1).trans rfl,(blk_cell BK333.out 2).trans rfl,(blk_cell BK298.out 0).trans rfl,(blk_cell BK298.out 1).trans rfl,(blk_cell BK298.out 2).trans rfl⟩ (fun hHeld => ?_)
        clear hK K
        refine norm_ (a':= ?_) ?_ ?_
        rotate_left
        ·show Act.put _ (some 57) _ = _
         simp only [Act.put,List.setIfInBounds_toArray,List.set_cons_zero,List.set_cons_succ,i64_w,i32_w]
         rfl
        refine pure_ (i:= 4) (N:= some 58) (v:= ?_) (a':= ?_) #[T_,T_,T_,T_,T_] rfl rfl (by kernel_rfl) (fun _ _ _ h => h) (Or.inl ⟨by rfl,?_⟩) ?_ ?_
        rotate_left
        ·intro w'
         go_simp
         with_reducible rfl
        rotate_left
        ·simp only [Act.put,List.setIfInBounds_toArray,List.set_cons_zero,List.set_cons_succ,i64_w,i32_w]
         rfl
        refine done_ (by kernel_rfl) ?_
        go_upto_region 21 with (first|((with_reducible refine gate_callee (f:= 10) rfl ?_);refine goesL_ (some 61) rfl rfl Try.func10 (by kernel_rfl) rfl #[.slice A1 l1.length c1] rfl (by (try simp only [List.map_toArray,List.map_cons,List.map_nil]);first|done|rfl|(simp only [List.length_drop,List.length_take];rfl)) ?_;(with_reducible refine (laws_toSwapS.calls kj18 _ _ l1 t359 _ ?side1 ?side2 A80.out).mono ?_);(case side1 => exact uc (Kd.C_below HR1.out HB.out));(case side2 => exact HC1.out);rintro e w92 ⟨v360,rfl,ho0,hb⟩;refine ⟨_,rfl,?_⟩;have n0_:= mk (Kd.R_elder' (up HO_9.out) (Kd.R_base ho0) hb);have n1_:= mk (Kd.R_below (up HO_324000.out) hb);have n2_:= mk (Kd.R_below (up HO_324001.out) hb);have n3_:= mk (Kd.R_below (up HO_324002.out) hb);have n4_:= mk (Kd.R_below (up HO_334000.out) hb);have n5_:= mk (Kd.R_below (up HO_334001.out) hb);have n6_:= mk (Kd.R_below (up HO_334002.out) hb);have n7_:= mk (Kd.R_below (up HO_348000.out) hb);have n8_:= mk (Kd.R_below (up HO_348001.out) hb);have n9_:= mk (Kd.R_below (up HO_348002.out) hb);have n10_:= mk (Kd.R_below (up HO351.out) hb);have n11_:= mk (Kd.R_below (up HO354.out) hb);have n12_:= mk (Kd.R_below (up HO357.out) hb);have n13_:= mk (Kd.R_lower (Kd.R_new' ho0 (Kd.R_lt (up HO_9.out))) (below_size (by repeat (first|(with_reducible first|exact HB.out|apply below_alloc|apply pw_below_drewN|apply below_drew1|refine below_set ?_ GE298.out|refine below_set ?_ GE323.out|refine below_set ?_ GE333.out|refine below_set ?_ GE347.out)|exact HB.out))));have n14_:= mk (blk_below (g:= gb298) (o:= .cells #[.slice A0_0 l0_0.length c0_0,.slice A0_1 l0_1.length c0_1,.slice A0_2 l0_2.length c0_2] 25 (0,0)) (ub BK298.out) hb);have n15_:= mk (blk_below (g:= gb323) (o:= .cells #[.slice Ao32 t313.length co32,.slice Ao35 t316.length co35,.slice Ao36 t319.length co36] 31 (0,0)) (ub BK323.out) hb);have n16_:= mk (blk_below (g:= gb333) (o:= .cells #[.slice Ao40 t324.length co40,.slice Ao44 t327.length co44,.slice Ao45 t330.length co45] 31 (0,0)) (ub BK333.out) hb);have n17_:= mk (blk_below (g:= gb347) (o:= .cells #[.slice Ao51 t337.length co51,.slice Ao56 t340.length co56,.slice Ao57 t343.length co57] 31 (0,0)) (ub BK347.out) hb);have n18_:= mk (below_step (by repeat (first|(with_reducible first|exact HB.out|apply below_alloc|apply pw_below_drewN|apply below_drew1|refine below_set ?_ GE298.out|refine below_set ?_ GE323.out|refine below_set ?_ GE333.out|refine below_set ?_ GE347.out)|exact HB.out)) hb);clear HO_9;clear HO_324000;clear HO_324001;clear HO_324002;clear HO_334000;clear HO_334001;clear HO_334002;clear HO_348000;clear HO_348001;clear HO_348002;clear HO351;clear HO354;clear HO357;clear BK298;clear BK323;clear BK333;clear BK347;clear HB;have HO_9:= n0_;have HO_324000:= n1_;have HO_324001:= n2_;have HO_324002:= n3_;have HO_334000:= n4_;have HO_334001:= n5_;have HO_334002:= n6_;have HO_348000:= n7_;have HO_348001:= n8_;have HO_348002:= n9_;have HO351:= n10_;have HO354:= n11_;have HO357:= n12_;have HO361:= n13_;have BK298:= n14_;have BK323:= n15_;have BK333:= n16_;have BK347:= n17_;have HB:= n18_;clear n0_ n1_ n2_ n3_ n4_ n5_ n6_ n7_ n8_ n9_ n10_ n11_ n12_ n13_ n14_ n15_ n16_ n17_ n18_;(try clear hb);(try clear hb2);(try clear hk);(try clear hi);(try clear ho0);obtain ⟨Ao93,co93,eo93⟩:= Kd.R_slice HO361.out;subst eo93)|((with_reducible refine gate_callee (f:= 13) rfl ?_);refine goesL_ (some 62) rfl rfl Try.func13 (by kernel_rfl) rfl #[.slice Ao48 t334.length co48,.slice Ao93 t359.length co93] rfl (by (try simp only [List.map_toArray,List.map_cons,List.map_nil]);first|done|rfl|(simp only [List.length_drop,List.length_take];rfl)) ?_;(with_reducible refine (laws_eqSwapS.calls kj18 _ _ t334 _ _ t359 true _ ?side1 ?side2 ?side3 ?side4 A81.out).mono ?_);(case side1 => exact uc (Kd.R_reads' HO_9.out).2.2);(case side2 => exact (Kd.R_reads' HO_9.out).2.1);(case side3 => exact uc (Kd.R_reads' HO361.out).2.2);(case side4 => exact (Kd.R_reads' HO361.out).2.1);rintro e w94 ⟨rfl,hb⟩;refine ⟨_,rfl,?_⟩;have n0_:= mk (Kd.R_below (up HO_9.out) hb);have n1_:= mk (Kd.R_below (up HO_324000.out) hb);have n2_:= mk (Kd.R_below (up HO_324001.out) hb);have n3_:= mk (Kd.R_below (up HO_324002.out) hb);have n4_:= mk (Kd.R_below (up HO_334000.out) hb);have n5_:= mk (Kd.R_below (up HO_334001.out) hb);have n6_:= mk (Kd.R_below (up HO_334002.out) hb);have n7_:= mk (Kd.R_below (up HO_348000.out) hb);have n8_:= mk (Kd.R_below (up HO_348001.out) hb);have n9_:= mk (Kd.R_below (up HO_348002.out) hb);have n10_:= mk (Kd.R_below (up HO351.out) hb);have n11_:= mk (Kd.R_below (up HO354.out) hb);have n12_:= mk (Kd.R_below (up HO357.out) hb);have n13_:= mk (Kd.R_below (up HO361.out) hb);have n14_:= mk (blk_below (g:= gb298) (o:= .cells #[.slice A0_0 l0_0.length c0_0,.slice A0_1 l0_1.length c0_1,.slice A0_2 l0_2.length c0_2] 25 (0,0)) (ub BK298.out) hb);have n15_:= mk (blk_below (g:= gb323) (o:= .cells #[.slice Ao32 t313.length co32,.slice Ao35 t316.length co35,.slice Ao36 t319.length co36] 31 (0,0)) (ub BK323.out) hb);have n16_:= mk (blk_below (g:= gb333) (o:= .cells #[.slice Ao40 t324.length co40,.slice Ao44 t327.length co44,.slice Ao45 t330.length co45] 31 (0,0)) (ub BK333.out) hb);have n17_:= mk (blk_below (g:= gb347) (o:= .cells #[.slice Ao51 t337.length co51,.slice Ao56 t340.length co56,.slice Ao57 t343.length co57] 31 (0,0)) (ub BK347.out) hb);have n18_:= mk (below_step (by repeat (first|(with_reducible first|exact HB.out|apply below_alloc|apply pw_below_drewN|apply below_drew1|refine below_set ?_ GE298.out|refine below_set ?_ GE323.out|refine below_set ?_ GE333.out|refine below_set ?_ GE347.out)|exact HB.out)) hb);clear HO_9;clear HO_324000;clear HO_324001;clear HO_324002;clear HO_334000;clear HO_334001;clear HO_334002;clear HO_348000;clear HO_348001;clear HO_348002;clear HO351;clear HO354;clear HO357;clear HO361;clear BK298;clear BK323;clear BK333;clear BK347;clear HB;have HO_9:= n0_;have HO_324000:= n1_;have HO_324001:= n2_;have HO_324002:= n3_;have HO_334000:= n4_;have HO_334001:= n5_;have HO_334002:= n6_;have HO_348000:= n7_;have HO_348001:= n8_;have HO_348002:= n9_;have HO351:= n10_;have HO354:= n11_;have HO357:= n12_;have HO361:= n13_;have BK298:= n14_;have BK323:= n15_;have BK333:= n16_;have BK347:= n17_;have HB:= n18_;clear n0_ n1_ n2_ n3_ n4_ n5_ n6_ n7_ n8_ n9_ n10_ n11_ n12_ n13_ n14_ n15_ n16_ n17_ n18_;(try clear hb);(try clear hb2);(try clear hk);(try clear hi);have hnb95:= NB333_298.out;have hnc95:= NB298_333.out;have hnb96:= NB333_323.out;have hnc96:= NB323_333.out;have hnb97:= NB333_347.out;have hnc97:= NB347_333.out;have hcz98_0 : w94.cell? ⟨gb333,0,none⟩ = some (.slice Ao40 t324.length co40):= (blk_cell BK333.out 0).trans rfl;have hcz98_1 : w94.cell? ⟨gb333,1,none⟩ = some (.slice Ao44 t327.length co44):= (blk_cell BK333.out 1).trans rfl;have hcz98_2 : w94.cell? ⟨gb333,2,none⟩ = some (.slice Ao45 t330.length co45):= (blk_cell BK333.out 2).trans rfl;have hfz98_0:= blk_frozen BK333.out 0;have hfz98_1:= blk_frozen BK333.out 1;have hfz98_2:= blk_frozen BK333.out 2)|((with_reducible refine gate_callee (f:= 14) rfl ?_);refine goesL_ (some 66) rfl rfl Try.func14 (by kernel_rfl) rfl #[.agg #[.slice Ao40 t324.length co40,.slice Ao44 t327.length co44,.slice Ao45 t330.length co45],.int .i64 1] rfl (by (try simp only [List.map_toArray,List.map_cons,List.map_nil]);first|done|rfl|(simp only [List.length_drop,List.length_take];rfl)) ?_;(with_reducible refine (laws_markCracker.calls kj18 (fun k_ => some k_ = (.slice Ao40 t324.length co40 : Value).ownBlock) (.slice Ao40 t324.length co40) t324 (fun k_ => some k_ = (.slice Ao44 t327.length co44 : Value).ownBlock) (.slice Ao44 t327.length co44) t327 (fun k_ => some k_ = (.slice Ao45 t330.length co45 : Value).ownBlock) (.slice Ao45 t330.length co45) t330 1 t363 t364 t365 t366 w _ ?side1 ?side2 ?side3 ?side4 ?side5 ?side6 A83.out).mono ?_);(case side1 => repeat (first|(with_reducible first|exact HB.out|apply below_alloc|apply pw_below_drewN|apply below_drew1|refine below_set ?_ GE298.out|refine below_set ?_ GE323.out|refine below_set ?_ GE333.out|refine below_set ?_ GE347.out)|exact HB.out));(case side2 => exact Kd.R_tight rfl HO_334000.out);(case side3 => exact fun k_ e_ => by first|exact (HO_334000.out.1 k_ e_.symm).1.1.2.2.1|(have h_:= (HO_334000.out.1 k_ e_.symm);first|exact h_|exact h_.1|exact h_.1.1|exact h_.1.1.1|exact h_.1.1.1.1|exact h_.1.1.1.1.1|exact h_.1.1.1.1.1.1|exact h_.1.1.1.1.1.1.1|exact h_.2|exact h_.1.2|exact h_.1.1.2|exact h_.1.1.1.2|exact h_.1.1.1.1.2|exact h_.1.1.1.1.1.2|exact h_.1.1.1.1.1.1.2|exact h_.1.1.1.1.1.1.1.2|(revert h_;simp only [and_imp];intros;assumption)));(case side4 => exact Kd.R_tight rfl HO_334001.out);(case side5 => exact fun k_ e_ => by first|exact (HO_334001.out.1 k_ e_.symm).1.1.2.2.1|(have h_:= (HO_334001.out.1 k_ e_.symm);first|exact h_|exact h_.1|exact h_.1.1|exact h_.1.1.1|exact h_.1.1.1.1|exact h_.1.1.1.1.1|exact h_.1.1.1.1.1.1|exact h_.1.1.1.1.1.1.1|exact h_.2|exact h_.1.2|exact h_.1.1.2|exact h_.1.1.1.2|exact h_.1.1.1.1.2|exact h_.1.1.1.1.1.2|exact h_.1.1.1.1.1.1.2|exact h_.1.1.1.1.1.1.1.2|(revert h_;simp only [and_imp];intros;assumption)));(case side6 => exact Kd.R_tight rfl HO_334002.out);rintro e w99 ⟨rfl,hy0,hy1,hy2,hb,hkp⟩;refine ⟨_,rfl,?_⟩;have n0_:= mk (Kd.R_mono (ok':= fun k_ => some k_ ≠ (.slice Ao93 t359.length co93 : Value).ownBlock) (Kd.R_keptB ((Kd.R_apart' (Kd.R_apart' (Kd.R_apart' HO_9.out (Kd.R_typed HO_334000.out) (by decide)) (Kd.R_typed HO_334001.out) (by decide)) (Kd.R_typed HO_334002.out) (by decide))) hkp (fun k_ hk_ hs_ => Or.elim hs_ (fun e_ => absurd e_ (by first|exact hk_.1.1.2|(revert hk_;simp only [and_imp];intros;assumption))) (fun e_ => Or.elim e_ (fun e_ => absurd e_ (by first|exact hk_.1.2|(revert hk_;simp only [and_imp];intros;assumption))) (fun e_ => absurd e_ (by first|exact hk_.2|(revert hk_;simp only [and_imp];intros;assumption)))))) (fun k_ hk_ => by first|exact hk_.1.1.1.1.2|(revert hk_;simp only [and_imp];intros;(repeat' (refine And.intro ?_ ?_)) <;> assumption)));have n1_:= mk (Kd.R_mono (ok':= fun k_ => some k_ ≠ (.slice Ao35 t316.length co35 : Value).ownBlock ∧ some k_ ≠ (.slice Ao40 t324.length co40 : Value).ownBlock ∧ some k_ ≠ (.slice Ao44 t327.length co44 : Value).ownBlock ∧ some k_ ≠ (.slice Ao51 t337.length co51 : Value).ownBlock ∧ some k_ ≠ (.slice Ao56 t340.length co56 : Value).ownBlock ∧ some k_ ≠ (.slice Ao88 t349.length co88 : Value).ownBlock ∧ some k_ ≠ (.slice Ao89 t352.length co89 : Value).ownBlock) (Kd.R_keptB ((Kd.R_apart' HO_324000.out (Kd.R_typed HO_334002.out) (by decide))) hkp (fun k_ hk_ hs_ => Or.elim hs_ (fun e_ => absurd e_ (by first|exact hk_.1.1.1.2.1|(revert hk_;simp only [and_imp];intros;assumption))) (fun e_ => Or.elim e_ (fun e_ => absurd e_ (by first|exact hk_.1.1.1.2.2.1|(revert hk_;simp only [and_imp];intros;assumption))) (fun e_ => absurd e_ (by first|exact hk_.2|(revert hk_;simp only [and_imp];intros;assumption)))))) (fun k_ hk_ => by first|exact ⟨hk_.1.1.1.1.1,hk_.1.1.1.1.2.1,hk_.1.1.1.1.2.2.1,hk_.1.1.1.1.2.2.2.1,hk_.1.1.1.1.2.2.2.2,hk_.1.1.1.2,hk_.1.1.2⟩|(revert hk_;simp only [and_imp];intros;(repeat' (refine And.intro ?_ ?_)) <;> assumption)));have n2_:= mk (Kd.R_mono (ok':= fun k_ => some k_ ≠ (.slice Ao32 t313.length co32 : Value).ownBlock ∧ some k_ ≠ (.slice Ao40 t324.length co40 : Value).ownBlock ∧ some k_ ≠ (.slice Ao44 t327.length co44 : Value).ownBlock ∧ some k_ ≠ (.slice Ao51 t337.length co51 : Value).ownBlock ∧ some k_ ≠ (.slice Ao56 t340.length co56 : Value).ownBlock ∧ some k_ ≠ (.slice Ao88 t349.length co88 : Value).ownBlock ∧ some k_ ≠ (.slice Ao89 t352.length co89 : Value).ownBlock) (Kd.R_keptB ((Kd.R_apart' HO_324001.out (Kd.R_typed HO_334002.out) (by decide))) hkp (fun k_ hk_ hs_ => Or.elim hs_ (fun e_ => absurd e_ (by first|exact hk_.1.1.1.2.1|(revert hk_;simp only [and_imp];intros;assumption))) (fun e_ => Or.elim e_ (fun e_ => absurd e_ (by first|exact hk_.1.1.1.2.2.1|(revert hk_;simp only [and_imp];intros;assumption))) (fun e_ => absurd e_ (by first|exact hk_.2|(revert hk_;simp only [and_imp];intros;assumption)))))) (fun k_ hk_ => by first|exact ⟨hk_.1.1.1.1.1,hk_.1.1.1.1.2.1,hk_.1.1.1.1.2.2.1,hk_.1.1.1.1.2.2.2.1,hk_.1.1.1.1.2.2.2.2,hk_.1.1.1.2,hk_.1.1.2⟩|(revert hk_;simp only [and_imp];intros;(repeat' (refine And.intro ?_ ?_)) <;> assumption)));have n3_:= mk (Kd.R_mono (ok':= fun k_ => some k_ ≠ (.slice Ao45 t330.length co45 : Value).ownBlock ∧ some k_ ≠ (.slice Ao57 t343.length co57 : Value).ownBlock ∧ some k_ ≠ (.slice Ao90 t355.length co90 : Value).ownBlock) (Kd.R_keptB ((Kd.R_apart' (Kd.R_apart' HO_324002.out (Kd.R_typed HO_334000.out) (by decide)) (Kd.R_typed HO_334001.out) (by decide))) hkp (fun k_ hk_ hs_ => Or.elim hs_ (fun e_ => absurd e_ (by first|exact hk_.1.2|(revert hk_;simp only [and_imp];intros;assumption))) (fun e_ => Or.elim e_ (fun e_ => absurd e_ (by first|exact hk_.2|(revert hk_;simp only [and_imp];intros;assumption))) (fun e_ => absurd e_ (by first|exact hk_.1.1.1.1|(revert hk_;simp only [and_imp];intros;assumption)))))) (fun k_ hk_ => by first|exact ⟨hk_.1.1.1.1.1,hk_.1.1.1.1.2,hk_.1.1.1.2⟩|(revert hk_;simp only [and_imp];intros;(repeat' (refine And.intro ?_ ?_)) <;> assumption)));have n4_:= mk (Kd.R_reok rfl hy0 (fun k_ e_ => HO_334000.out.1 k_ e_));have n5_:= mk (Kd.R_reok rfl hy1 (fun k_ e_ => HO_334001.out.1 k_ e_));have n6_:= mk (Kd.R_reok rfl hy2 (fun k_ e_ => HO_334002.out.1 k_ e_));have n7_:= mk (Kd.R_mono (ok':= fun k_ => some k_ ≠ (.slice Ao32 t313.length co32 : Value).ownBlock ∧ some k_ ≠ (.slice Ao35 t316.length co35 : Value).ownBlock ∧ some k_ ≠ (.slice Ao40 t324.length co40 : Value).ownBlock ∧ some k_ ≠ (.slice Ao44 t327.length co44 : Value).ownBlock ∧ some k_ ≠ (.slice Ao56 t340.length co56 : Value).ownBlock ∧ some k_ ≠ (.slice Ao88 t349.length co88 : Value).ownBlock ∧ some k_ ≠ (.slice Ao89 t352.length co89 : Value).ownBlock) (Kd.R_keptB ((Kd.R_apart' HO_348000.out (Kd.R_typed HO_334002.out) (by decide))) hkp (fun k_ hk_ hs_ => Or.elim hs_ (fun e_ => absurd e_ (by first|exact hk_.1.1.1.2.2.1|(revert hk_;simp only [and_imp];intros;assumption))) (fun e_ => Or.elim e_ (fun e_ => absurd e_ (by first|exact hk_.1.1.1.2.2.2.1|(revert hk_;simp only [and_imp];intros;assumption))) (fun e_ => absurd e_ (by first|exact hk_.2|(revert hk_;simp only [and_imp];intros;assumption)))))) (fun k_ hk_ => by first|exact ⟨hk_.1.1.1.1.1,hk_.1.1.1.1.2.1,hk_.1.1.1.1.2.2.1,hk_.1.1.1.1.2.2.2.1,hk_.1.1.1.1.2.2.2.2,hk_.1.1.1.2,hk_.1.1.2⟩|(revert hk_;simp only [and_imp];intros;(repeat' (refine And.intro ?_ ?_)) <;> assumption)));have n8_:= mk (Kd.R_mono (ok':= fun k_ => some k_ ≠ (.slice Ao32 t313.length co32 : Value).ownBlock ∧ some k_ ≠ (.slice Ao35 t316.length co35 : Value).ownBlock ∧ some k_ ≠ (.slice Ao40 t324.length co40 : Value).ownBlock ∧ some k_ ≠ (.slice Ao44 t327.length co44 : Value).ownBlock ∧ some k_ ≠ (.slice Ao51 t337.length co51 : Value).ownBlock ∧ some k_ ≠ (.slice Ao88 t349.length co88 : Value).ownBlock ∧ some k_ ≠ (.slice Ao89 t352.length co89 : Value).ownBlock) (Kd.R_keptB ((Kd.R_apart' HO_348001.out (Kd.R_typed HO_334002.out) (by decide))) hkp (fun k_ hk_ hs_ => Or.elim hs_ (fun e_ => absurd e_ (by first|exact hk_.1.1.1.2.2.1|(revert hk_;simp only [and_imp];intros;assumption))) (fun e_ => Or.elim e_ (fun e_ => absurd e_ (by first|exact hk_.1.1.1.2.2.2.1|(revert hk_;simp only [and_imp];intros;assumption))) (fun e_ => absurd e_ (by first|exact hk_.2|(revert hk_;simp only [and_imp];intros;assumption)))))) (fun k_ hk_ => by first|exact ⟨hk_.1.1.1.1.1,hk_.1.1.1.1.2.1,hk_.1.1.1.1.2.2.1,hk_.1.1.1.1.2.2.2.1,hk_.1.1.1.1.2.2.2.2,hk_.1.1.1.2,hk_.1.1.2⟩|(revert hk_;simp only [and_imp];intros;(repeat' (refine And.intro ?_ ?_)) <;> assumption)));have n9_:= mk (Kd.R_mono (ok':= fun k_ => some k_ ≠ (.slice Ao36 t319.length co36 : Value).ownBlock ∧ some k_ ≠ (.slice Ao45 t330.length co45 : Value).ownBlock ∧ some k_ ≠ (.slice Ao90 t355.length co90 : Value).ownBlock) (Kd.R_keptB ((Kd.R_apart' (Kd.R_apart' HO_348002.out (Kd.R_typed HO_334000.out) (by decide)) (Kd.R_typed HO_334001.out) (by decide))) hkp (fun k_ hk_ hs_ => Or.elim hs_ (fun e_ => absurd e_ (by first|exact hk_.1.2|(revert hk_;simp only [and_imp];intros;assumption))) (fun e_ => Or.elim e_ (fun e_ => absurd e_ (by first|exact hk_.2|(revert hk_;simp only [and_imp];intros;assumption))) (fun e_ => absurd e_ (by first|exact hk_.1.1.1.2|(revert hk_;simp only [and_imp];intros;assumption)))))) (fun k_ hk_ => by first|exact ⟨hk_.1.1.1.1.1,hk_.1.1.1.1.2,hk_.1.1.1.2⟩|(revert hk_;simp only [and_imp];intros;(repeat' (refine And.intro ?_ ?_)) <;> assumption)));have n10_:= mk (blk_kept (ub BK298.out) hkp (fun hs_ => Or.elim hs_ (fun e_ => (fun e_ => (Kd.R_ne HO_334000.out BK298.out (by decide)) e_) e_) (fun e_ => Or.elim e_ (fun e_ => (fun e_ => (Kd.R_ne HO_334001.out BK298.out (by decide)) e_) e_) (fun e_ => (fun e_ => (Kd.R_ne HO_334002.out BK298.out (by decide)) e_) e_))));have n11_:= mk (blk_kept (ub BK323.out) hkp (fun hs_ => Or.elim hs_ (fun e_ => (fun e_ => (Kd.R_ne HO_334000.out BK323.out (by decide)) e_) e_) (fun e_ => Or.elim e_ (fun e_ => (fun e_ => (Kd.R_ne HO_334001.out BK323.out (by decide)) e_) e_) (fun e_ => (fun e_ => (Kd.R_ne HO_334002.out BK323.out (by decide)) e_) e_))));have n12_:= mk (blk_kept (ub BK333.out) hkp (fun hs_ => Or.elim hs_ (fun e_ => (fun e_ => (Kd.R_ne HO_334000.out BK333.out (by decide)) e_) e_) (fun e_ => Or.elim e_ (fun e_ => (fun e_ => (Kd.R_ne HO_334001.out BK333.out (by decide)) e_) e_) (fun e_ => (fun e_ => (Kd.R_ne HO_334002.out BK333.out (by decide)) e_) e_))));have n13_:= mk (blk_kept (ub BK347.out) hkp (fun hs_ => Or.elim hs_ (fun e_ => (fun e_ => (Kd.R_ne HO_334000.out BK347.out (by decide)) e_) e_) (fun e_ => Or.elim e_ (fun e_ => (fun e_ => (Kd.R_ne HO_334001.out BK347.out (by decide)) e_) e_) (fun e_ => (fun e_ => (Kd.R_ne HO_334002.out BK347.out (by decide)) e_) e_))));have n14_:= mk (Kd.R_mono (ok':= fun k_ => some k_ ≠ (.slice Ao32 t313.length co32 : Value).ownBlock ∧ some k_ ≠ (.slice Ao35 t316.length co35 : Value).ownBlock ∧ some k_ ≠ (.slice Ao40 t324.length co40 : Value).ownBlock ∧ some k_ ≠ (.slice Ao44 t327.length co44 : Value).ownBlock ∧ some k_ ≠ (.slice Ao51 t337.length co51 : Value).ownBlock ∧ some k_ ≠ (.slice Ao56 t340.length co56 : Value).ownBlock ∧ some k_ ≠ (.slice Ao89 t352.length co89 : Value).ownBlock) (Kd.R_keptB ((Kd.R_apart' HO351.out (Kd.R_typed HO_334002.out) (by decide))) hkp (fun k_ hk_ hs_ => Or.elim hs_ (fun e_ => absurd e_ (by first|exact hk_.1.1.1.1.2|(revert hk_;simp only [and_imp];intros;assumption))) (fun e_ => Or.elim e_ (fun e_ => absurd e_ (by first|exact hk_.1.1.1.2|(revert hk_;simp only [and_imp];intros;assumption))) (fun e_ => absurd e_ (by first|exact hk_.2|(revert hk_;simp only [and_imp];intros;assumption)))))) (fun k_ hk_ => by first|exact ⟨hk_.1.1.1.1.1.1.1.2,hk_.1.1.1.1.1.1.2,hk_.1.1.1.1.1.2,hk_.1.1.1.1.2,hk_.1.1.1.2,hk_.1.1.2,hk_.1.1.1.1.1.1.1.1⟩|(revert hk_;simp only [and_imp];intros;(repeat' (refine And.intro ?_ ?_)) <;> assumption)));have n15_:= mk (Kd.R_mono (ok':= fun k_ => some k_ ≠ (.slice Ao32 t313.length co32 : Value).ownBlock ∧ some k_ ≠ (.slice Ao35 t316.length co35 : Value).ownBlock ∧ some k_ ≠ (.slice Ao40 t324.length co40 : Value).ownBlock ∧ some k_ ≠ (.slice Ao44 t327.length co44 : Value).ownBlock ∧ some k_ ≠ (.slice Ao51 t337.length co51 : Value).ownBlock ∧ some k_ ≠ (.slice Ao56 t340.length co56 : Value).ownBlock ∧ some k_ ≠ (.slice Ao88 t349.length co88 : Value).ownBlock) (Kd.R_keptB ((Kd.R_apart' HO354.out (Kd.R_typed HO_334002.out) (by decide))) hkp (fun k_ hk_ hs_ => Or.elim hs_ (fun e_ => absurd e_ (by first|exact hk_.1.1.1.1.2|(revert hk_;simp only [and_imp];intros;assumption))) (fun e_ => Or.elim e_ (fun e_ => absurd e_ (by first|exact hk_.1.1.1.2|(revert hk_;simp only [and_imp];intros;assumption))) (fun e_ => absurd e_ (by first|exact hk_.2|(revert hk_;simp only [and_imp];intros;assumption)))))) (fun k_ hk_ => by first|exact ⟨hk_.1.1.1.1.1.1.1.2,hk_.1.1.1.1.1.1.2,hk_.1.1.1.1.1.2,hk_.1.1.1.1.2,hk_.1.1.1.2,hk_.1.1.2,hk_.1.1.1.1.1.1.1.1⟩|(revert hk_;simp only [and_imp];intros;(repeat' (refine And.intro ?_ ?_)) <;> assumption)));have n16_:= mk (Kd.R_mono (ok':= fun k_ => some k_ ≠ (.slice Ao36 t319.length co36 : Value).ownBlock ∧ some k_ ≠ (.slice Ao45 t330.length co45 : Value).ownBlock ∧ some k_ ≠ (.slice Ao57 t343.length co57 : Value).ownBlock) (Kd.R_keptB ((Kd.R_apart' (Kd.R_apart' HO357.out (Kd.R_typed HO_334000.out) (by decide)) (Kd.R_typed HO_334001.out) (by decide))) hkp (fun k_ hk_ hs_ => Or.elim hs_ (fun e_ => absurd e_ (by first|exact hk_.1.2|(revert hk_;simp only [and_imp];intros;assumption))) (fun e_ => Or.elim e_ (fun e_ => absurd e_ (by first|exact hk_.2|(revert hk_;simp only [and_imp];intros;assumption))) (fun e_ => absurd e_ (by first|exact hk_.1.1.1.2|(revert hk_;simp only [and_imp];intros;assumption)))))) (fun k_ hk_ => by first|exact ⟨hk_.1.1.1.1.1.2,hk_.1.1.1.1.2,hk_.1.1.1.2⟩|(revert hk_;simp only [and_imp];intros;(repeat' (refine And.intro ?_ ?_)) <;> assumption)));have n17_:= mk (Kd.R_mono (ok':= fun k_ => some k_ ≠ (.slice Ao48 t334.length co48 : Value).ownBlock) (Kd.R_keptB ((Kd.R_apart' (Kd.R_apart' (Kd.R_apart' HO361.out (Kd.R_typed HO_334000.out) (by decide)) (Kd.R_typed HO_334001.out) (by decide)) (Kd.R_typed HO_334002.out) (by decide))) hkp (fun k_ hk_ hs_ => Or.elim hs_ (fun e_ => absurd e_ (by first|exact hk_.1.1.2|(revert hk_;simp only [and_imp];intros;assumption))) (fun e_ => Or.elim e_ (fun e_ => absurd e_ (by first|exact hk_.1.2|(revert hk_;simp only [and_imp];intros;assumption))) (fun e_ => absurd e_ (by first|exact hk_.2|(revert hk_;simp only [and_imp];intros;assumption)))))) (fun k_ hk_ => by first|exact hk_.1.1.1.1.2|(revert hk_;simp only [and_imp];intros;(repeat' (refine And.intro ?_ ?_)) <;> assumption)));have n18_:= mk (hb);clear HO_9;clear HO_324000;clear HO_324001;clear HO_324002;clear HO_334000;clear HO_334001;clear HO_334002;clear HO_348000;clear HO_348001;clear HO_348002;clear BK298;clear BK323;clear BK333;clear BK347;clear HO351;clear HO354;clear HO357;clear HO361;clear HB;have HO_9:= n0_;have HO_324000:= n1_;have HO_324001:= n2_;have HO_324002:= n3_;have HO_334000:= n4_;have HO_334001:= n5_;have HO_334002:= n6_;have HO_348000:= n7_;have HO_348001:= n8_;have HO_348002:= n9_;have BK298:= n10_;have BK323:= n11_;have BK333:= n12_;have BK347:= n13_;have HO351:= n14_;have HO354:= n15_;have HO357:= n16_;have HO361:= n17_;have HB:= n18_;clear n0_ n1_ n2_ n3_ n4_ n5_ n6_ n7_ n8_ n9_ n10_ n11_ n12_ n13_ n14_ n15_ n16_ n17_ n18_;(try clear hb);(try clear hkp);(try clear hy0);(try clear hy1);(try clear hy2))|((with_reducible refine gate_callee (f:= 15) rfl ?_);refine goesL_ (some 69) rfl rfl Try.func15 (by kernel_rfl) rfl #[.slice Ao48 t334.length co48,.int .i64 t363] rfl (by (try simp only [List.map_toArray,List.map_cons,List.map_nil]);first|done|rfl|(simp only [List.length_drop,List.length_take];rfl)) ?_;(with_reducible refine (laws_markSwapS.calls kj18 (fun k_ => some k_ = (.slice Ao48 t334.length co48 : Value).ownBlock) (.slice Ao48 t334.length co48) t334 t363 t367 t368 w _ ?side1 ?side2 A84.out).mono ?_);(case side1 => repeat (first|(with_reducible first|exact HB.out|apply below_alloc|apply pw_below_drewN|apply below_drew1|refine below_set ?_ GE298.out|refine below_set ?_ GE323.out|refine below_set ?_ GE333.out|refine below_set ?_ GE347.out)|exact HB.out));(case side2 => exact Kd.R_tight rfl HO_9.out);rintro e w100 ⟨rfl,hy0,hb,hkp⟩;refine ⟨_,rfl,?_⟩;have n0_:= mk (Kd.R_reok rfl hy0 (fun k_ e_ => HO_9.out.1 k_ e_));have n1_:= mk (Kd.R_mono (ok':= fun k_ => some k_ ≠ (.slice Ao35 t316.length co35 : Value).ownBlock ∧ some k_ ≠ (.slice Ao40 t324.length co40 : Value).ownBlock ∧ some k_ ≠ (.slice Ao44 t327.length co44 : Value).ownBlock ∧ some k_ ≠ (.slice Ao51 t337.length co51 : Value).ownBlock ∧ some k_ ≠ (.slice Ao56 t340.length co56 : Value).ownBlock ∧ some k_ ≠ (.slice Ao88 t349.length co88 : Value).ownBlock ∧ some k_ ≠ (.slice Ao89 t352.length co89 : Value).ownBlock) (Kd.R_keptB ((Kd.R_apart' HO_324000.out (Kd.R_typed HO_9.out) (by decide))) hkp (fun k_ hk_ hs_ => (hk_.2) hs_)) (fun k_ hk_ => by first|exact ⟨hk_.1.1.1,hk_.1.1.2.1,hk_.1.1.2.2.1,hk_.1.1.2.2.2.1,hk_.1.1.2.2.2.2.1,hk_.1.1.2.2.2.2.2.1,hk_.1.1.2.2.2.2.2.2⟩|(revert hk_;simp only [and_imp];intros;(repeat' (refine And.intro ?_ ?_)) <;> assumption)));have n2_:= mk (Kd.R_mono (ok':= fun k_ => some k_ ≠ (.slice Ao32 t313.length co32 : Value).ownBlock ∧ some k_ ≠ (.slice Ao40 t324.length co40 : Value).ownBlock ∧ some k_ ≠ (.slice Ao44 t327.length co44 : Value).ownBlock ∧ some k_ ≠ (.slice Ao51 t337.length co51 : Value).ownBlock ∧ some k_ ≠ (.slice Ao56 t340.length co56 : Value).ownBlock ∧ some k_ ≠ (.slice Ao88 t349.length co88 : Value).ownBlock ∧ some k_ ≠ (.slice Ao89 t352.length co89 : Value).ownBlock) (Kd.R_keptB ((Kd.R_apart' HO_324001.out (Kd.R_typed HO_9.out) (by decide))) hkp (fun k_ hk_ hs_ => (hk_.2) hs_)) (fun k_ hk_ => by first|exact ⟨hk_.1.1.1,hk_.1.1.2.1,hk_.1.1.2.2.1,hk_.1.1.2.2.2.1,hk_.1.1.2.2.2.2.1,hk_.1.1.2.2.2.2.2.1,hk_.1.1.2.2.2.2.2.2⟩|(revert hk_;simp only [and_imp];intros;(repeat' (refine And.intro ?_ ?_)) <;> assumption)));have n3_:= mk (Kd.R_mono (ok':= fun k_ => some k_ ≠ (.slice Ao45 t330.length co45 : Value).ownBlock ∧ some k_ ≠ (.slice Ao57 t343.length co57 : Value).ownBlock ∧ some k_ ≠ (.slice Ao90 t355.length co90 : Value).ownBlock) (Kd.R_keptB ((Kd.R_apart' HO_324002.out (Kd.R_typed HO_9.out) (by decide))) hkp (fun k_ hk_ hs_ => (hk_.2) hs_)) (fun k_ hk_ => by first|exact ⟨hk_.1.1.1,hk_.1.1.2.1,hk_.1.1.2.2⟩|(revert hk_;simp only [and_imp];intros;(repeat' (refine And.intro ?_ ?_)) <;> assumption)));have n4_:= mk (Kd.R_mono (ok':= fun k_ => some k_ ≠ (.slice Ao32 t313.length co32 : Value).ownBlock ∧ some k_ ≠ (.slice Ao35 t316.length co35 : Value).ownBlock ∧ some k_ ≠ (.slice Ao44 t327.length co44 : Value).ownBlock ∧ some k_ ≠ (.slice Ao51 t337.length co51 : Value).ownBlock ∧ some k_ ≠ (.slice Ao56 t340.length co56 : Value).ownBlock ∧ some k_ ≠ (.slice Ao88 t349.length co88 : Value).ownBlock ∧ some k_ ≠ (.slice Ao89 t352.length co89 : Value).ownBlock) (Kd.R_keptB ((Kd.R_apart' HO_334000.out (Kd.R_typed HO_9.out) (by decide))) hkp (fun k_ hk_ hs_ => (hk_.2) hs_)) (fun k_ hk_ => by first|exact ⟨hk_.1.1.1.1.1,hk_.1.1.1.1.2.1,hk_.1.1.1.1.2.2.1,hk_.1.1.1.1.2.2.2.1,hk_.1.1.1.1.2.2.2.2,hk_.1.1.1.2,hk_.1.1.2⟩|(revert hk_;simp only [and_imp];intros;(repeat' (refine And.intro ?_ ?_)) <;> assumption)));have n5_:= mk (Kd.R_mono (ok':= fun k_ => some k_ ≠ (.slice Ao32 t313.length co32 : Value).ownBlock ∧ some k_ ≠ (.slice Ao35 t316.length co35 : Value).ownBlock ∧ some k_ ≠ (.slice Ao40 t324.length co40 : Value).ownBlock ∧ some k_ ≠ (.slice Ao51 t337.length co51 : Value).ownBlock ∧ some k_ ≠ (.slice Ao56 t340.length co56 : Value).ownBlock ∧ some k_ ≠ (.slice Ao88 t349.length co88 : Value).ownBlock ∧ some k_ ≠ (.slice Ao89 t352.length co89 : Value).ownBlock) (Kd.R_keptB ((Kd.R_apart' HO_334001.out (Kd.R_typed HO_9.out) (by decide))) hkp (fun k_ hk_ hs_ => (hk_.2) hs_)) (fun k_ hk_ => by first|exact ⟨hk_.1.1.1.1.1,hk_.1.1.1.1.2.1,hk_.1.1.1.1.2.2.1,hk_.1.1.1.1.2.2.2.1,hk_.1.1.1.1.2.2.2.2,hk_.1.1.1.2,hk_.1.1.2⟩|(revert hk_;simp only [and_imp];intros;(repeat' (refine And.intro ?_ ?_)) <;> assumption)));have n6_:= mk (Kd.R_mono (ok':= fun k_ => some k_ ≠ (.slice Ao36 t319.length co36 : Value).ownBlock ∧ some k_ ≠ (.slice Ao57 t343.length co57 : Value).ownBlock ∧ some k_ ≠ (.slice Ao90 t355.length co90 : Value).ownBlock) (Kd.R_keptB ((Kd.R_apart' HO_334002.out (Kd.R_typed HO_9.out) (by decide))) hkp (fun k_ hk_ hs_ => (hk_.2) hs_)) (fun k_ hk_ => by first|exact ⟨hk_.1.1.1.1,hk_.1.1.1.2,hk_.1.1.2⟩|(revert hk_;simp only [and_imp];intros;(repeat' (refine And.intro ?_ ?_)) <;> assumption)));have n7_:= mk (Kd.R_mono (ok':= fun k_ => some k_ ≠ (.slice Ao32 t313.length co32 : Value).ownBlock ∧ some k_ ≠ (.slice Ao35 t316.length co35 : Value).ownBlock ∧ some k_ ≠ (.slice Ao40 t324.length co40 : Value).ownBlock ∧ some k_ ≠ (.slice Ao44 t327.length co44 : Value).ownBlock ∧ some k_ ≠ (.slice Ao56 t340.length co56 : Value).ownBlock ∧ some k_ ≠ (.slice Ao88 t349.length co88 : Value).ownBlock ∧ some k_ ≠ (.slice Ao89 t352.length co89 : Value).ownBlock) (Kd.R_keptB ((Kd.R_apart' HO_348000.out (Kd.R_typed HO_9.out) (by decide))) hkp (fun k_ hk_ hs_ => (hk_.2) hs_)) (fun k_ hk_ => by first|exact ⟨hk_.1.1.1,hk_.1.1.2.1,hk_.1.1.2.2.1,hk_.1.1.2.2.2.1,hk_.1.1.2.2.2.2.1,hk_.1.1.2.2.2.2.2.1,hk_.1.1.2.2.2.2.2.2⟩|(revert hk_;simp only [and_imp];intros;(repeat' (refine And.intro ?_ ?_)) <;> assumption)));have n8_:= mk (Kd.R_mono (ok':= fun k_ => some k_ ≠ (.slice Ao32 t313.length co32 : Value).ownBlock ∧ some k_ ≠ (.slice Ao35 t316.length co35 : Value).ownBlock ∧ some k_ ≠ (.slice Ao40 t324.length co40 : Value).ownBlock ∧ some k_ ≠ (.slice Ao44 t327.length co44 : Value).ownBlock ∧ some k_ ≠ (.slice Ao51 t337.length co51 : Value).ownBlock ∧ some k_ ≠ (.slice Ao88 t349.length co88 : Value).ownBlock ∧ some k_ ≠ (.slice Ao89 t352.length co89 : Value).ownBlock) (Kd.R_keptB ((Kd.R_apart' HO_348001.out (Kd.R_typed HO_9.out) (by decide))) hkp (fun k_ hk_ hs_ => (hk_.2) hs_)) (fun k_ hk_ => by first|exact ⟨hk_.1.1.1,hk_.1.1.2.1,hk_.1.1.2.2.1,hk_.1.1.2.2.2.1,hk_.1.1.2.2.2.2.1,hk_.1.1.2.2.2.2.2.1,hk_.1.1.2.2.2.2.2.2⟩|(revert hk_;simp only [and_imp];intros;(repeat' (refine And.intro ?_ ?_)) <;> assumption)));have n9_:= mk (Kd.R_mono (ok':= fun k_ => some k_ ≠ (.slice Ao36 t319.length co36 : Value).ownBlock ∧ some k_ ≠ (.slice Ao45 t330.length co45 : Value).ownBlock ∧ some k_ ≠ (.slice Ao90 t355.length co90 : Value).ownBlock) (Kd.R_keptB ((Kd.R_apart' HO_348002.out (Kd.R_typed HO_9.out) (by decide))) hkp (fun k_ hk_ hs_ => (hk_.2) hs_)) (fun k_ hk_ => by first|exact ⟨hk_.1.1.1,hk_.1.1.2.1,hk_.1.1.2.2⟩|(revert hk_;simp only [and_imp];intros;(repeat' (refine And.intro ?_ ?_)) <;> assumption)));have n10_:= mk (blk_kept (ub BK298.out) hkp (fun hs_ => (fun e_ => (Kd.R_ne HO_9.out BK298.out (by decide)) e_) hs_));have n11_:= mk (blk_kept (ub BK323.out) hkp (fun hs_ => (fun e_ => (Kd.R_ne HO_9.out BK323.out (by decide)) e_) hs_));have n12_:= mk (blk_kept (ub BK333.out) hkp (fun hs_ => (fun e_ => (Kd.R_ne HO_9.out BK333.out (by decide)) e_) hs_));have n13_:= mk (blk_kept (ub BK347.out) hkp (fun hs_ => (fun e_ => (Kd.R_ne HO_9.out BK347.out (by decide)) e_) hs_));have n14_:= mk (Kd.R_mono (ok':= fun k_ => some k_ ≠ (.slice Ao32 t313.length co32 : Value).ownBlock ∧ some k_ ≠ (.slice Ao35 t316.length co35 : Value).ownBlock ∧ some k_ ≠ (.slice Ao40 t324.length co40 : Value).ownBlock ∧ some k_ ≠ (.slice Ao44 t327.length co44 : Value).ownBlock ∧ some k_ ≠ (.slice Ao51 t337.length co51 : Value).ownBlock ∧ some k_ ≠ (.slice Ao56 t340.length co56 : Value).ownBlock ∧ some k_ ≠ (.slice Ao89 t352.length co89 : Value).ownBlock) (Kd.R_keptB ((Kd.R_apart' HO351.out (Kd.R_typed HO_9.out) (by decide))) hkp (fun k_ hk_ hs_ => (hk_.2) hs_)) (fun k_ hk_ => by first|exact ⟨hk_.1.1.1,hk_.1.1.2.1,hk_.1.1.2.2.1,hk_.1.1.2.2.2.1,hk_.1.1.2.2.2.2.1,hk_.1.1.2.2.2.2.2.1,hk_.1.1.2.2.2.2.2.2⟩|(revert hk_;simp only [and_imp];intros;(repeat' (refine And.intro ?_ ?_)) <;> assumption)));have n15_:= mk (Kd.R_mono (ok':= fun k_ => some k_ ≠ (.slice Ao32 t313.length co32 : Value).ownBlock ∧ some k_ ≠ (.slice Ao35 t316.length co35 : Value).ownBlock ∧ some k_ ≠ (.slice Ao40 t324.length co40 : Value).ownBlock ∧ some k_ ≠ (.slice Ao44 t327.length co44 : Value).ownBlock ∧ some k_ ≠ (.slice Ao51 t337.length co51 : Value).ownBlock ∧ some k_ ≠ (.slice Ao56 t340.length co56 : Value).ownBlock ∧ some k_ ≠ (.slice Ao88 t349.length co88 : Value).ownBlock) (Kd.R_keptB ((Kd.R_apart' HO354.out (Kd.R_typed HO_9.out) (by decide))) hkp (fun k_ hk_ hs_ => (hk_.2) hs_)) (fun k_ hk_ => by first|exact ⟨hk_.1.1.1,hk_.1.1.2.1,hk_.1.1.2.2.1,hk_.1.1.2.2.2.1,hk_.1.1.2.2.2.2.1,hk_.1.1.2.2.2.2.2.1,hk_.1.1.2.2.2.2.2.2⟩|(revert hk_;simp only [and_imp];intros;(repeat' (refine And.intro ?_ ?_)) <;> assumption)));have n16_:= mk (Kd.R_mono (ok':= fun k_ => some k_ ≠ (.slice Ao36 t319.length co36 : Value).ownBlock ∧ some k_ ≠ (.slice Ao45 t330.length co45 : Value).ownBlock ∧ some k_ ≠ (.slice Ao57 t343.length co57 : Value).ownBlock) (Kd.R_keptB ((Kd.R_apart' HO357.out (Kd.R_typed HO_9.out) (by decide))) hkp (fun k_ hk_ hs_ => (hk_.2) hs_)) (fun k_ hk_ => by first|exact ⟨hk_.1.1.1,hk_.1.1.2.1,hk_.1.1.2.2⟩|(revert hk_;simp only [and_imp];intros;(repeat' (refine And.intro ?_ ?_)) <;> assumption)));have n17_:= mk (Kd.R_mono (ok':= fun k_ => some k_ ≠ (.slice Ao48 t334.length co48 : Value).ownBlock) (Kd.R_keptB (HO361.out) hkp (fun k_ hk_ hs_ => (hk_) hs_)) (fun k_ hk_ => hk_.1));have n18_:= mk (hb);clear HO_9;clear HO_324000;clear HO_324001;clear HO_324002;clear HO_334000;clear HO_334001;clear HO_334002;clear HO_348000;clear HO_348001;clear HO_348002;clear BK298;clear BK323;clear BK333;clear BK347;clear HO351;clear HO354;clear HO357;clear HO361;clear HB;have HO_9:= n0_;have HO_324000:= n1_;have HO_324001:= n2_;have HO_324002:= n3_;have HO_334000:= n4_;have HO_334001:= n5_;have HO_334002:= n6_;have HO_348000:= n7_;have HO_348001:= n8_;have HO_348002:= n9_;have BK298:= n10_;have BK323:= n11_;have BK333:= n12_;have BK347:= n13_;have HO351:= n14_;have HO354:= n15_;have HO357:= n16_;have HO361:= n17_;have HB:= n18_;clear n0_ n1_ n2_ n3_ n4_ n5_ n6_ n7_ n8_ n9_ n10_ n11_ n12_ n13_ n14_ n15_ n16_ n17_ n18_;(try clear hb);(try clear hkp);(try clear hy0)))
        (try simp only [Act.put,List.setIfInBounds_toArray,List.set_cons_zero,List.set_cons_succ])
        go_cut [82] (fun v82 wc => ∃ (kq : Nat) (x82_84 : Bool),v82 = .bool x82_84 ∧ Aside0 (laws_FnExactApplySwaps.j1 kq l1 t322 x82_84 l0_0 l0_1 l0_2 t313 t316 t319 t337 t340 t343 = some r) ∧ Aside0 (kq ≤ kj18) ∧ Aside0 (Kd.R (Kd.int .i64) 3 wc w.heap.size (fun k_ => some k_ ≠ ((.slice Ao35 t316.length co35) : Value).ownBlock ∧ some k_ ≠ ((.slice Ao40 t324.length co40) : Value).ownBlock ∧ some k_ ≠ ((.slice Ao44 t327.length co44) : Value).ownBlock ∧ some k_ ≠ ((.slice Ao51 t337.length co51) : Value).ownBlock ∧ some k_ ≠ ((.slice Ao56 t340.length co56) : Value).ownBlock) (.slice Ao32 t313.length co32) t313) ∧ Aside0 (Kd.R (Kd.int .i64) 3 wc w.heap.size (fun k_ => some k_ ≠ ((.slice Ao32 t313.length co32) : Value).ownBlock ∧ some k_ ≠ ((.slice Ao40 t324.length co40) : Value).ownBlock ∧ some k_ ≠ ((.slice Ao44 t327.length co44) : Value).ownBlock ∧ some k_ ≠ ((.slice Ao51 t337.length co51) : Value).ownBlock ∧ some k_ ≠ ((.slice Ao56 t340.length co56) : Value).ownBlock) (.slice Ao35 t316.length co35) t316) ∧ Aside0 (Kd.R k74 74 wc w.heap.size (fun k_ => some k_ ≠ ((.slice Ao45 t330.length co45) : Value).ownBlock ∧ some k_ ≠ ((.slice Ao57 t343.length co57) : Value).ownBlock) (.slice Ao36 t319.length co36) t319) ∧ Aside0 (Kd.R (Kd.int .i64) 3 wc w.heap.size (fun k_ => some k_ ≠ ((.slice Ao32 t313.length co32) : Value).ownBlock ∧ some k_ ≠ ((.slice Ao35 t316.length co35) : Value).ownBlock ∧ some k_ ≠ ((.slice Ao44 t327.length co44) : Value).ownBlock ∧ some k_ ≠ ((.slice Ao51 t337.length co51) : Value).ownBlock ∧ some k_ ≠ ((.slice Ao56 t340.length co56) : Value).ownBlock) (.slice Ao40 t324.length co40) t364) ∧ Aside0 (Kd.R (Kd.int .i64) 3 wc w.heap.size (fun k_ => some k_ ≠ ((.slice Ao32 t313.length co32) : Value).ownBlock ∧ some k_ ≠ ((.slice Ao35 t316.length co35) : Value).ownBlock ∧ some k_ ≠ ((.slice Ao40 t324.length co40) : Value).ownBlock ∧ some k_ ≠ ((.slice Ao51 t337.length co51) : Value).ownBlock ∧ some k_ ≠ ((.slice Ao56 t340.length co56) : Value).ownBlock) (.slice Ao44 t327.length co44) t365) ∧ Aside0 (Kd.R k74 74 wc w.heap.size (fun k_ => some k_ ≠ ((.slice Ao36 t319.length co36) : Value).ownBlock ∧ some k_ ≠ ((.slice Ao57 t343.length co57) : Value).ownBlock) (.slice Ao45 t330.length co45) t366) ∧ Aside0 (Kd.R (Kd.int .i64) 3 wc w.heap.size (fun k_ => some k_ ≠ ((.slice Ao32 t313.length co32) : Value).ownBlock ∧ some k_ ≠ ((.slice Ao35 t316.length co35) : Value).ownBlock ∧ some k_ ≠ ((.slice Ao40 t324.length co40) : Value).ownBlock ∧ some k_ ≠ ((.slice Ao44 t327.length co44) : Value).ownBlock ∧ some k_ ≠ ((.slice Ao56 t340.length co56) : Value).ownBlock) (.slice Ao51 t337.length co51) t337) ∧ Aside0 (Kd.R (Kd.int .i64) 3 wc w.heap.size (fun k_ => some k_ ≠ ((.slice Ao32 t313.length co32) : Value).ownBlock ∧ some k_ ≠ ((.slice Ao35 t316.length co35) : Value).ownBlock ∧ some k_ ≠ ((.slice Ao40 t324.length co40) : Value).ownBlock ∧ some k_ ≠ ((.slice Ao44 t327.length co44) : Value).ownBlock ∧ some k_ ≠ ((.slice Ao51 t337.length co51) : Value).ownBlock) (.slice Ao56 t340.length co56) t340) ∧ Aside0 (Kd.R k74 74 wc w.heap.size (fun k_ => some k_ ≠ ((.slice Ao36 t319.length co36) : Value).ownBlock ∧ some k_ ≠ ((.slice Ao45 t330.length co45) : Value).ownBlock) (.slice Ao57 t343.length co57) t343) ∧ Aside0 (wc.heap[gb298]? = some (.cells #[(.slice A0_0 l0_0.length c0_0),(.slice A0_1 l0_1.length c0_1),(.slice A0_2 l0_2.length c0_2)] 25 (0,0))) ∧ Aside0 (wc.heap[gb323]? = some (.cells #[(.slice Ao32 t313.length co32),(.slice Ao35 t316.length co35),(.slice Ao36 t319.length co36)] 31 (0,0))) ∧ Aside0 (wc.heap[gb333]? = some (.cells #[(.slice Ao40 t324.length co40),(.slice Ao44 t327.length co44),(.slice Ao45 t330.length co45)] 31 (0,0))) ∧ Aside0 (wc.heap[gb347]? = some (.cells #[(.slice Ao51 t337.length co51),(.slice Ao56 t340.length co56),(.slice Ao57 t343.length co57)] 31 (0,0))) ∧ Aside0 (Below w.heap.size w wc))
        case first =>
         have H:= HC85.out
         clear HC85
         by_cases c101 : t367 < 0
         ·rw [if_pos c101] at H
          have c101b0 : decide (t367 < 0) = true:= decide_eq_true c101
          clear c101
          (first|rw [c101b0]|(simp only [i64_w,i32_w];rw [c101b0])|skip)
          have H':= mk H
          clear H
          go_wp2
          go_meet
          case rel => exact ⟨_,(true),(by first|rfl|(simp;done)|(simp [*];done)),H',⟨by have:= HJ18.out;first|omega|exact Nat.le_refl _⟩,⟨by exact up (Kd.R_mono HO_324000.out (fun _ hk => by first|exact ⟨hk.1,⟨hk.2.1,⟨hk.2.2.1,⟨hk.2.2.2.1,hk.2.2.2.2.1⟩⟩⟩⟩|(revert hk;simp only [and_imp];intros;(repeat' (refine And.intro ?_ ?_)) <;> assumption)))⟩,⟨by exact up (Kd.R_mono HO_324001.out (fun _ hk => by first|exact ⟨hk.1,⟨hk.2.1,⟨hk.2.2.1,⟨hk.2.2.2.1,hk.2.2.2.2.1⟩⟩⟩⟩|(revert hk;simp only [and_imp];intros;(repeat' (refine And.intro ?_ ?_)) <;> assumption)))⟩,⟨by exact up (Kd.R_mono HO_324002.out (fun _ hk => by first|exact ⟨hk.1,hk.2.1⟩|(revert hk;simp only [and_imp];intros;(repeat' (refine And.intro ?_ ?_)) <;> assumption)))⟩,⟨by exact up (Kd.R_mono HO_334000.out (fun _ hk => by first|exact ⟨hk.1,⟨hk.2.1,⟨hk.2.2.1,⟨hk.2.2.2.1,hk.2.2.2.2.1⟩⟩⟩⟩|(revert hk;simp only [and_imp];intros;(repeat' (refine And.intro ?_ ?_)) <;> assumption)))⟩,⟨by exact up (Kd.R_mono HO_334001.out (fun _ hk => by first|exact ⟨hk.1,⟨hk.2.1,⟨hk.2.2.1,⟨hk.2.2.2.1,hk.2.2.2.2.1⟩⟩⟩⟩|(revert hk;simp only [and_imp];intros;(repeat' (refine And.intro ?_ ?_)) <;> assumption)))⟩,⟨by exact up (Kd.R_mono HO_334002.out (fun _ hk => by first|exact ⟨hk.1,hk.2.1⟩|(revert hk;simp only [and_imp];intros;(repeat' (refine And.intro ?_ ?_)) <;> assumption)))⟩,⟨by exact up (Kd.R_mono HO_348000.out (fun _ hk => by first|exact ⟨hk.1,⟨hk.2.1,⟨hk.2.2.1,⟨hk.2.2.2.1,hk.2.2.2.2.1⟩⟩⟩⟩|(revert hk;simp only [and_imp];intros;(repeat' (refine And.intro ?_ ?_)) <;> assumption)))⟩,⟨by exact up (Kd.R_mono HO_348001.out (fun _ hk => by first|exact ⟨hk.1,⟨hk.2.1,⟨hk.2.2.1,⟨hk.2.2.2.1,hk.2.2.2.2.1⟩⟩⟩⟩|(revert hk;simp only [and_imp];intros;(repeat' (refine And.intro ?_ ?_)) <;> assumption)))⟩,⟨by exact up (Kd.R_mono HO_348002.out (fun _ hk => by first|exact ⟨hk.1,hk.2.1⟩|(revert hk;simp only [and_imp];intros;(repeat' (refine And.intro ?_ ?_)) <;> assumption)))⟩,⟨ub BK298.out⟩,⟨ub BK323.out⟩,⟨ub BK333.out⟩,⟨ub BK347.out⟩,⟨by repeat (first|(with_reducible first|exact HB.out|apply below_alloc|apply pw_below_drewN|apply below_drew1|refine below_set ?_ GE298.out|refine below_set ?_ GE323.out|refine below_set ?_ GE333.out|refine below_set ?_ GE347.out)|exact HB.out)⟩⟩
         ·rw [if_neg c101] at H
          have c101b0 : decide (t367 < 0) = false:= decide_eq_false c101
          clear c101
          (first|rw [c101b0]|(simp only [i64_w,i32_w];rw [c101b0])|skip)
          replace H:= Option.bind_eq_some_iff.mp H
          obtain ⟨t369,A1020,H⟩:= H
          replace H : (if t369 = true then (laws_FnExactApplySwaps.j1 kj18 l1 t322 (t346 != t322) l0_0 l0_1 l0_2 t313 t316 t319 t337 t340 t343) else (laws_FnExactApplySwaps.j1 kj18 l1 t322 true l0_0 l0_1 l0_2 t313 t316 t319 t337 t340 t343)) = some r:= H
          have A102:= mk A1020
          clear A1020
          by_cases c103 : t369 = true
          subst c103
          have H1 : (laws_FnExactApplySwaps.j1 kj18 l1 t322 (t346 != t322) l0_0 l0_1 l0_2 t313 t316 t319 t337 t340 t343) = some r:= by rw [if_pos rfl] at H;exact H
          clear H
          have H:= H1
          clear H1
          have H':= mk H
          clear H
          have hnb104:= NB347_298.out
          have hnc104:= NB298_347.out
          have hnb105:= NB347_323.out
          have hnc105:= NB323_347.out
          have hnb106:= NB347_333.out
          have hnc106:= NB333_347.out
          have hcz107_0 : w100.cell? ⟨gb347,0,none⟩ = some (.slice Ao51 t337.length co51):= (blk_cell BK347.out 0).trans rfl
          have hcz107_1 : w100.cell? ⟨gb347,1,none⟩ = some (.slice Ao56 t340.length co56):= (blk_cell BK347.out 1).trans rfl
          have hcz107_2 : w100.cell? ⟨gb347,2,none⟩ = some (.slice Ao57 t343.length co57):= (blk_cell BK347.out 2).trans rfl
          have hfz107_0:= blk_frozen BK347.out 0
          have hfz107_1:= blk_frozen BK347.out 1
          have hfz107_2:= blk_frozen BK347.out 2
          have hnb108:= NB323_298.out
          have hnc108:= NB298_323.out
          have hnb109:= NB323_333.out
          have hnc109:= NB333_323.out
          have hcz110_0 : w100.cell? ⟨gb323,0,none⟩ = some (.slice Ao32 t313.length co32):= (blk_cell BK323.out 0).trans rfl
          have hcz110_1 : w100.cell? ⟨gb323,1,none⟩ = some (.slice Ao35 t316.length co35):= (blk_cell BK323.out 1).trans rfl
          have hcz110_2 : w100.cell? ⟨gb323,2,none⟩ = some (.slice Ao36 t319.length co36):= (blk_cell BK323.out 2).trans rfl
          have hfz110_0:= blk_frozen BK323.out 0
          have hfz110_1:= blk_frozen BK323.out 1
          have hfz110_2:= blk_frozen BK323.out 2
          rotate_left
          replace c103:= Bool.eq_false_iff.mpr c103
          subst c103
          have H1 : (laws_FnExactApplySwaps.j1 kj18 l1 t322 true l0_0 l0_1 l0_2 t313 t316 t319 t337 t340 t343) = some r:= by rw [if_neg (show ¬ (false = true) by decide)] at H;exact H
          clear H
          have H:= H1
          clear H1
          have H':= mk H
          clear H
          have hnb112:= NB347_298.out
          have hnc112:= NB298_347.out
          have hnb113:= NB347_323.out
          have hnc113:= NB323_347.out
          have hnb114:= NB347_333.out
          have hnc114:= NB333_347.out
          have hcz115_0 : w100.cell? ⟨gb347,0,none⟩ = some (.slice Ao51 t337.length co51):= (blk_cell BK347.out 0).trans rfl
          have hcz115_1 : w100.cell? ⟨gb347,1,none⟩ = some (.slice Ao56 t340.length co56):= (blk_cell BK347.out 1).trans rfl
          have hcz115_2 : w100.cell? ⟨gb347,2,none⟩ = some (.slice Ao57 t343.length co57):= (blk_cell BK347.out 2).trans rfl
          have hfz115_0:= blk_frozen BK347.out 0
          have hfz115_1:= blk_frozen BK347.out 1
          have hfz115_2:= blk_frozen BK347.out 2
          have hnb116:= NB323_298.out
          have hnc116:= NB298_323.out
          have hnb117:= NB323_333.out
          have hnc117:= NB333_323.out
          have hcz118_0 : w100.cell? ⟨gb323,0,none⟩ = some (.slice Ao32 t313.length co32):= (blk_cell BK323.out 0).trans rfl
          have hcz118_1 : w100.cell? ⟨gb323,1,none⟩ = some (.slice Ao35 t316.length co35):= (blk_cell BK323.out 1).trans rfl
          have hcz118_2 : w100.cell? ⟨gb323,2,none⟩ = some (.slice Ao36 t319.length co36):= (blk_cell BK323.out 2).trans rfl
          have hfz118_0:= blk_frozen BK323.out 0
          have hfz118_1:= blk_frozen BK323.out 1
          have hfz118_2:= blk_frozen BK323.out 2
          rotate_left
          all_goals
           go_wp2_with (first|(go_at_call 12;(with_reducible refine (laws_eqCracker.calls kj18 _ _ t337 _ _ t340 _ _ t343 _ _ t313 _ _ t316 _ _ t319 _ _ ?side1 ?side2 ?side3 ?side4 ?side5 ?side6 ?side7 ?side8 ?side9 ?side10 ?side11 ?side12 A102.out).mono ?_);(case side1 => exact uc (Kd.R_reads' HO_348000.out).2.2);(case side2 => exact (Kd.R_reads' HO_348000.out).2.1);(case side3 => exact uc (Kd.R_reads' HO_348001.out).2.2);(case side4 => exact (Kd.R_reads' HO_348001.out).2.1);(case side5 => exact uc (Kd.R_reads' HO_348002.out).2.2);(case side6 => exact (Kd.R_reads' HO_348002.out).2.1);(case side7 => exact uc (Kd.R_reads' HO_324000.out).2.2);(case side8 => exact (Kd.R_reads' HO_324000.out).2.1);(case side9 => exact uc (Kd.R_reads' HO_324001.out).2.2);(case side10 => exact (Kd.R_reads' HO_324001.out).2.1);(case side11 => exact uc (Kd.R_reads' HO_324002.out).2.2);(case side12 => exact (Kd.R_reads' HO_324002.out).2.1);rintro e w111 ⟨rfl,hb⟩;have n0_:= mk (Kd.R_below (up HO_9.out) hb);have n1_:= mk (Kd.R_below (up HO_324000.out) hb);have n2_:= mk (Kd.R_below (up HO_324001.out) hb);have n3_:= mk (Kd.R_below (up HO_324002.out) hb);have n4_:= mk (Kd.R_below (up HO_334000.out) hb);have n5_:= mk (Kd.R_below (up HO_334001.out) hb);have n6_:= mk (Kd.R_below (up HO_334002.out) hb);have n7_:= mk (Kd.R_below (up HO_348000.out) hb);have n8_:= mk (Kd.R_below (up HO_348001.out) hb);have n9_:= mk (Kd.R_below (up HO_348002.out) hb);have n10_:= mk (Kd.R_below (up HO351.out) hb);have n11_:= mk (Kd.R_below (up HO354.out) hb);have n12_:= mk (Kd.R_below (up HO357.out) hb);have n13_:= mk (Kd.R_below (up HO361.out) hb);have n14_:= mk (blk_below (g:= gb298) (o:= .cells #[.slice A0_0 l0_0.length c0_0,.slice A0_1 l0_1.length c0_1,.slice A0_2 l0_2.length c0_2] 25 (0,0)) (ub BK298.out) hb);have n15_:= mk (blk_below (g:= gb323) (o:= .cells #[.slice Ao32 t313.length co32,.slice Ao35 t316.length co35,.slice Ao36 t319.length co36] 31 (0,0)) (ub BK323.out) hb);have n16_:= mk (blk_below (g:= gb333) (o:= .cells #[.slice Ao40 t324.length co40,.slice Ao44 t327.length co44,.slice Ao45 t330.length co45] 31 (0,0)) (ub BK333.out) hb);have n17_:= mk (blk_below (g:= gb347) (o:= .cells #[.slice Ao51 t337.length co51,.slice Ao56 t340.length co56,.slice Ao57 t343.length co57] 31 (0,0)) (ub BK347.out) hb);have n18_:= mk (below_step (by repeat (first|(with_reducible first|exact HB.out|apply below_alloc|apply pw_below_drewN|apply below_drew1|refine below_set ?_ GE298.out|refine below_set ?_ GE323.out|refine below_set ?_ GE333.out|refine below_set ?_ GE347.out)|exact HB.out)) hb);clear HO_9;clear HO_324000;clear HO_324001;clear HO_324002;clear HO_334000;clear HO_334001;clear HO_334002;clear HO_348000;clear HO_348001;clear HO_348002;clear HO351;clear HO354;clear HO357;clear HO361;clear BK298;clear BK323;clear BK333;clear BK347;clear HB;have HO_9:= n0_;have HO_324000:= n1_;have HO_324001:= n2_;have HO_324002:= n3_;have HO_334000:= n4_;have HO_334001:= n5_;have HO_334002:= n6_;have HO_348000:= n7_;have HO_348001:= n8_;have HO_348002:= n9_;have HO351:= n10_;have HO354:= n11_;have HO357:= n12_;have HO361:= n13_;have BK298:= n14_;have BK323:= n15_;have BK333:= n16_;have BK347:= n17_;have HB:= n18_;clear n0_ n1_ n2_ n3_ n4_ n5_ n6_ n7_ n8_ n9_ n10_ n11_ n12_ n13_ n14_ n15_ n16_ n17_ n18_;(try clear hb);(try clear hb2);(try clear hk);(try clear hi)))
          ·go_meet
           case rel => exact ⟨_,((t346 != t322)),(by first|rfl|(simp;done)|(simp [*];done)),H',⟨by have:= HJ18.out;first|omega|exact Nat.le_refl _⟩,⟨by exact up (Kd.R_mono HO_324000.out (fun _ hk => by first|exact ⟨hk.1,⟨hk.2.1,⟨hk.2.2.1,⟨hk.2.2.2.1,hk.2.2.2.2.1⟩⟩⟩⟩|(revert hk;simp only [and_imp];intros;(repeat' (refine And.intro ?_ ?_)) <;> assumption)))⟩,⟨by exact up (Kd.R_mono HO_324001.out (fun _ hk => by first|exact ⟨hk.1,⟨hk.2.1,⟨hk.2.2.1,⟨hk.2.2.2.1,hk.2.2.2.2.1⟩⟩⟩⟩|(revert hk;simp only [and_imp];intros;(repeat' (refine And.intro ?_ ?_)) <;> assumption)))⟩,⟨by exact up (Kd.R_mono HO_324002.out (fun _ hk => by first|exact ⟨hk.1,hk.2.1⟩|(revert hk;simp only [and_imp];intros;(repeat' (refine And.intro ?_ ?_)) <;> assumption)))⟩,⟨by exact up (Kd.R_mono HO_334000.out (fun _ hk => by first|exact ⟨hk.1,⟨hk.2.1,⟨hk.2.2.1,⟨hk.2.2.2.1,hk.2.2.2.2.1⟩⟩⟩⟩|(revert hk;simp only [and_imp];intros;(repeat' (refine And.intro ?_ ?_)) <;> assumption)))⟩,⟨by exact up (Kd.R_mono HO_334001.out (fun _ hk => by first|exact ⟨hk.1,⟨hk.2.1,⟨hk.2.2.1,⟨hk.2.2.2.1,hk.2.2.2.2.1⟩⟩⟩⟩|(revert hk;simp only [and_imp];intros;(repeat' (refine And.intro ?_ ?_)) <;> assumption)))⟩,⟨by exact up (Kd.R_mono HO_334002.out (fun _ hk => by first|exact ⟨hk.1,hk.2.1⟩|(revert hk;simp only [and_imp];intros;(repeat' (refine And.intro ?_ ?_)) <;> assumption)))⟩,⟨by exact up (Kd.R_mono HO_348000.out (fun _ hk => by first|exact ⟨hk.1,⟨hk.2.1,⟨hk.2.2.1,⟨hk.2.2.2.1,hk.2.2.2.2.1⟩⟩⟩⟩|(revert hk;simp only [and_imp];intros;(repeat' (refine And.intro ?_ ?_)) <;> assumption)))⟩,⟨by exact up (Kd.R_mono HO_348001.out (fun _ hk => by first|exact ⟨hk.1,⟨hk.2.1,⟨hk.2.2.1,⟨hk.2.2.2.1,hk.2.2.2.2.1⟩⟩⟩⟩|(revert hk;simp only [and_imp];intros;(repeat' (refine And.intro ?_ ?_)) <;> assumption)))⟩,⟨by exact up (Kd.R_mono HO_348002.out (fun _ hk => by first|exact ⟨hk.1,hk.2.1⟩|(revert hk;simp only [and_imp];intros;(repeat' (refine And.intro ?_ ?_)) <;> assumption)))⟩,⟨ub BK298.out⟩,⟨ub BK323.out⟩,⟨ub BK333.out⟩,⟨ub BK347.out⟩,⟨by repeat (first|(with_reducible first|exact HB.out|apply below_alloc|apply pw_below_drewN|apply below_drew1|refine below_set ?_ GE298.out|refine below_set ?_ GE323.out|refine below_set ?_ GE333.out|refine below_set ?_ GE347.out)|exact HB.out)⟩⟩
          ·go_meet
           case rel => exact ⟨_,(true),(by first|rfl|(simp;done)|(simp [*];done)),H',⟨by have:= HJ18.out;first|omega|exact Nat.le_refl _⟩,⟨by exact up (Kd.R_mono HO_324000.out (fun _ hk => by first|exact ⟨hk.1,⟨hk.2.1,⟨hk.2.2.1,⟨hk.2.2.2.1,hk.2.2.2.2.1⟩⟩⟩⟩|(revert hk;simp only [and_imp];intros;(repeat' (refine And.intro ?_ ?_)) <;> assumption)))⟩,⟨by exact up (Kd.R_mono HO_324001.out (fun _ hk => by first|exact ⟨hk.1,⟨hk.2.1,⟨hk.2.2.1,⟨hk.2.2.2.1,hk.2.2.2.2.1⟩⟩⟩⟩|(revert hk;simp only [and_imp];intros;(repeat' (refine And.intro ?_ ?_)) <;> assumption)))⟩,⟨by exact up (Kd.R_mono HO_324002.out (fun _ hk => by first|exact ⟨hk.1,hk.2.1⟩|(revert hk;simp only [and_imp];intros;(repeat' (refine And.intro ?_ ?_)) <;> assumption)))⟩,⟨by exact up (Kd.R_mono HO_334000.out (fun _ hk => by first|exact ⟨hk.1,⟨hk.2.1,⟨hk.2.2.1,⟨hk.2.2.2.1,hk.2.2.2.2.1⟩⟩⟩⟩|(revert hk;simp only [and_imp];intros;(repeat' (refine And.intro ?_ ?_)) <;> assumption)))⟩,⟨by exact up (Kd.R_mono HO_334001.out (fun _ hk => by first|exact ⟨hk.1,⟨hk.2.1,⟨hk.2.2.1,⟨hk.2.2.2.1,hk.2.2.2.2.1⟩⟩⟩⟩|(revert hk;simp only [and_imp];intros;(repeat' (refine And.intro ?_ ?_)) <;> assumption)))⟩,⟨by exact up (Kd.R_mono HO_334002.out (fun _ hk => by first|exact ⟨hk.1,hk.2.1⟩|(revert hk;simp only [and_imp];intros;(repeat' (refine And.intro ?_ ?_)) <;> assumption)))⟩,⟨by exact up (Kd.R_mono HO_348000.out (fun _ hk => by first|exact ⟨hk.1,⟨hk.2.1,⟨hk.2.2.1,⟨hk.2.2.2.1,hk.2.2.2.2.1⟩⟩⟩⟩|(revert hk;simp only [and_imp];intros;(repeat' (refine And.intro ?_ ?_)) <;> assumption)))⟩,⟨by exact up (Kd.R_mono HO_348001.out (fun _ hk => by first|exact ⟨hk.1,⟨hk.2.1,⟨hk.2.2.1,⟨hk.2.2.2.1,hk.2.2.2.2.1⟩⟩⟩⟩|(revert hk;simp only [and_imp];intros;(repeat' (refine And.intro ?_ ?_)) <;> assumption)))⟩,⟨by exact up (Kd.R_mono HO_348002.out (fun _ hk => by first|exact ⟨hk.1,hk.2.1⟩|(revert hk;simp only [and_imp];intros;(repeat' (refine And.intro ?_ ?_)) <;> assumption)))⟩,⟨ub BK298.out⟩,⟨ub BK323.out⟩,⟨ub BK333.out⟩,⟨ub BK347.out⟩,⟨by repeat (first|(with_reducible first|exact HB.out|apply below_alloc|apply pw_below_drewN|apply below_drew1|refine below_set ?_ GE298.out|refine below_set ?_ GE323.out|refine below_set ?_ GE333.out|refine below_set ?_ GE347.out)|exact HB.out)⟩⟩
        case rest =>
         clear HC85
         try clear c1
         try clear p2
         try clear c3
         try clear c4
         try clear c4b0
         try clear c5
         try clear c6
         try clear c7
         try clear c8
         try clear c9
         try clear c9b0
         try clear c10
         try clear c11
         try clear c12
         try clear c13
         try clear c14
         try clear c15
         try clear c33
         try clear c41
         try clear c42
         try clear c52
         try clear c53
         try clear c54
         try clear c59
         try clear c60
         try clear c61
         try clear c62
         try clear c64
         try clear c65
         try clear c68
         try clear c69
         try clear c70
         try clear c72
         try clear c73
         try clear c76
         try clear c79
         try clear c82
         try clear c95
         try clear c96
         try clear c97
         try clear c101
         try clear c101b0
         try clear c103
         try clear c104
         try clear c105
         try clear c106
         try clear c108
         try clear c109
         try clear c112
         try clear c113
         try clear c114
         try clear c116
         try clear c117
         try clear hcz107_0
         try clear hcz107_1
         try clear hcz107_2
         try clear hcz110_0
         try clear hcz110_1
         try clear hcz110_2
         try clear hcz115_0
         try clear hcz115_1
         try clear hcz115_2
         try clear hcz118_0
         try clear hcz118_1
         try clear hcz118_2
         try clear hcz11_0
         try clear hcz11_1
         try clear hcz11_2
         try clear hcz21_0
         try clear hcz21_1
         try clear hcz21_2
         try clear hcz23_0
         try clear hcz23_1
         try clear hcz23_2
         try clear hcz34_0
         try clear hcz34_1
         try clear hcz34_2
         try clear hcz37_0
         try clear hcz37_1
         try clear hcz37_2
         try clear hcz43_0
         try clear hcz43_1
         try clear hcz43_2
         try clear hcz47_0
         try clear hcz47_1
         try clear hcz47_2
         try clear hcz55_0
         try clear hcz55_1
         try clear hcz55_2
         try clear hcz63_0
         try clear hcz63_1
         try clear hcz63_2
         try clear hcz66_0
         try clear hcz66_1
         try clear hcz66_2
         try clear hcz6_0
         try clear hcz6_1
         try clear hcz6_2
         try clear hcz71_0
         try clear hcz71_1
         try clear hcz71_2
         try clear hcz74_0
         try clear hcz74_1
         try clear hcz74_2
         try clear hcz98_0
         try clear hcz98_1
         try clear hcz98_2
         try clear hfz107_0
         try clear hfz107_1
         try clear hfz107_2
         try clear hfz110_0
         try clear hfz110_1
         try clear hfz110_2
         try clear hfz115_0
         try clear hfz115_1
         try clear hfz115_2
         try clear hfz118_0
         try clear hfz118_1
         try clear hfz118_2
         try clear hfz11_0
         try clear hfz11_1
         try clear hfz11_2
         try clear hfz21_0
         try clear hfz21_1
         try clear hfz21_2
         try clear hfz23_0
         try clear hfz23_1
         try clear hfz23_2
         try clear hfz34_0
         try clear hfz34_1
         try clear hfz34_2
         try clear hfz37_0
         try clear hfz37_1
         try clear hfz37_2
         try clear hfz43_0
         try clear hfz43_1
         try clear hfz43_2
         try clear hfz47_0
         try clear hfz47_1
         try clear hfz47_2
         try clear hfz55_0
         try clear hfz55_1
         try clear hfz55_2
         try clear hfz63_0
         try clear hfz63_1
         try clear hfz63_2
         try clear hfz66_0
         try clear hfz66_1
         try clear hfz66_2
         try clear hfz6_0
         try clear hfz6_1
         try clear hfz6_2
         try clear hfz71_0
         try clear hfz71_1
         try clear hfz71_2
         try clear hfz74_0
         try clear hfz74_1
         try clear hfz74_2
         try clear hfz98_0
         try clear hfz98_1
         try clear hfz98_2
         try clear p2
         obtain ⟨kq,x82_84,rfl,HA,HJ84,HO_324000,HO_324001,HO_324002,HO_334000,HO_334001,HO_334002,HO_348000,HO_348001,HO_348002,BK298,BK323,BK333,BK347,HB⟩:= hcut
         have hl334000_84:= (Kd.R_reads' HO_334000.out).1
         rw [hl334000_84] at HO_334000
         (try simp only [hl334000_84])
         (try simp only [hl334000_84] at BK298)
         (try simp only [hl334000_84] at BK323)
         (try simp only [hl334000_84] at BK333)
         (try simp only [hl334000_84] at BK347)
         (try simp only [hl334000_84] at HO_324000)
         (try simp only [hl334000_84] at HO_324001)
         (try simp only [hl334000_84] at HO_324002)
         (try simp only [hl334000_84] at HO_334001)
         (try simp only [hl334000_84] at HO_334002)
         (try simp only [hl334000_84] at HO_348000)
         (try simp only [hl334000_84] at HO_348001)
         (try simp only [hl334000_84] at HO_348002)
         have hl334001_84:= (Kd.R_reads' HO_334001.out).1
         rw [hl334001_84] at HO_334001
         (try simp only [hl334001_84])
         (try simp only [hl334001_84] at BK298)
         (try simp only [hl334001_84] at BK323)
         (try simp only [hl334001_84] at BK333)
         (try simp only [hl334001_84] at BK347)
         (try simp only [hl334001_84] at HO_324000)
         (try simp only [hl334001_84] at HO_324001)
         (try simp only [hl334001_84] at HO_324002)
         (try simp only [hl334001_84] at HO_334000)
         (try simp only [hl334001_84] at HO_334002)
         (try simp only [hl334001_84] at HO_348000)
         (try simp only [hl334001_84] at HO_348001)
         (try simp only [hl334001_84] at HO_348002)
         have hl334002_84:= (Kd.R_reads' HO_334002.out).1
         rw [hl334002_84] at HO_334002
         (try simp only [hl334002_84])
         (try simp only [hl334002_84] at BK298)
         (try simp only [hl334002_84] at BK323)
         (try simp only [hl334002_84] at BK333)
         (try simp only [hl334002_84] at BK347)
         (try simp only [hl334002_84] at HO_324000)
         (try simp only [hl334002_84] at HO_324001)
         (try simp only [hl334002_84] at HO_324002)
         (try simp only [hl334002_84] at HO_334000)
         (try simp only [hl334002_84] at HO_334001)
         (try simp only [hl334002_84] at HO_348000)
         (try simp only [hl334002_84] at HO_348001)
         (try simp only [hl334002_84] at HO_348002)
         cases kq with
        |zero => exact absurd HA.out (by simp [laws_FnExactApplySwaps.j1])
        |succ kj84 =>
          have H:= HA.out
          clear HA
          simp only [laws_FnExactApplySwaps.j1] at H
          by_cases c120 : x82_84 = true
          ·subst c120
           have H1 : (some false) = some r:= by rw [if_pos rfl] at H;exact H
           clear H
           have H:= H1
           clear H1
           exact absurd ((Option.some.inj H).trans HRT.out) (by decide)
          ·replace c120:= Bool.eq_false_iff.mpr c120
           subst c120
           have H1 : ((laws_markCracker.f kj84 t337 t340 t343 1).bind fun bt370 => ((laws_heldCracker.f kj84 bt370.2.1 bt370.2.2.1 bt370.2.2.2 1).bind fun t374 => (if t374 < 0 then (some false) else (if t374 = bt370.1 then ((laws_toCracker.f kj84 l0_0 l0_1 l0_2).bind fun bt375 => ((laws_toSwapS.f kj84 l1).bind fun t384 => ((impl_ApplySwaps.f kj84 bt375.1 bt375.2.1 bt375.2.2 t384).bind fun bt387 => ((laws_eqCracker.f kj84 bt387.1 bt387.2.1 bt387.2.2.1 t313 t316 t319).bind fun t398 => (if t398 = true then (laws_FnExactApplySwaps.j2 kj84 bt370.1 (bt387.2.2.2 != t322) bt370.2.1 bt370.2.2.1 bt370.2.2.2) else (laws_FnExactApplySwaps.j2 kj84 bt370.1 true bt370.2.1 bt370.2.2.1 bt370.2.2.2)))))) else (some false))))) = some r:= by rw [if_neg (show ¬ (false = true) by decide)] at H;exact H
           clear H
           have H:= H1
           clear H1
           replace H:= Option.bind_eq_some_iff.mp H
           obtain ⟨⟨t370,t371,t372,t373⟩,A1210,H⟩:= H
           replace H : ((laws_heldCracker.f kj84 t371 t372 t373 1).bind fun t374 => (if t374 < 0 then (some false) else (if t374 = t370 then ((laws_toCracker.f kj84 l0_0 l0_1 l0_2).bind fun bt375 => ((laws_toSwapS.f kj84 l1).bind fun t384 => ((impl_ApplySwaps.f kj84 bt375.1 bt375.2.1 bt375.2.2 t384).bind fun bt387 => ((laws_eqCracker.f kj84 bt387.1 bt387.2.1 bt387.2.2.1 t313 t316 t319).bind fun t398 => (if t398 = true then (laws_FnExactApplySwaps.j2 kj84 t370 (bt387.2.2.2 != t322) t371 t372 t373) else (laws_FnExactApplySwaps.j2 kj84 t370 true t371 t372 t373)))))) else (some false)))) = some r:= H
           have A121:= mk A1210
           clear A1210
           replace H:= Option.bind_eq_some_iff.mp H
           obtain ⟨t374,A1220,H⟩:= H
           replace H : (if t374 < 0 then (some false) else (if t374 = t370 then ((laws_toCracker.f kj84 l0_0 l0_1 l0_2).bind fun bt375 => ((laws_toSwapS.f kj84 l1).bind fun t384 => ((impl_ApplySwaps.f kj84 bt375.1 bt375.2.1 bt375.2.2 t384).bind fun bt387 => ((laws_eqCracker.f kj84 bt387.1 bt387.2.1 bt387.2.2.1 t313 t316 t319).bind fun t398 => (if t398 = true then (laws_FnExactApplySwaps.j2 kj84 t370 (bt387.2.2.2 != t322) t371 t372 t373) else (laws_FnExactApplySwaps.j2 kj84 t370 true t371 t372 t373)))))) else (some false))) = some r:= H
           have A122:= mk A1220
           clear A1220
           by_cases c123 : t374 < 0
           ·rw [if_pos c123] at H
            have c123b0 : decide (t374 < 0) = true:= decide_eq_true c123
            clear c123
            exact absurd ((Option.some.inj H).trans HRT.out) (by decide)
           ·rw [if_neg c123] at H
            have c123b0 : decide (t374 < 0) = false:= decide_eq_false c123
            clear c123
            by_cases c124 : t374 = t370
            ·rw [if_pos c124] at H
             have c124b0 : (t374 == t370) = true:= beq_iff_eq.mpr c124
             have c124b1 : (t374 != t370) = false:= bne_eq_false_iff_eq.mpr c124
             clear c124
             replace H:= Option.bind_eq_some_iff.mp H
             obtain ⟨⟨t375,t378,t381⟩,A1250,H⟩:= H
             replace H : ((laws_toSwapS.f kj84 l1).bind fun t384 => ((impl_ApplySwaps.f kj84 t375 t378 t381 t384).bind fun bt387 => ((laws_eqCracker.f kj84 bt387.1 bt387.2.1 bt387.2.2.1 t313 t316 t319).bind fun t398 => (if t398 = true then (laws_FnExactApplySwaps.j2 kj84 t370 (bt387.2.2.2 != t322) t371 t372 t373) else (laws_FnExactApplySwaps.j2 kj84 t370 true t371 t372 t373))))) = some r:= H
             have A125:= mk A1250
             clear A1250
             replace H:= Option.bind_eq_some_iff.mp H
             obtain ⟨t384,A1260,H⟩:= H
             replace H : ((impl_ApplySwaps.f kj84 t375 t378 t381 t384).bind fun bt387 => ((laws_eqCracker.f kj84 bt387.1 bt387.2.1 bt387.2.2.1 t313 t316 t319).bind fun t398 => (if t398 = true then (laws_FnExactApplySwaps.j2 kj84 t370 (bt387.2.2.2 != t322) t371 t372 t373) else (laws_FnExactApplySwaps.j2 kj84 t370 true t371 t372 t373)))) = some r:= H
             have A126:= mk A1260
             clear A1260
             replace H:= Option.bind_eq_some_iff.mp H
             obtain ⟨⟨t387,t390,t393,t396⟩,A1270,H⟩:= H
             replace H : ((laws_eqCracker.f kj84 t387 t390 t393 t313 t316 t319).bind fun t398 => (if t398 = true then (laws_FnExactApplySwaps.j2 kj84 t370 (t396 != t322) t371 t372 t373) else (laws_FnExactApplySwaps.j2 kj84 t370 true t371 t372 t373))) = some r:= H
             have A127:= mk A1270
             clear A1270
             have HC128:= mk H
             clear H
             have hnb129:= NB347_298.out
             have hnc129:= NB298_347.out
             have hnb130:= NB347_323.out
             have hnc130:= NB323_347.out
             have hnb131:= NB347_333.out
             have hnc131:= NB333_347.out
             have hcz132_0 : wc.cell? ⟨gb347,0,none⟩ = some (.slice Ao51 t337.length co51):= (blk_cell BK347.out 0).trans rfl
             have hcz132_1 : wc.cell? ⟨gb347,1,none⟩ = some (.slice Ao56 t340.length co56):= (blk_cell BK347.out 1).trans rfl
             have hcz132_2 : wc.cell? ⟨gb347,2,none⟩ = some (.slice Ao57 t343.length co57):= (blk_cell BK347.out 2).trans rfl
             have hfz132_0:= blk_frozen BK347.out 0
             have hfz132_1:= blk_frozen BK347.out 1
             have hfz132_2:= blk_frozen BK347.out 2
             go_upto_region 32 with (first|((with_reducible refine gate_callee (f:= 14) rfl ?_);refine goesL_ (some 85) rfl rfl Try.func14 (by kernel_rfl) rfl #[.agg #[.slice Ao51 t337.length co51,.slice Ao56 t340.length co56,.slice Ao57 t343.length co57],.int .i64 1] rfl (by (try simp only [List.map_toArray,List.map_cons,List.map_nil]);first|done|rfl|(simp only [List.length_drop,List.length_take];rfl)) ?_;(with_reducible refine (laws_markCracker.calls kj84 (fun k_ => some k_ = (.slice Ao51 t337.length co51 : Value).ownBlock) (.slice Ao51 t337.length co51) t337 (fun k_ => some k_ = (.slice Ao56 t340.length co56 : Value).ownBlock) (.slice Ao56 t340.length co56) t340 (fun k_ => some k_ = (.slice Ao57 t343.length co57 : Value).ownBlock) (.slice Ao57 t343.length co57) t343 1 t370 t371 t372 t373 w _ ?side1 ?side2 ?side3 ?side4 ?side5 ?side6 A121.out).mono ?_);(case side1 => repeat (first|(with_reducible first|exact HB.out|apply below_alloc|apply pw_below_drewN|apply below_drew1|refine below_set ?_ GE298.out|refine below_set ?_ GE323.out|refine below_set ?_ GE333.out|refine below_set ?_ GE347.out)|exact HB.out));(case side2 => exact Kd.R_tight rfl HO_348000.out);(case side3 => exact fun k_ e_ => by first|exact (HO_348000.out.1 k_ e_.symm).2.2.2.2|(have h_:= (HO_348000.out.1 k_ e_.symm);first|exact h_|exact h_.1|exact h_.1.1|exact h_.1.1.1|exact h_.1.1.1.1|exact h_.1.1.1.1.1|exact h_.1.1.1.1.1.1|exact h_.1.1.1.1.1.1.1|exact h_.2|exact h_.1.2|exact h_.1.1.2|exact h_.1.1.1.2|exact h_.1.1.1.1.2|exact h_.1.1.1.1.1.2|exact h_.1.1.1.1.1.1.2|exact h_.1.1.1.1.1.1.1.2|(revert h_;simp only [and_imp];intros;assumption)));(case side4 => exact Kd.R_tight rfl HO_348001.out);(case side5 => exact fun k_ e_ => by first|exact (HO_348001.out.1 k_ e_.symm).2.2.2.2|(have h_:= (HO_348001.out.1 k_ e_.symm);first|exact h_|exact h_.1|exact h_.1.1|exact h_.1.1.1|exact h_.1.1.1.1|exact h_.1.1.1.1.1|exact h_.1.1.1.1.1.1|exact h_.1.1.1.1.1.1.1|exact h_.2|exact h_.1.2|exact h_.1.1.2|exact h_.1.1.1.2|exact h_.1.1.1.1.2|exact h_.1.1.1.1.1.2|exact h_.1.1.1.1.1.1.2|exact h_.1.1.1.1.1.1.1.2|(revert h_;simp only [and_imp];intros;assumption)));(case side6 => exact Kd.R_tight rfl HO_348002.out);rintro e w133 ⟨rfl,hy0,hy1,hy2,hb,hkp⟩;refine ⟨_,rfl,?_⟩;have n0_:= mk (Kd.R_mono (ok':= fun k_ => some k_ ≠ (.slice Ao35 t316.length co35 : Value).ownBlock ∧ some k_ ≠ (.slice Ao40 t364.length co40 : Value).ownBlock ∧ some k_ ≠ (.slice Ao44 t365.length co44 : Value).ownBlock ∧ some k_ ≠ (.slice Ao51 t337.length co51 : Value).ownBlock ∧ some k_ ≠ (.slice Ao56 t340.length co56 : Value).ownBlock) (Kd.R_keptB ((Kd.R_apart' HO_324000.out (Kd.R_typed HO_348002.out) (by decide))) hkp (fun k_ hk_ hs_ => Or.elim hs_ (fun e_ => absurd e_ (by first|exact hk_.1.2.2.2.1|(revert hk_;simp only [and_imp];intros;assumption))) (fun e_ => Or.elim e_ (fun e_ => absurd e_ (by first|exact hk_.1.2.2.2.2|(revert hk_;simp only [and_imp];intros;assumption))) (fun e_ => absurd e_ (by first|exact hk_.2|(revert hk_;simp only [and_imp];intros;assumption)))))) (fun k_ hk_ => by first|exact ⟨hk_.1.1.1,hk_.1.1.2.1,hk_.1.1.2.2.1,hk_.1.1.2.2.2.1,hk_.1.1.2.2.2.2⟩|(revert hk_;simp only [and_imp];intros;(repeat' (refine And.intro ?_ ?_)) <;> assumption)));have n1_:= mk (Kd.R_mono (ok':= fun k_ => some k_ ≠ (.slice Ao32 t313.length co32 : Value).ownBlock ∧ some k_ ≠ (.slice Ao40 t364.length co40 : Value).ownBlock ∧ some k_ ≠ (.slice Ao44 t365.length co44 : Value).ownBlock ∧ some k_ ≠ (.slice Ao51 t337.length co51 : Value).ownBlock ∧ some k_ ≠ (.slice Ao56 t340.length co56 : Value).ownBlock) (Kd.R_keptB ((Kd.R_apart' HO_324001.out (Kd.R_typed HO_348002.out) (by decide))) hkp (fun k_ hk_ hs_ => Or.elim hs_ (fun e_ => absurd e_ (by first|exact hk_.1.2.2.2.1|(revert hk_;simp only [and_imp];intros;assumption))) (fun e_ => Or.elim e_ (fun e_ => absurd e_ (by first|exact hk_.1.2.2.2.2|(revert hk_;simp only [and_imp];intros;assumption))) (fun e_ => absurd e_ (by first|exact hk_.2|(revert hk_;simp only [and_imp];intros;assumption)))))) (fun k_ hk_ => by first|exact ⟨hk_.1.1.1,hk_.1.1.2.1,hk_.1.1.2.2.1,hk_.1.1.2.2.2.1,hk_.1.1.2.2.2.2⟩|(revert hk_;simp only [and_imp];intros;(repeat' (refine And.intro ?_ ?_)) <;> assumption)));have n2_:= mk (Kd.R_mono (ok':= fun k_ => some k_ ≠ (.slice Ao45 t366.length co45 : Value).ownBlock ∧ some k_ ≠ (.slice Ao57 t343.length co57 : Value).ownBlock) (Kd.R_keptB ((Kd.R_apart' (Kd.R_apart' HO_324002.out (Kd.R_typed HO_348000.out) (by decide)) (Kd.R_typed HO_348001.out) (by decide))) hkp (fun k_ hk_ hs_ => Or.elim hs_ (fun e_ => absurd e_ (by first|exact hk_.1.2|(revert hk_;simp only [and_imp];intros;assumption))) (fun e_ => Or.elim e_ (fun e_ => absurd e_ (by first|exact hk_.2|(revert hk_;simp only [and_imp];intros;assumption))) (fun e_ => absurd e_ (by first|exact hk_.1.1.2|(revert hk_;simp only [and_imp];intros;assumption)))))) (fun k_ hk_ => by first|exact ⟨hk_.1.1.1.1,hk_.1.1.1.2⟩|(revert hk_;simp only [and_imp];intros;(repeat' (refine And.intro ?_ ?_)) <;> assumption)));have n3_:= mk (Kd.R_mono (ok':= fun k_ => some k_ ≠ (.slice Ao32 t313.length co32 : Value).ownBlock ∧ some k_ ≠ (.slice Ao35 t316.length co35 : Value).ownBlock ∧ some k_ ≠ (.slice Ao44 t365.length co44 : Value).ownBlock ∧ some k_ ≠ (.slice Ao51 t337.length co51 : Value).ownBlock ∧ some k_ ≠ (.slice Ao56 t340.length co56 : Value).ownBlock) (Kd.R_keptB ((Kd.R_apart' HO_334000.out (Kd.R_typed HO_348002.out) (by decide))) hkp (fun k_ hk_ hs_ => Or.elim hs_ (fun e_ => absurd e_ (by first|exact hk_.1.2.2.2.1|(revert hk_;simp only [and_imp];intros;assumption))) (fun e_ => Or.elim e_ (fun e_ => absurd e_ (by first|exact hk_.1.2.2.2.2|(revert hk_;simp only [and_imp];intros;assumption))) (fun e_ => absurd e_ (by first|exact hk_.2|(revert hk_;simp only [and_imp];intros;assumption)))))) (fun k_ hk_ => by first|exact ⟨hk_.1.1.1,hk_.1.1.2.1,hk_.1.1.2.2.1,hk_.1.1.2.2.2.1,hk_.1.1.2.2.2.2⟩|(revert hk_;simp only [and_imp];intros;(repeat' (refine And.intro ?_ ?_)) <;> assumption)));have n4_:= mk (Kd.R_mono (ok':= fun k_ => some k_ ≠ (.slice Ao32 t313.length co32 : Value).ownBlock ∧ some k_ ≠ (.slice Ao35 t316.length co35 : Value).ownBlock ∧ some k_ ≠ (.slice Ao40 t364.length co40 : Value).ownBlock ∧ some k_ ≠ (.slice Ao51 t337.length co51 : Value).ownBlock ∧ some k_ ≠ (.slice Ao56 t340.length co56 : Value).ownBlock) (Kd.R_keptB ((Kd.R_apart' HO_334001.out (Kd.R_typed HO_348002.out) (by decide))) hkp (fun k_ hk_ hs_ => Or.elim hs_ (fun e_ => absurd e_ (by first|exact hk_.1.2.2.2.1|(revert hk_;simp only [and_imp];intros;assumption))) (fun e_ => Or.elim e_ (fun e_ => absurd e_ (by first|exact hk_.1.2.2.2.2|(revert hk_;simp only [and_imp];intros;assumption))) (fun e_ => absurd e_ (by first|exact hk_.2|(revert hk_;simp only [and_imp];intros;assumption)))))) (fun k_ hk_ => by first|exact ⟨hk_.1.1.1,hk_.1.1.2.1,hk_.1.1.2.2.1,hk_.1.1.2.2.2.1,hk_.1.1.2.2.2.2⟩|(revert hk_;simp only [and_imp];intros;(repeat' (refine And.intro ?_ ?_)) <;> assumption)));have n5_:= mk (Kd.R_mono (ok':= fun k_ => some k_ ≠ (.slice Ao36 t319.length co36 : Value).ownBlock ∧ some k_ ≠ (.slice Ao57 t343.length co57 : Value).ownBlock) (Kd.R_keptB ((Kd.R_apart' (Kd.R_apart' HO_334002.out (Kd.R_typed HO_348000.out) (by decide)) (Kd.R_typed HO_348001.out) (by decide))) hkp (fun k_ hk_ hs_ => Or.elim hs_ (fun e_ => absurd e_ (by first|exact hk_.1.2|(revert hk_;simp only [and_imp];intros;assumption))) (fun e_ => Or.elim e_ (fun e_ => absurd e_ (by first|exact hk_.2|(revert hk_;simp only [and_imp];intros;assumption))) (fun e_ => absurd e_ (by first|exact hk_.1.1.2|(revert hk_;simp only [and_imp];intros;assumption)))))) (fun k_ hk_ => by first|exact ⟨hk_.1.1.1.1,hk_.1.1.1.2⟩|(revert hk_;simp only [and_imp];intros;(repeat' (refine And.intro ?_ ?_)) <;> assumption)));have n6_:= mk (Kd.R_reok rfl hy0 (fun k_ e_ => HO_348000.out.1 k_ e_));have n7_:= mk (Kd.R_reok rfl hy1 (fun k_ e_ => HO_348001.out.1 k_ e_));have n8_:= mk (Kd.R_reok rfl hy2 (fun k_ e_ => HO_348002.out.1 k_ e_));have n9_:= mk (blk_kept (ub BK298.out) hkp (fun hs_ => Or.elim hs_ (fun e_ => (fun e_ => (Kd.R_ne HO_348000.out BK298.out (by decide)) e_) e_) (fun e_ => Or.elim e_ (fun e_ => (fun e_ => (Kd.R_ne HO_348001.out BK298.out (by decide)) e_) e_) (fun e_ => (fun e_ => (Kd.R_ne HO_348002.out BK298.out (by decide)) e_) e_))));have n10_:= mk (blk_kept (ub BK323.out) hkp (fun hs_ => Or.elim hs_ (fun e_ => (fun e_ => (Kd.R_ne HO_348000.out BK323.out (by decide)) e_) e_) (fun e_ => Or.elim e_ (fun e_ => (fun e_ => (Kd.R_ne HO_348001.out BK323.out (by decide)) e_) e_) (fun e_ => (fun e_ => (Kd.R_ne HO_348002.out BK323.out (by decide)) e_) e_))));have n11_:= mk (blk_kept (ub BK333.out) hkp (fun hs_ => Or.elim hs_ (fun e_ => (fun e_ => (Kd.R_ne HO_348000.out BK333.out (by decide)) e_) e_) (fun e_ => Or.elim e_ (fun e_ => (fun e_ => (Kd.R_ne HO_348001.out BK333.out (by decide)) e_) e_) (fun e_ => (fun e_ => (Kd.R_ne HO_348002.out BK333.out (by decide)) e_) e_))));have n12_:= mk (blk_kept (ub BK347.out) hkp (fun hs_ => Or.elim hs_ (fun e_ => (fun e_ => (Kd.R_ne HO_348000.out BK347.out (by decide)) e_) e_) (fun e_ => Or.elim e_ (fun e_ => (fun e_ => (Kd.R_ne HO_348001.out BK347.out (by decide)) e_) e_) (fun e_ => (fun e_ => (Kd.R_ne HO_348002.out BK347.out (by decide)) e_) e_))));have n13_:= mk (hb);clear HO_324000;clear HO_324001;clear HO_324002;clear HO_334000;clear HO_334001;clear HO_334002;clear HO_348000;clear HO_348001;clear HO_348002;clear BK298;clear BK323;clear BK333;clear BK347;clear HB;have HO_324000:= n0_;have HO_324001:= n1_;have HO_324002:= n2_;have HO_334000:= n3_;have HO_334001:= n4_;have HO_334002:= n5_;have HO_348000:= n6_;have HO_348001:= n7_;have HO_348002:= n8_;have BK298:= n9_;have BK323:= n10_;have BK333:= n11_;have BK347:= n12_;have HB:= n13_;clear n0_ n1_ n2_ n3_ n4_ n5_ n6_ n7_ n8_ n9_ n10_ n11_ n12_ n13_;(try clear hb);(try clear hkp);(try clear hy0);(try clear hy1);(try clear hy2);have hcz134_0 : w133.cell? ⟨gb347,0,none⟩ = some (.slice Ao51 t337.length co51):= (blk_cell BK347.out 0).trans rfl;have hcz134_1 : w133.cell? ⟨gb347,1,none⟩ = some (.slice Ao56 t340.length co56):= (blk_cell BK347.out 1).trans rfl;have hcz134_2 : w133.cell? ⟨gb347,2,none⟩ = some (.slice Ao57 t343.length co57):= (blk_cell BK347.out 2).trans rfl;have hfz134_0:= blk_frozen BK347.out 0;have hfz134_1:= blk_frozen BK347.out 1;have hfz134_2:= blk_frozen BK347.out 2)|((with_reducible refine gate_callee (f:= 16) rfl ?_);refine goesL_ (some 88) rfl rfl Try.func16 (by kernel_rfl) rfl #[.agg #[.slice Ao51 t371.length co51,.slice Ao56 t372.length co56,.slice Ao57 t373.length co57],.int .i64 1] rfl (by (try simp only [List.map_toArray,List.map_cons,List.map_nil]);first|done|(rw [show t371.length = t337.length from (Kd.R_reads' HO_348000.out).1.symm,show t372.length = t340.length from (Kd.R_reads' HO_348001.out).1.symm,show t373.length = t343.length from (Kd.R_reads' HO_348002.out).1.symm] <;> rfl)|rfl|(simp only [List.length_drop,List.length_take];rfl)) ?_;(with_reducible refine (laws_heldCracker.calls kj84 _ _ t371 _ _ t372 _ _ t373 1 t374 _ ?side1 ?side2 ?side3 ?side4 ?side5 ?side6 A122.out).mono ?_);(case side1 => exact uc (Kd.R_reads' HO_348000.out).2.2);(case side2 => rw [show t371.length = t337.length from (Kd.R_reads' HO_348000.out).1.symm];exact (Kd.R_reads' HO_348000.out).2.1);(case side3 => exact uc (Kd.R_reads' HO_348001.out).2.2);(case side4 => rw [show t372.length = t340.length from (Kd.R_reads' HO_348001.out).1.symm];exact (Kd.R_reads' HO_348001.out).2.1);(case side5 => exact uc (Kd.R_reads' HO_348002.out).2.2);(case side6 => rw [show t373.length = t343.length from (Kd.R_reads' HO_348002.out).1.symm];exact (Kd.R_reads' HO_348002.out).2.1);rintro e w135 ⟨rfl,hb⟩;refine ⟨_,rfl,?_⟩;have n0_:= mk (Kd.R_below (up HO_324000.out) hb);have n1_:= mk (Kd.R_below (up HO_324001.out) hb);have n2_:= mk (Kd.R_below (up HO_324002.out) hb);have n3_:= mk (Kd.R_below (up HO_334000.out) hb);have n4_:= mk (Kd.R_below (up HO_334001.out) hb);have n5_:= mk (Kd.R_below (up HO_334002.out) hb);have n6_:= mk (Kd.R_below (up HO_348000.out) hb);have n7_:= mk (Kd.R_below (up HO_348001.out) hb);have n8_:= mk (Kd.R_below (up HO_348002.out) hb);have n9_:= mk (blk_below (g:= gb298) (o:= .cells #[.slice A0_0 l0_0.length c0_0,.slice A0_1 l0_1.length c0_1,.slice A0_2 l0_2.length c0_2] 25 (0,0)) (ub BK298.out) hb);have n10_:= mk (blk_below (g:= gb323) (o:= .cells #[.slice Ao32 t313.length co32,.slice Ao35 t316.length co35,.slice Ao36 t319.length co36] 31 (0,0)) (ub BK323.out) hb);have n11_:= mk (blk_below (g:= gb333) (o:= .cells #[.slice Ao40 t364.length co40,.slice Ao44 t365.length co44,.slice Ao45 t366.length co45] 31 (0,0)) (ub BK333.out) hb);have n12_:= mk (blk_below (g:= gb347) (o:= .cells #[.slice Ao51 t337.length co51,.slice Ao56 t340.length co56,.slice Ao57 t343.length co57] 31 (0,0)) (ub BK347.out) hb);have n13_:= mk (below_step (by repeat (first|(with_reducible first|exact HB.out|apply below_alloc|apply pw_below_drewN|apply below_drew1|refine below_set ?_ GE298.out|refine below_set ?_ GE323.out|refine below_set ?_ GE333.out|refine below_set ?_ GE347.out)|exact HB.out)) hb);clear HO_324000;clear HO_324001;clear HO_324002;clear HO_334000;clear HO_334001;clear HO_334002;clear HO_348000;clear HO_348001;clear HO_348002;clear BK298;clear BK323;clear BK333;clear BK347;clear HB;have HO_324000:= n0_;have HO_324001:= n1_;have HO_324002:= n2_;have HO_334000:= n3_;have HO_334001:= n4_;have HO_334002:= n5_;have HO_348000:= n6_;have HO_348001:= n7_;have HO_348002:= n8_;have BK298:= n9_;have BK323:= n10_;have BK333:= n11_;have BK347:= n12_;have HB:= n13_;clear n0_ n1_ n2_ n3_ n4_ n5_ n6_ n7_ n8_ n9_ n10_ n11_ n12_ n13_;(try clear hb);(try clear hb2);(try clear hk);(try clear hi);have hnb136:= NB298_323.out;have hnc136:= NB323_298.out;have hnb137:= NB298_333.out;have hnc137:= NB333_298.out;have hcz138_0 : w135.cell? ⟨gb298,0,none⟩ = some (.slice A0_0 l0_0.length c0_0):= (blk_cell BK298.out 0).trans rfl;have hcz138_1 : w135.cell? ⟨gb298,1,none⟩ = some (.slice A0_1 l0_1.length c0_1):= (blk_cell BK298.out 1).trans rfl;have hcz138_2 : w135.cell? ⟨gb298,2,none⟩ = some (.slice A0_2 l0_2.length c0_2):= (blk_cell BK298.out 2).trans rfl;have hfz138_0:= blk_frozen BK298.out 0;have hfz138_1:= blk_frozen BK298.out 1;have hfz138_2:= blk_frozen BK298.out 2)|((with_reducible refine gate_callee (f:= 9) rfl ?_);refine goesL_ (some 96) rfl rfl Try.func9 (by kernel_rfl) rfl #[.agg #[.slice A0_0 l0_0.length c0_0,.slice A0_1 l0_1.length c0_1,.slice A0_2 l0_2.length c0_2]] rfl (by (try simp only [List.map_toArray,List.map_cons,List.map_nil]);first|done|rfl|(simp only [List.length_drop,List.length_take];rfl)) ?_;(with_reducible refine (laws_toCracker.calls kj84 _ _ l0_0 _ _ l0_1 _ _ l0_2 t375 t378 t381 _ ?side1 ?side2 ?side3 ?side4 ?side5 ?side6 A125.out).mono ?_);(case side1 => exact uc (Kd.C_below HR0_0.out HB.out));(case side2 => exact HC0_0.out);(case side3 => exact uc (Kd.C_below HR0_1.out HB.out));(case side4 => exact HC0_1.out);(case side5 => exact uc (Kd.C_below HR0_2.out HB.out));(case side6 => exact HC0_2.out);rintro e w139 ⟨v376,v379,v382,rfl,ho0,ho1,ho2,hb⟩;refine ⟨_,rfl,?_⟩;have n0_:= mk (Kd.R_mono (Kd.R_told (Kd.R_told (Kd.R_old (up HO_324000.out) hb) (Kd.R_base ho0)) (Kd.R_base ho1)) (fun _ h_ => h_.1));have n1_:= mk (Kd.R_mono (Kd.R_told (Kd.R_told (Kd.R_old (up HO_324001.out) hb) (Kd.R_base ho0)) (Kd.R_base ho1)) (fun _ h_ => h_.1));have n2_:= mk (Kd.R_elder' (up HO_324002.out) (Kd.R_base ho2) hb);have n3_:= mk (Kd.R_mono (Kd.R_told (Kd.R_told (Kd.R_old (up HO_334000.out) hb) (Kd.R_base ho0)) (Kd.R_base ho1)) (fun _ h_ => h_.1));have n4_:= mk (Kd.R_mono (Kd.R_told (Kd.R_told (Kd.R_old (up HO_334001.out) hb) (Kd.R_base ho0)) (Kd.R_base ho1)) (fun _ h_ => h_.1));have n5_:= mk (Kd.R_elder' (up HO_334002.out) (Kd.R_base ho2) hb);have n6_:= mk (Kd.R_mono (Kd.R_told (Kd.R_told (Kd.R_old (up HO_348000.out) hb) (Kd.R_base ho0)) (Kd.R_base ho1)) (fun _ h_ => h_.1));have n7_:= mk (Kd.R_mono (Kd.R_told (Kd.R_told (Kd.R_old (up HO_348001.out) hb) (Kd.R_base ho0)) (Kd.R_base ho1)) (fun _ h_ => h_.1));have n8_:= mk (Kd.R_elder' (up HO_348002.out) (Kd.R_base ho2) hb);have n9_:= mk (Kd.R_lower (Kd.R_new' (Kd.R_new' (Kd.R_new' (Kd.R_new' (Kd.R_new' (Kd.R_new' ho0 (Kd.R_lt (up HO_324000.out))) (Kd.R_lt (up HO_324001.out))) (Kd.R_lt (up HO_334000.out))) (Kd.R_lt (up HO_334001.out))) (Kd.R_lt (up HO_348000.out))) (Kd.R_lt (up HO_348001.out))) (below_size (by repeat (first|(with_reducible first|exact HB.out|apply below_alloc|apply pw_below_drewN|apply below_drew1|refine below_set ?_ GE298.out|refine below_set ?_ GE323.out|refine below_set ?_ GE333.out|refine below_set ?_ GE347.out)|exact HB.out))));have n10_:= mk (Kd.R_lower (Kd.R_new' (Kd.R_new' (Kd.R_new' (Kd.R_new' (Kd.R_new' (Kd.R_new' ho1 (Kd.R_lt (up HO_324000.out))) (Kd.R_lt (up HO_324001.out))) (Kd.R_lt (up HO_334000.out))) (Kd.R_lt (up HO_334001.out))) (Kd.R_lt (up HO_348000.out))) (Kd.R_lt (up HO_348001.out))) (below_size (by repeat (first|(with_reducible first|exact HB.out|apply below_alloc|apply pw_below_drewN|apply below_drew1|refine below_set ?_ GE298.out|refine below_set ?_ GE323.out|refine below_set ?_ GE333.out|refine below_set ?_ GE347.out)|exact HB.out))));have n11_:= mk (Kd.R_lower (Kd.R_new' (Kd.R_new' (Kd.R_new' ho2 (Kd.R_lt (up HO_324002.out))) (Kd.R_lt (up HO_334002.out))) (Kd.R_lt (up HO_348002.out))) (below_size (by repeat (first|(with_reducible first|exact HB.out|apply below_alloc|apply pw_below_drewN|apply below_drew1|refine below_set ?_ GE298.out|refine below_set ?_ GE323.out|refine below_set ?_ GE333.out|refine below_set ?_ GE347.out)|exact HB.out))));have n12_:= mk (blk_below (g:= gb298) (o:= .cells #[.slice A0_0 l0_0.length c0_0,.slice A0_1 l0_1.length c0_1,.slice A0_2 l0_2.length c0_2] 25 (0,0)) (ub BK298.out) hb);have n13_:= mk (blk_below (g:= gb323) (o:= .cells #[.slice Ao32 t313.length co32,.slice Ao35 t316.length co35,.slice Ao36 t319.length co36] 31 (0,0)) (ub BK323.out) hb);have n14_:= mk (blk_below (g:= gb333) (o:= .cells #[.slice Ao40 t364.length co40,.slice Ao44 t365.length co44,.slice Ao45 t366.length co45] 31 (0,0)) (ub BK333.out) hb);have n15_:= mk (blk_below (g:= gb347) (o:= .cells #[.slice Ao51 t337.length co51,.slice Ao56 t340.length co56,.slice Ao57 t343.length co57] 31 (0,0)) (ub BK347.out) hb);have n16_:= mk (below_step (by repeat (first|(with_reducible first|exact HB.out|apply below_alloc|apply pw_below_drewN|apply below_drew1|refine below_set ?_ GE298.out|refine below_set ?_ GE323.out|refine below_set ?_ GE333.out|refine below_set ?_ GE347.out)|exact HB.out)) hb);clear HO_324000;clear HO_324001;clear HO_324002;clear HO_334000;clear HO_334001;clear HO_334002;clear HO_348000;clear HO_348001;clear HO_348002;clear BK298;clear BK323;clear BK333;clear BK347;clear HB;have HO_324000:= n0_;have HO_324001:= n1_;have HO_324002:= n2_;have HO_334000:= n3_;have HO_334001:= n4_;have HO_334002:= n5_;have HO_348000:= n6_;have HO_348001:= n7_;have HO_348002:= n8_;have HO377:= n9_;have HO380:= n10_;have HO383:= n11_;have BK298:= n12_;have BK323:= n13_;have BK333:= n14_;have BK347:= n15_;have HB:= n16_;clear n0_ n1_ n2_ n3_ n4_ n5_ n6_ n7_ n8_ n9_ n10_ n11_ n12_ n13_ n14_ n15_ n16_;(try clear hb);(try clear hb2);(try clear hk);(try clear hi);(try clear ho0);(try clear ho1);(try clear ho2))|((with_reducible refine gate_callee (f:= 10) rfl ?_);refine goesL_ (some 98) rfl rfl Try.func10 (by kernel_rfl) rfl #[.slice A1 l1.length c1] rfl (by (try simp only [List.map_toArray,List.map_cons,List.map_nil]);first|done|rfl|(simp only [List.length_drop,List.length_take];rfl)) ?_;(with_reducible refine (laws_toSwapS.calls kj84 _ _ l1 t384 _ ?side1 ?side2 A126.out).mono ?_);(case side1 => exact uc (Kd.C_below HR1.out HB.out));(case side2 => exact HC1.out);rintro e w140 ⟨v385,rfl,ho0,hb⟩;refine ⟨_,rfl,?_⟩;have n0_:= mk (Kd.R_below (up HO_324000.out) hb);have n1_:= mk (Kd.R_below (up HO_324001.out) hb);have n2_:= mk (Kd.R_below (up HO_324002.out) hb);have n3_:= mk (Kd.R_below (up HO_334000.out) hb);have n4_:= mk (Kd.R_below (up HO_334001.out) hb);have n5_:= mk (Kd.R_below (up HO_334002.out) hb);have n6_:= mk (Kd.R_below (up HO_348000.out) hb);have n7_:= mk (Kd.R_below (up HO_348001.out) hb);have n8_:= mk (Kd.R_below (up HO_348002.out) hb);have n9_:= mk (Kd.R_below (up HO377.out) hb);have n10_:= mk (Kd.R_below (up HO380.out) hb);have n11_:= mk (Kd.R_below (up HO383.out) hb);have n12_:= mk (Kd.R_lower ho0 (below_size (by repeat (first|(with_reducible first|exact HB.out|apply below_alloc|apply pw_below_drewN|apply below_drew1|refine below_set ?_ GE298.out|refine below_set ?_ GE323.out|refine below_set ?_ GE333.out|refine below_set ?_ GE347.out)|exact HB.out))));have n13_:= mk (blk_below (g:= gb298) (o:= .cells #[.slice A0_0 l0_0.length c0_0,.slice A0_1 l0_1.length c0_1,.slice A0_2 l0_2.length c0_2] 25 (0,0)) (ub BK298.out) hb);have n14_:= mk (blk_below (g:= gb323) (o:= .cells #[.slice Ao32 t313.length co32,.slice Ao35 t316.length co35,.slice Ao36 t319.length co36] 31 (0,0)) (ub BK323.out) hb);have n15_:= mk (blk_below (g:= gb333) (o:= .cells #[.slice Ao40 t364.length co40,.slice Ao44 t365.length co44,.slice Ao45 t366.length co45] 31 (0,0)) (ub BK333.out) hb);have n16_:= mk (blk_below (g:= gb347) (o:= .cells #[.slice Ao51 t337.length co51,.slice Ao56 t340.length co56,.slice Ao57 t343.length co57] 31 (0,0)) (ub BK347.out) hb);have n17_:= mk (below_step (by repeat (first|(with_reducible first|exact HB.out|apply below_alloc|apply pw_below_drewN|apply below_drew1|refine below_set ?_ GE298.out|refine below_set ?_ GE323.out|refine below_set ?_ GE333.out|refine below_set ?_ GE347.out)|exact HB.out)) hb);clear HO_324000;clear HO_324001;clear HO_324002;clear HO_334000;clear HO_334001;clear HO_334002;clear HO_348000;clear HO_348001;clear HO_348002;clear HO377;clear HO380;clear HO383;clear BK298;clear BK323;clear BK333;clear BK347;clear HB;have HO_324000:= n0_;have HO_324001:= n1_;have HO_324002:= n2_;have HO_334000:= n3_;have HO_334001:= n4_;have HO_334002:= n5_;have HO_348000:= n6_;have HO_348001:= n7_;have HO_348002:= n8_;have HO377:= n9_;have HO380:= n10_;have HO383:= n11_;have HO386:= n12_;have BK298:= n13_;have BK323:= n14_;have BK333:= n15_;have BK347:= n16_;have HB:= n17_;clear n0_ n1_ n2_ n3_ n4_ n5_ n6_ n7_ n8_ n9_ n10_ n11_ n12_ n13_ n14_ n15_ n16_ n17_;(try clear hb);(try clear hb2);(try clear hk);(try clear hi);(try clear ho0);obtain ⟨Ao141,co141,eo141⟩:= Kd.R_slice HO377.out;subst eo141;obtain ⟨Ao142,co142,eo142⟩:= Kd.R_slice HO380.out;subst eo142;obtain ⟨Ao143,co143,eo143⟩:= Kd.R_slice HO383.out;subst eo143;obtain ⟨Ao144,co144,eo144⟩:= Kd.R_slice HO386.out;subst eo144)|((with_reducible refine gate_callee (f:= 11) rfl ?_);refine goesL_ (some 99) rfl rfl Try.func11 (by kernel_rfl) rfl #[.agg #[.slice Ao141 t375.length co141,.slice Ao142 t378.length co142,.slice Ao143 t381.length co143],.slice Ao144 t384.length co144] rfl (by (try simp only [List.map_toArray,List.map_cons,List.map_nil]);first|done|rfl|(simp only [List.length_drop,List.length_take];rfl)) ?_;(with_reducible refine (impl_ApplySwaps.calls kj84 _ _ t375 _ _ t378 _ _ t381 _ _ t384 t387 t390 t393 t396 _ ?side1 ?side2 ?side3 ?side4 ?side5 ?side6 ?side7 ?side8 A127.out).mono ?_);(case side1 => exact uc (Kd.R_reads' HO377.out).2.2);(case side2 => exact (Kd.R_reads' HO377.out).2.1);(case side3 => exact uc (Kd.R_reads' HO380.out).2.2);(case side4 => exact (Kd.R_reads' HO380.out).2.1);(case side5 => exact uc (Kd.R_reads' HO383.out).2.2);(case side6 => exact (Kd.R_reads' HO383.out).2.1);(case side7 => exact uc (Kd.R_reads' HO386.out).2.2);(case side8 => exact (Kd.R_reads' HO386.out).2.1);rintro e w145 ⟨v388,v391,v394,rfl,ho0,ho1,ho2,hb⟩;refine ⟨_,rfl,?_⟩;have n0_:= mk (Kd.R_mono (Kd.R_told (Kd.R_told (Kd.R_old (up HO_324000.out) hb) (Kd.R_base ho0)) (Kd.R_base ho1)) (fun _ h_ => h_.1));have n1_:= mk (Kd.R_mono (Kd.R_told (Kd.R_told (Kd.R_old (up HO_324001.out) hb) (Kd.R_base ho0)) (Kd.R_base ho1)) (fun _ h_ => h_.1));have n2_:= mk (Kd.R_elder' (up HO_324002.out) (Kd.R_base ho2) hb);have n3_:= mk (Kd.R_mono (Kd.R_told (Kd.R_told (Kd.R_old (up HO_334000.out) hb) (Kd.R_base ho0)) (Kd.R_base ho1)) (fun _ h_ => h_.1));have n4_:= mk (Kd.R_mono (Kd.R_told (Kd.R_told (Kd.R_old (up HO_334001.out) hb) (Kd.R_base ho0)) (Kd.R_base ho1)) (fun _ h_ => h_.1));have n5_:= mk (Kd.R_elder' (up HO_334002.out) (Kd.R_base ho2) hb);have n6_:= mk (Kd.R_mono (Kd.R_told (Kd.R_told (Kd.R_old (up HO_348000.out) hb) (Kd.R_base ho0)) (Kd.R_base ho1)) (fun _ h_ => h_.1));have n7_:= mk (Kd.R_mono (Kd.R_told (Kd.R_told (Kd.R_old (up HO_348001.out) hb) (Kd.R_base ho0)) (Kd.R_base ho1)) (fun _ h_ => h_.1));have n8_:= mk (Kd.R_elder' (up HO_348002.out) (Kd.R_base ho2) hb);have n9_:= mk (Kd.R_mono (Kd.R_told (Kd.R_told (Kd.R_old (up HO377.out) hb) (Kd.R_base ho0)) (Kd.R_base ho1)) (fun _ h_ => h_.1));have n10_:= mk (Kd.R_mono (Kd.R_told (Kd.R_told (Kd.R_old (up HO380.out) hb) (Kd.R_base ho0)) (Kd.R_base ho1)) (fun _ h_ => h_.1));have n11_:= mk (Kd.R_elder' (up HO383.out) (Kd.R_base ho2) hb);have n12_:= mk (Kd.R_below (up HO386.out) hb);have n13_:= mk (Kd.R_lower (Kd.R_new' (Kd.R_new' (Kd.R_new' (Kd.R_new' (Kd.R_new' (Kd.R_new' (Kd.R_new' (Kd.R_new' ho0 (Kd.R_lt (up HO_324000.out))) (Kd.R_lt (up HO_324001.out))) (Kd.R_lt (up HO_334000.out))) (Kd.R_lt (up HO_334001.out))) (Kd.R_lt (up HO_348000.out))) (Kd.R_lt (up HO_348001.out))) (Kd.R_lt (up HO377.out))) (Kd.R_lt (up HO380.out))) (below_size (by repeat (first|(with_reducible first|exact HB.out|apply below_alloc|apply pw_below_drewN|apply below_drew1|refine below_set ?_ GE298.out|refine below_set ?_ GE323.out|refine below_set ?_ GE333.out|refine below_set ?_ GE347.out)|exact HB.out))));have n14_:= mk (Kd.R_lower (Kd.R_new' (Kd.R_new' (Kd.R_new' (Kd.R_new' (Kd.R_new' (Kd.R_new' (Kd.R_new' (Kd.R_new' ho1 (Kd.R_lt (up HO_324000.out))) (Kd.R_lt (up HO_324001.out))) (Kd.R_lt (up HO_334000.out))) (Kd.R_lt (up HO_334001.out))) (Kd.R_lt (up HO_348000.out))) (Kd.R_lt (up HO_348001.out))) (Kd.R_lt (up HO377.out))) (Kd.R_lt (up HO380.out))) (below_size (by repeat (first|(with_reducible first|exact HB.out|apply below_alloc|apply pw_below_drewN|apply below_drew1|refine below_set ?_ GE298.out|refine below_set ?_ GE323.out|refine below_set ?_ GE333.out|refine below_set ?_ GE347.out)|exact HB.out))));have n15_:= mk (Kd.R_lower (Kd.R_new' (Kd.R_new' (Kd.R_new' (Kd.R_new' ho2 (Kd.R_lt (up HO_324002.out))) (Kd.R_lt (up HO_334002.out))) (Kd.R_lt (up HO_348002.out))) (Kd.R_lt (up HO383.out))) (below_size (by repeat (first|(with_reducible first|exact HB.out|apply below_alloc|apply pw_below_drewN|apply below_drew1|refine below_set ?_ GE298.out|refine below_set ?_ GE323.out|refine below_set ?_ GE333.out|refine below_set ?_ GE347.out)|exact HB.out))));have n16_:= mk (blk_below (g:= gb298) (o:= .cells #[.slice A0_0 l0_0.length c0_0,.slice A0_1 l0_1.length c0_1,.slice A0_2 l0_2.length c0_2] 25 (0,0)) (ub BK298.out) hb);have n17_:= mk (blk_below (g:= gb323) (o:= .cells #[.slice Ao32 t313.length co32,.slice Ao35 t316.length co35,.slice Ao36 t319.length co36] 31 (0,0)) (ub BK323.out) hb);have n18_:= mk (blk_below (g:= gb333) (o:= .cells #[.slice Ao40 t364.length co40,.slice Ao44 t365.length co44,.slice Ao45 t366.length co45] 31 (0,0)) (ub BK333.out) hb);have n19_:= mk (blk_below (g:= gb347) (o:= .cells #[.slice Ao51 t337.length co51,.slice Ao56 t340.length co56,.slice Ao57 t343.length co57] 31 (0,0)) (ub BK347.out) hb);have n20_:= mk (below_step (by repeat (first|(with_reducible first|exact HB.out|apply below_alloc|apply pw_below_drewN|apply below_drew1|refine below_set ?_ GE298.out|refine below_set ?_ GE323.out|refine below_set ?_ GE333.out|refine below_set ?_ GE347.out)|exact HB.out)) hb);clear HO_324000;clear HO_324001;clear HO_324002;clear HO_334000;clear HO_334001;clear HO_334002;clear HO_348000;clear HO_348001;clear HO_348002;clear HO377;clear HO380;clear HO383;clear HO386;clear BK298;clear BK323;clear BK333;clear BK347;clear HB;have HO_324000:= n0_;have HO_324001:= n1_;have HO_324002:= n2_;have HO_334000:= n3_;have HO_334001:= n4_;have HO_334002:= n5_;have HO_348000:= n6_;have HO_348001:= n7_;have HO_348002:= n8_;have HO377:= n9_;have HO380:= n10_;have HO383:= n11_;have HO386:= n12_;have HO389:= n13_;have HO392:= n14_;have HO395:= n15_;have BK298:= n16_;have BK323:= n17_;have BK333:= n18_;have BK347:= n19_;have HB:= n20_;clear n0_ n1_ n2_ n3_ n4_ n5_ n6_ n7_ n8_ n9_ n10_ n11_ n12_ n13_ n14_ n15_ n16_ n17_ n18_ n19_ n20_;(try clear hb);(try clear hb2);(try clear hk);(try clear hi);(try clear ho0);(try clear ho1);(try clear ho2))|((with_reducible refine gate_dst (N:= 15) rfl ?_);refine box_event ?hg (N:= 15) ?hd (cs:= #[.slice none 0 0,.slice none 0 0,.slice none 0 0]) (t:= 31) ?hr ?_;(case hd => rfl);(case hg => rfl);(case hr => first|(go_simp;done)|(go_simp;rfl));intro gb397 hg w146 hbox hb;have n0_:= mk (Kd.R_below (up HO_324000.out) hb);have n1_:= mk (Kd.R_below (up HO_324001.out) hb);have n2_:= mk (Kd.R_below (up HO_324002.out) hb);have n3_:= mk (Kd.R_below (up HO_334000.out) hb);have n4_:= mk (Kd.R_below (up HO_334001.out) hb);have n5_:= mk (Kd.R_below (up HO_334002.out) hb);have n6_:= mk (Kd.R_below (up HO_348000.out) hb);have n7_:= mk (Kd.R_below (up HO_348001.out) hb);have n8_:= mk (Kd.R_below (up HO_348002.out) hb);have n9_:= mk (Kd.R_below (up HO377.out) hb);have n10_:= mk (Kd.R_below (up HO380.out) hb);have n11_:= mk (Kd.R_below (up HO383.out) hb);have n12_:= mk (Kd.R_below (up HO386.out) hb);have n13_:= mk (Kd.R_below (up HO389.out) hb);have n14_:= mk (Kd.R_below (up HO392.out) hb);have n15_:= mk (Kd.R_below (up HO395.out) hb);have n16_:= mk (blk_below (g:= gb298) (o:= .cells #[.slice A0_0 l0_0.length c0_0,.slice A0_1 l0_1.length c0_1,.slice A0_2 l0_2.length c0_2] 25 (0,0)) (ub BK298.out) hb);have n17_:= mk (blk_below (g:= gb323) (o:= .cells #[.slice Ao32 t313.length co32,.slice Ao35 t316.length co35,.slice Ao36 t319.length co36] 31 (0,0)) (ub BK323.out) hb);have n18_:= mk (blk_below (g:= gb333) (o:= .cells #[.slice Ao40 t364.length co40,.slice Ao44 t365.length co44,.slice Ao45 t366.length co45] 31 (0,0)) (ub BK333.out) hb);have n19_:= mk (blk_below (g:= gb347) (o:= .cells #[.slice Ao51 t337.length co51,.slice Ao56 t340.length co56,.slice Ao57 t343.length co57] 31 (0,0)) (ub BK347.out) hb);have n20_:= mk (below_step (by repeat (first|(with_reducible first|exact HB.out|apply below_alloc|apply pw_below_drewN|apply below_drew1|refine below_set ?_ GE298.out|refine below_set ?_ GE323.out|refine below_set ?_ GE333.out|refine below_set ?_ GE347.out)|exact HB.out)) hb);have n21_:= mk (hbox);have n22_:= mk ((by rw [hg];exact (below_size (by repeat (first|(with_reducible first|exact HB.out|apply below_alloc|apply pw_below_drewN|apply below_drew1|refine below_set ?_ GE298.out|refine below_set ?_ GE323.out|refine below_set ?_ GE333.out|refine below_set ?_ GE347.out)|exact HB.out))) : w.heap.size ≤ gb397));have n23_:= mk ((by rw [hg];exact (below_size (by repeat (first|(with_reducible first|exact HB.out|apply below_alloc|apply pw_below_drewN|apply below_drew1|refine below_set ?_ GE298.out|refine below_set ?_ GE323.out|refine below_set ?_ GE333.out|refine below_set ?_ GE347.out)|exact HB.out))) : w.heap.size ≤ gb397));have n24_:= mk ((by rw [hg];exact Nat.ne_of_lt (blk_lt (g:= gb298) (o:= .cells #[.slice A0_0 l0_0.length c0_0,.slice A0_1 l0_1.length c0_1,.slice A0_2 l0_2.length c0_2] 25 (0,0)) (ub BK298.out)) : gb298 ≠ gb397));have n25_:= mk ((by rw [hg];exact Nat.ne_of_gt (blk_lt (g:= gb298) (o:= .cells #[.slice A0_0 l0_0.length c0_0,.slice A0_1 l0_1.length c0_1,.slice A0_2 l0_2.length c0_2] 25 (0,0)) (ub BK298.out)) : gb397 ≠ gb298));have n26_:= mk ((by rw [hg];exact Nat.ne_of_lt (blk_lt (g:= gb323) (o:= .cells #[.slice Ao32 t313.length co32,.slice Ao35 t316.length co35,.slice Ao36 t319.length co36] 31 (0,0)) (ub BK323.out)) : gb323 ≠ gb397));have n27_:= mk ((by rw [hg];exact Nat.ne_of_gt (blk_lt (g:= gb323) (o:= .cells #[.slice Ao32 t313.length co32,.slice Ao35 t316.length co35,.slice Ao36 t319.length co36] 31 (0,0)) (ub BK323.out)) : gb397 ≠ gb323));have n28_:= mk ((by rw [hg];exact Nat.ne_of_lt (blk_lt (g:= gb333) (o:= .cells #[.slice Ao40 t364.length co40,.slice Ao44 t365.length co44,.slice Ao45 t366.length co45] 31 (0,0)) (ub BK333.out)) : gb333 ≠ gb397));have n29_:= mk ((by rw [hg];exact Nat.ne_of_gt (blk_lt (g:= gb333) (o:= .cells #[.slice Ao40 t364.length co40,.slice Ao44 t365.length co44,.slice Ao45 t366.length co45] 31 (0,0)) (ub BK333.out)) : gb397 ≠ gb333));have n30_:= mk ((by rw [hg];exact Nat.ne_of_lt (blk_lt (g:= gb347) (o:= .cells #[.slice Ao51 t337.length co51,.slice Ao56 t340.length co56,.slice Ao57 t343.length co57] 31 (0,0)) (ub BK347.out)) : gb347 ≠ gb397));have n31_:= mk ((by rw [hg];exact Nat.ne_of_gt (blk_lt (g:= gb347) (o:= .cells #[.slice Ao51 t337.length co51,.slice Ao56 t340.length co56,.slice Ao57 t343.length co57] 31 (0,0)) (ub BK347.out)) : gb397 ≠ gb347));clear HO_324000;clear HO_324001;clear HO_324002;clear HO_334000;clear HO_334001;clear HO_334002;clear HO_348000;clear HO_348001;clear HO_348002;clear HO377;clear HO380;clear HO383;clear HO386;clear HO389;clear HO392;clear HO395;clear BK298;clear BK323;clear BK333;clear BK347;clear HB;have HO_324000:= n0_;have HO_324001:= n1_;have HO_324002:= n2_;have HO_334000:= n3_;have HO_334001:= n4_;have HO_334002:= n5_;have HO_348000:= n6_;have HO_348001:= n7_;have HO_348002:= n8_;have HO377:= n9_;have HO380:= n10_;have HO383:= n11_;have HO386:= n12_;have HO389:= n13_;have HO392:= n14_;have HO395:= n15_;have BK298:= n16_;have BK323:= n17_;have BK333:= n18_;have BK347:= n19_;have HB:= n20_;have BK397:= n21_;have GW397:= n22_;have GE397:= n23_;have NB298_397:= n24_;have NB397_298:= n25_;have NB323_397:= n26_;have NB397_323:= n27_;have NB333_397:= n28_;have NB397_333:= n29_;have NB347_397:= n30_;have NB397_347:= n31_;clear n0_ n1_ n2_ n3_ n4_ n5_ n6_ n7_ n8_ n9_ n10_ n11_ n12_ n13_ n14_ n15_ n16_ n17_ n18_ n19_ n20_ n21_ n22_ n23_ n24_ n25_ n26_ n27_ n28_ n29_ n30_ n31_;clear hb hbox hg;obtain ⟨Ao147,co147,eo147⟩:= Kd.R_slice HO389.out;subst eo147;have hnb148:= NB397_298.out;have hnc148:= NB298_397.out;have hnb149:= NB397_323.out;have hnc149:= NB323_397.out;have hnb150:= NB397_333.out;have hnc150:= NB333_397.out;have hnb151:= NB397_347.out;have hnc151:= NB347_397.out;have hcz152_0 : w146.cell? ⟨gb397,0,none⟩ = some (.slice none 0 0):= (blk_cell BK397.out 0).trans rfl;have hcz152_1 : w146.cell? ⟨gb397,1,none⟩ = some (.slice none 0 0):= (blk_cell BK397.out 1).trans rfl;have hcz152_2 : w146.cell? ⟨gb397,2,none⟩ = some (.slice none 0 0):= (blk_cell BK397.out 2).trans rfl;have hfz152_0:= blk_frozen BK397.out 0;have hfz152_1:= blk_frozen BK397.out 1;have hfz152_2:= blk_frozen BK397.out 2;obtain ⟨Ao153,co153,eo153⟩:= Kd.R_slice HO392.out;subst eo153;obtain ⟨Ao154,co154,eo154⟩:= Kd.R_slice HO395.out;subst eo154))
             (try simp only [Act.put,List.setIfInBounds_toArray,List.set_cons_zero,List.set_cons_succ])
             go_cut [110] (fun v110 wc => ∃ (kq : Nat) (x110_127 : Bool),v110 = .bool x110_127 ∧ Aside0 (laws_FnExactApplySwaps.j2 kq t370 x110_127 t371 t372 t373 = some r) ∧ Aside0 (kq ≤ kj84) ∧ Aside0 (Kd.R (Kd.int .i64) 3 wc w.heap.size (fun k_ => some k_ ≠ ((.slice Ao35 t316.length co35) : Value).ownBlock ∧ some k_ ≠ ((.slice Ao40 t364.length co40) : Value).ownBlock ∧ some k_ ≠ ((.slice Ao44 t365.length co44) : Value).ownBlock ∧ some k_ ≠ ((.slice Ao51 t337.length co51) : Value).ownBlock ∧ some k_ ≠ ((.slice Ao56 t340.length co56) : Value).ownBlock ∧ some k_ ≠ ((.slice Ao147 t387.length co147) : Value).ownBlock ∧ some k_ ≠ ((.slice Ao153 t390.length co153) : Value).ownBlock) (.slice Ao32 t313.length co32) t313) ∧ Aside0 (Kd.R (Kd.int .i64) 3 wc w.heap.size (fun k_ => some k_ ≠ ((.slice Ao32 t313.length co32) : Value).ownBlock ∧ some k_ ≠ ((.slice Ao40 t364.length co40) : Value).ownBlock ∧ some k_ ≠ ((.slice Ao44 t365.length co44) : Value).ownBlock ∧ some k_ ≠ ((.slice Ao51 t337.length co51) : Value).ownBlock ∧ some k_ ≠ ((.slice Ao56 t340.length co56) : Value).ownBlock ∧ some k_ ≠ ((.slice Ao147 t387.length co147) : Value).ownBlock ∧ some k_ ≠ ((.slice Ao153 t390.length co153) : Value).ownBlock) (.slice Ao35 t316.length co35) t316) ∧ Aside0 (Kd.R k74 74 wc w.heap.size (fun k_ => some k_ ≠ ((.slice Ao45 t366.length co45) : Value).ownBlock ∧ some k_ ≠ ((.slice Ao57 t343.length co57) : Value).ownBlock ∧ some k_ ≠ ((.slice Ao154 t393.length co154) : Value).ownBlock) (.slice Ao36 t319.length co36) t319) ∧ Aside0 (Kd.R (Kd.int .i64) 3 wc w.heap.size (fun k_ => some k_ ≠ ((.slice Ao32 t313.length co32) : Value).ownBlock ∧ some k_ ≠ ((.slice Ao35 t316.length co35) : Value).ownBlock ∧ some k_ ≠ ((.slice Ao44 t365.length co44) : Value).ownBlock ∧ some k_ ≠ ((.slice Ao51 t337.length co51) : Value).ownBlock ∧ some k_ ≠ ((.slice Ao56 t340.length co56) : Value).ownBlock ∧ some k_ ≠ ((.slice Ao147 t387.length co147) : Value).ownBlock ∧ some k_ ≠ ((.slice Ao153 t390.length co153) : Value).ownBlock) (.slice Ao40 t364.length co40) t364) ∧ Aside0 (Kd.R (Kd.int .i64) 3 wc w.heap.size (fun k_ => some k_ ≠ ((.slice Ao32 t313.length co32) : Value).ownBlock ∧ some k_ ≠ ((.slice Ao35 t316.length co35) : Value).ownBlock ∧ some k_ ≠ ((.slice Ao40 t364.length co40) : Value).ownBlock ∧ some k_ ≠ ((.slice Ao51 t337.length co51) : Value).ownBlock ∧ some k_ ≠ ((.slice Ao56 t340.length co56) : Value).ownBlock ∧ some k_ ≠ ((.slice Ao147 t387.length co147) : Value).ownBlock ∧ some k_ ≠ ((.slice Ao153 t390.length co153) : Value).ownBlock) (.slice Ao44 t365.length co44) t365) ∧ Aside0 (Kd.R k74 74 wc w.heap.size (fun k_ => some k_ ≠ ((.slice Ao36 t319.length co36) : Value).ownBlock ∧ some k_ ≠ ((.slice Ao57 t343.length co57) : Value).ownBlock ∧ some k_ ≠ ((.slice Ao154 t393.length co154) : Value).ownBlock) (.slice Ao45 t366.length co45) t366) ∧ Aside0 (Kd.R (Kd.int .i64) 3 wc w.heap.size (fun k_ => some k_ ≠ ((.slice Ao32 t313.length co32) : Value).ownBlock ∧ some k_ ≠ ((.slice Ao35 t316.length co35) : Value).ownBlock ∧ some k_ ≠ ((.slice Ao40 t364.length co40) : Value).ownBlock ∧ some k_ ≠ ((.slice Ao44 t365.length co44) : Value).ownBlock ∧ some k_ ≠ ((.slice Ao56 t340.length co56) : Value).ownBlock ∧ some k_ ≠ ((.slice Ao147 t387.length co147) : Value).ownBlock ∧ some k_ ≠ ((.slice Ao153 t390.length co153) : Value).ownBlock) (.slice Ao51 t337.length co51) t371) ∧ Aside0 (Kd.R (Kd.int .i64) 3 wc w.heap.size (fun k_ => some k_ ≠ ((.slice Ao32 t313.length co32) : Value).ownBlock ∧ some k_ ≠ ((.slice Ao35 t316.length co35) : Value).ownBlock ∧ some k_ ≠ ((.slice Ao40 t364.length co40) : Value).ownBlock ∧ some k_ ≠ ((.slice Ao44 t365.length co44) : Value).ownBlock ∧ some k_ ≠ ((.slice Ao51 t337.length co51) : Value).ownBlock ∧ some k_ ≠ ((.slice Ao147 t387.length co147) : Value).ownBlock ∧ some k_ ≠ ((.slice Ao153 t390.length co153) : Value).ownBlock) (.slice Ao56 t340.length co56) t372) ∧ Aside0 (Kd.R k74 74 wc w.heap.size (fun k_ => some k_ ≠ ((.slice Ao36 t319.length co36) : Value).ownBlock ∧ some k_ ≠ ((.slice Ao45 t366.length co45) : Value).ownBlock ∧ some k_ ≠ ((.slice Ao154 t393.length co154) : Value).ownBlock) (.slice Ao57 t343.length co57) t373) ∧ Aside0 (Kd.R (Kd.int .i64) 3 wc w.heap.size (fun k_ => some k_ ≠ ((.slice Ao32 t313.length co32) : Value).ownBlock ∧ some k_ ≠ ((.slice Ao35 t316.length co35) : Value).ownBlock ∧ some k_ ≠ ((.slice Ao40 t364.length co40) : Value).ownBlock ∧ some k_ ≠ ((.slice Ao44 t365.length co44) : Value).ownBlock ∧ some k_ ≠ ((.slice Ao51 t337.length co51) : Value).ownBlock ∧ some k_ ≠ ((.slice Ao56 t340.length co56) : Value).ownBlock ∧ some k_ ≠ ((.slice Ao153 t390.length co153) : Value).ownBlock) (.slice Ao147 t387.length co147) t387) ∧ Aside0 (Kd.R (Kd.int .i64) 3 wc w.heap.size (fun k_ => some k_ ≠ ((.slice Ao32 t313.length co32) : Value).ownBlock ∧ some k_ ≠ ((.slice Ao35 t316.length co35) : Value).ownBlock ∧ some k_ ≠ ((.slice Ao40 t364.length co40) : Value).ownBlock ∧ some k_ ≠ ((.slice Ao44 t365.length co44) : Value).ownBlock ∧ some k_ ≠ ((.slice Ao51 t337.length co51) : Value).ownBlock ∧ some k_ ≠ ((.slice Ao56 t340.length co56) : Value).ownBlock ∧ some k_ ≠ ((.slice Ao147 t387.length co147) : Value).ownBlock) (.slice Ao153 t390.length co153) t390) ∧ Aside0 (Kd.R k74 74 wc w.heap.size (fun k_ => some k_ ≠ ((.slice Ao36 t319.length co36) : Value).ownBlock ∧ some k_ ≠ ((.slice Ao45 t366.length co45) : Value).ownBlock ∧ some k_ ≠ ((.slice Ao57 t343.length co57) : Value).ownBlock) (.slice Ao154 t393.length co154) t393) ∧ Aside0 (wc.heap[gb298]? = some (.cells #[(.slice A0_0 l0_0.length c0_0),(.slice A0_1 l0_1.length c0_1),(.slice A0_2 l0_2.length c0_2)] 25 (0,0))) ∧ Aside0 (wc.heap[gb323]? = some (.cells #[(.slice Ao32 t313.length co32),(.slice Ao35 t316.length co35),(.slice Ao36 t319.length co36)] 31 (0,0))) ∧ Aside0 (wc.heap[gb333]? = some (.cells #[(.slice Ao40 t364.length co40),(.slice Ao44 t365.length co44),(.slice Ao45 t366.length co45)] 31 (0,0))) ∧ Aside0 (wc.heap[gb347]? = some (.cells #[(.slice Ao51 t337.length co51),(.slice Ao56 t340.length co56),(.slice Ao57 t343.length co57)] 31 (0,0))) ∧ Aside0 (wc.heap[gb397]? = some (.cells #[(.slice Ao147 t387.length co147),(.slice Ao153 t390.length co153),(.slice Ao154 t393.length co154)] 31 (0,0))) ∧ Aside0 (Below w.heap.size w wc))
             case first =>
              have H:= HC128.out
              clear HC128
              replace H:= Option.bind_eq_some_iff.mp H
              obtain ⟨t398,A1550,H⟩:= H
              replace H : (if t398 = true then (laws_FnExactApplySwaps.j2 kj84 t370 (t396 != t322) t371 t372 t373) else (laws_FnExactApplySwaps.j2 kj84 t370 true t371 t372 t373)) = some r:= H
              have A155:= mk A1550
              clear A1550
              by_cases c156 : t398 = true
              subst c156
              have H1 : (laws_FnExactApplySwaps.j2 kj84 t370 (t396 != t322) t371 t372 t373) = some r:= by rw [if_pos rfl] at H;exact H
              clear H
              have H:= H1
              clear H1
              have H':= mk H
              clear H
              have hnb157:= NB397_298.out
              have hnc157:= NB298_397.out
              have hnb158:= NB397_323.out
              have hnc158:= NB323_397.out
              have hnb159:= NB397_333.out
              have hnc159:= NB333_397.out
              have hnb160:= NB397_347.out
              have hnc160:= NB347_397.out
              have hcz161_0 : w146.cell? ⟨gb397,0,none⟩ = some (.slice none 0 0):= (blk_cell BK397.out 0).trans rfl
              have hcz161_1 : w146.cell? ⟨gb397,1,none⟩ = some (.slice none 0 0):= (blk_cell BK397.out 1).trans rfl
              have hcz161_2 : w146.cell? ⟨gb397,2,none⟩ = some (.slice none 0 0):= (blk_cell BK397.out 2).trans rfl
              have hfz161_0:= blk_frozen BK397.out 0
              have hfz161_1:= blk_frozen BK397.out 1
              have hfz161_2:= blk_frozen BK397.out 2
              have hnb162:= NB323_298.out
              have hnc162:= NB298_323.out
              have hnb163:= NB323_333.out
              have hnc163:= NB333_323.out
              have hnb164:= NB323_347.out
              have hnc164:= NB347_323.out
              have hcz165_0 : w146.cell? ⟨gb323,0,none⟩ = some (.slice Ao32 t313.length co32):= (blk_cell BK323.out 0).trans rfl
              have hcz165_1 : w146.cell? ⟨gb323,1,none⟩ = some (.slice Ao35 t316.length co35):= (blk_cell BK323.out 1).trans rfl
              have hcz165_2 : w146.cell? ⟨gb323,2,none⟩ = some (.slice Ao36 t319.length co36):= (blk_cell BK323.out 2).trans rfl
              have hfz165_0:= blk_frozen BK323.out 0
              have hfz165_1:= blk_frozen BK323.out 1
              have hfz165_2:= blk_frozen BK323.out 2
              rotate_left
              replace c156:= Bool.eq_false_iff.mpr c156
              subst c156
              have H1 : (laws_FnExactApplySwaps.j2 kj84 t370 true t371 t372 t373) = some r:= by rw [if_neg (show ¬ (false = true) by decide)] at H;exact H
              clear H
              have H:= H1
              clear H1
              have H':= mk H
              clear H
              have hnb167:= NB397_298.out
              have hnc167:= NB298_397.out
              have hnb168:= NB397_323.out
              have hnc168:= NB323_397.out
              have hnb169:= NB397_333.out
              have hnc169:= NB333_397.out
              have hnb170:= NB397_347.out
              have hnc170:= NB347_397.out
              have hcz171_0 : w146.cell? ⟨gb397,0,none⟩ = some (.slice none 0 0):= (blk_cell BK397.out 0).trans rfl
              have hcz171_1 : w146.cell? ⟨gb397,1,none⟩ = some (.slice none 0 0):= (blk_cell BK397.out 1).trans rfl
              have hcz171_2 : w146.cell? ⟨gb397,2,none⟩ = some (.slice none 0 0):= (blk_cell BK397.out 2).trans rfl
              have hfz171_0:= blk_frozen BK397.out 0
              have hfz171_1:= blk_frozen BK397.out 1
              have hfz171_2:= blk_frozen BK397.out 2
              have hnb172:= NB323_298.out
              have hnc172:= NB298_323.out
              have hnb173:= NB323_333.out
              have hnc173:= NB333_323.out
              have hnb174:= NB323_347.out
              have hnc174:= NB347_323.out
              have hcz175_0 : w146.cell? ⟨gb323,0,none⟩ = some (.slice Ao32 t313.length co32):= (blk_cell BK323.out 0).trans rfl
              have hcz175_1 : w146.cell? ⟨gb323,1,none⟩ = some (.slice Ao35 t316.length co35):= (blk_cell BK323.out 1).trans rfl
              have hcz175_2 : w146.cell? ⟨gb323,2,none⟩ = some (.slice Ao36 t319.length co36):= (blk_cell BK323.out 2).trans rfl
              have hfz175_0:= blk_frozen BK323.out 0
              have hfz175_1:= blk_frozen BK323.out 1
              have hfz175_2:= blk_frozen BK323.out 2
              rotate_left
              all_goals
               go_wp2_with (first|((with_reducible refine gate_callee (f:= 12) rfl ?_);refine goesL_ (some 104) rfl rfl Try.func12 (by kernel_rfl) rfl #[.agg #[.slice Ao147 t387.length co147,.slice Ao153 t390.length co153,.slice Ao154 t393.length co154],.agg #[.slice Ao32 t313.length co32,.slice Ao35 t316.length co35,.slice Ao36 t319.length co36]] rfl (by (try simp only [List.map_toArray,List.map_cons,List.map_nil]);first|done|rfl|(simp only [List.length_drop,List.length_take];rfl)) ?_;(with_reducible refine (laws_eqCracker.calls kj84 _ _ t387 _ _ t390 _ _ t393 _ _ t313 _ _ t316 _ _ t319 _ _ ?side1 ?side2 ?side3 ?side4 ?side5 ?side6 ?side7 ?side8 ?side9 ?side10 ?side11 ?side12 A155.out).mono ?_);(case side1 => refine (Kd.R_reads' (e:= 3) (base:= w.heap.size) (ok:= fun k_ => ((((((((some k_ ≠ (.slice Ao153 t390.length co153 : Value).ownBlock ∧ some k_ ≠ (.slice Ao32 t313.length co32 : Value).ownBlock) ∧ some k_ ≠ (.slice Ao35 t316.length co35 : Value).ownBlock) ∧ some k_ ≠ (.slice Ao40 t364.length co40 : Value).ownBlock) ∧ some k_ ≠ (.slice Ao44 t365.length co44 : Value).ownBlock) ∧ some k_ ≠ (.slice Ao51 t337.length co51 : Value).ownBlock) ∧ some k_ ≠ (.slice Ao56 t340.length co56 : Value).ownBlock) ∧ some k_ ≠ (.slice Ao141 t375.length co141 : Value).ownBlock) ∧ some k_ ≠ (.slice Ao142 t378.length co142 : Value).ownBlock)) (n:= t387.length) (c:= co147) ?_).2.2;exact (by exact up ((Kd.R_mono (Kd.R_far (p:= ⟨gb397,2,none⟩) (Kd.R_far (p:= ⟨gb397,1,none⟩) (Kd.R_far (p:= ⟨gb397,0,none⟩) (Kd.R_types HO389.out BK397.out (by decide)) (fun _ hk => hk.2) (.slice Ao147 t387.length co147)) (fun _ hk => hk.2) (.slice Ao153 t390.length co153)) (fun _ hk => hk.2) (.slice Ao154 t393.length co154)) (fun _ h_ => h_.1)))));(case side2 => exact (Kd.R_reads' HO389.out).2.1);(case side3 => refine (Kd.R_reads' (e:= 3) (base:= w.heap.size) (ok:= fun k_ => ((((((((some k_ ≠ (.slice Ao147 t387.length co147 : Value).ownBlock ∧ some k_ ≠ (.slice Ao32 t313.length co32 : Value).ownBlock) ∧ some k_ ≠ (.slice Ao35 t316.length co35 : Value).ownBlock) ∧ some k_ ≠ (.slice Ao40 t364.length co40 : Value).ownBlock) ∧ some k_ ≠ (.slice Ao44 t365.length co44 : Value).ownBlock) ∧ some k_ ≠ (.slice Ao51 t337.length co51 : Value).ownBlock) ∧ some k_ ≠ (.slice Ao56 t340.length co56 : Value).ownBlock) ∧ some k_ ≠ (.slice Ao141 t375.length co141 : Value).ownBlock) ∧ some k_ ≠ (.slice Ao142 t378.length co142 : Value).ownBlock)) (n:= t390.length) (c:= co153) ?_).2.2;exact (by exact up ((Kd.R_mono (Kd.R_far (p:= ⟨gb397,2,none⟩) (Kd.R_far (p:= ⟨gb397,1,none⟩) (Kd.R_far (p:= ⟨gb397,0,none⟩) (Kd.R_types HO392.out BK397.out (by decide)) (fun _ hk => hk.2) (.slice Ao147 t387.length co147)) (fun _ hk => hk.2) (.slice Ao153 t390.length co153)) (fun _ hk => hk.2) (.slice Ao154 t393.length co154)) (fun _ h_ => h_.1)))));(case side4 => exact (Kd.R_reads' HO392.out).2.1);(case side5 => refine (Kd.R_reads' (e:= 74) (base:= w.heap.size) (ok:= fun k_ => ((((True ∧ some k_ ≠ (.slice Ao36 t319.length co36 : Value).ownBlock) ∧ some k_ ≠ (.slice Ao45 t366.length co45 : Value).ownBlock) ∧ some k_ ≠ (.slice Ao57 t343.length co57 : Value).ownBlock) ∧ some k_ ≠ (.slice Ao143 t381.length co143 : Value).ownBlock)) (n:= t393.length) (c:= co154) ?_).2.2;exact (by exact up ((Kd.R_mono (Kd.R_far (p:= ⟨gb397,2,none⟩) (Kd.R_far (p:= ⟨gb397,1,none⟩) (Kd.R_far (p:= ⟨gb397,0,none⟩) (Kd.R_types HO395.out BK397.out (by decide)) (fun _ hk => hk.2) (.slice Ao147 t387.length co147)) (fun _ hk => hk.2) (.slice Ao153 t390.length co153)) (fun _ hk => hk.2) (.slice Ao154 t393.length co154)) (fun _ h_ => h_.1)))));(case side6 => exact (Kd.R_reads' HO395.out).2.1);(case side7 => refine (Kd.R_reads' (e:= 3) (base:= w.heap.size) (ok:= fun k_ => (((((some k_ ≠ (.slice Ao35 t316.length co35 : Value).ownBlock ∧ (some k_ ≠ (.slice Ao40 t364.length co40 : Value).ownBlock ∧ (some k_ ≠ (.slice Ao44 t365.length co44 : Value).ownBlock ∧ (some k_ ≠ (.slice Ao51 t337.length co51 : Value).ownBlock ∧ some k_ ≠ (.slice Ao56 t340.length co56 : Value).ownBlock)))) ∧ some k_ ≠ (.slice Ao141 t375.length co141 : Value).ownBlock) ∧ some k_ ≠ (.slice Ao142 t378.length co142 : Value).ownBlock) ∧ some k_ ≠ (.slice Ao147 t387.length co147 : Value).ownBlock) ∧ some k_ ≠ (.slice Ao153 t390.length co153 : Value).ownBlock)) (n:= t313.length) (c:= co32) ?_).2.2;exact (by exact up ((Kd.R_mono (Kd.R_far (p:= ⟨gb397,2,none⟩) (Kd.R_far (p:= ⟨gb397,1,none⟩) (Kd.R_far (p:= ⟨gb397,0,none⟩) (Kd.R_types HO_324000.out BK397.out (by decide)) (fun _ hk => hk.2) (.slice Ao147 t387.length co147)) (fun _ hk => hk.2) (.slice Ao153 t390.length co153)) (fun _ hk => hk.2) (.slice Ao154 t393.length co154)) (fun _ h_ => h_.1)))));(case side8 => exact (Kd.R_reads' HO_324000.out).2.1);(case side9 => refine (Kd.R_reads' (e:= 3) (base:= w.heap.size) (ok:= fun k_ => (((((some k_ ≠ (.slice Ao32 t313.length co32 : Value).ownBlock ∧ (some k_ ≠ (.slice Ao40 t364.length co40 : Value).ownBlock ∧ (some k_ ≠ (.slice Ao44 t365.length co44 : Value).ownBlock ∧ (some k_ ≠ (.slice Ao51 t337.length co51 : Value).ownBlock ∧ some k_ ≠ (.slice Ao56 t340.length co56 : Value).ownBlock)))) ∧ some k_ ≠ (.slice Ao141 t375.length co141 : Value).ownBlock) ∧ some k_ ≠ (.slice Ao142 t378.length co142 : Value).ownBlock) ∧ some k_ ≠ (.slice Ao147 t387.length co147 : Value).ownBlock) ∧ some k_ ≠ (.slice Ao153 t390.length co153 : Value).ownBlock)) (n:= t316.length) (c:= co35) ?_).2.2;exact (by exact up ((Kd.R_mono (Kd.R_far (p:= ⟨gb397,2,none⟩) (Kd.R_far (p:= ⟨gb397,1,none⟩) (Kd.R_far (p:= ⟨gb397,0,none⟩) (Kd.R_types HO_324001.out BK397.out (by decide)) (fun _ hk => hk.2) (.slice Ao147 t387.length co147)) (fun _ hk => hk.2) (.slice Ao153 t390.length co153)) (fun _ hk => hk.2) (.slice Ao154 t393.length co154)) (fun _ h_ => h_.1)))));(case side10 => exact (Kd.R_reads' HO_324001.out).2.1);(case side11 => refine (Kd.R_reads' (e:= 74) (base:= w.heap.size) (ok:= fun k_ => (((some k_ ≠ (.slice Ao45 t366.length co45 : Value).ownBlock ∧ some k_ ≠ (.slice Ao57 t343.length co57 : Value).ownBlock) ∧ some k_ ≠ (.slice Ao143 t381.length co143 : Value).ownBlock) ∧ some k_ ≠ (.slice Ao154 t393.length co154 : Value).ownBlock)) (n:= t319.length) (c:= co36) ?_).2.2;exact (by exact up ((Kd.R_mono (Kd.R_far (p:= ⟨gb397,2,none⟩) (Kd.R_far (p:= ⟨gb397,1,none⟩) (Kd.R_far (p:= ⟨gb397,0,none⟩) (Kd.R_types HO_324002.out BK397.out (by decide)) (fun _ hk => hk.2) (.slice Ao147 t387.length co147)) (fun _ hk => hk.2) (.slice Ao153 t390.length co153)) (fun _ hk => hk.2) (.slice Ao154 t393.length co154)) (fun _ h_ => h_.1)))));(case side12 => exact (Kd.R_reads' HO_324002.out).2.1);rintro e w166 ⟨rfl,hb⟩;refine ⟨_,rfl,?_⟩;have n0_:= mk (Kd.R_below (by exact up ((Kd.R_mono (Kd.R_far (p:= ⟨gb397,2,none⟩) (Kd.R_far (p:= ⟨gb397,1,none⟩) (Kd.R_far (p:= ⟨gb397,0,none⟩) (Kd.R_types HO_324000.out BK397.out (by decide)) (fun _ hk => hk.2) (.slice Ao147 t387.length co147)) (fun _ hk => hk.2) (.slice Ao153 t390.length co153)) (fun _ hk => hk.2) (.slice Ao154 t393.length co154)) (fun _ h_ => h_.1)))) hb);have n1_:= mk (Kd.R_below (by exact up ((Kd.R_mono (Kd.R_far (p:= ⟨gb397,2,none⟩) (Kd.R_far (p:= ⟨gb397,1,none⟩) (Kd.R_far (p:= ⟨gb397,0,none⟩) (Kd.R_types HO_324001.out BK397.out (by decide)) (fun _ hk => hk.2) (.slice Ao147 t387.length co147)) (fun _ hk => hk.2) (.slice Ao153 t390.length co153)) (fun _ hk => hk.2) (.slice Ao154 t393.length co154)) (fun _ h_ => h_.1)))) hb);have n2_:= mk (Kd.R_below (by exact up ((Kd.R_mono (Kd.R_far (p:= ⟨gb397,2,none⟩) (Kd.R_far (p:= ⟨gb397,1,none⟩) (Kd.R_far (p:= ⟨gb397,0,none⟩) (Kd.R_types HO_324002.out BK397.out (by decide)) (fun _ hk => hk.2) (.slice Ao147 t387.length co147)) (fun _ hk => hk.2) (.slice Ao153 t390.length co153)) (fun _ hk => hk.2) (.slice Ao154 t393.length co154)) (fun _ h_ => h_.1)))) hb);have n3_:= mk (Kd.R_below (by exact up ((Kd.R_mono (Kd.R_far (p:= ⟨gb397,2,none⟩) (Kd.R_far (p:= ⟨gb397,1,none⟩) (Kd.R_far (p:= ⟨gb397,0,none⟩) (Kd.R_types HO_334000.out BK397.out (by decide)) (fun _ hk => hk.2) (.slice Ao147 t387.length co147)) (fun _ hk => hk.2) (.slice Ao153 t390.length co153)) (fun _ hk => hk.2) (.slice Ao154 t393.length co154)) (fun _ h_ => h_.1)))) hb);have n4_:= mk (Kd.R_below (by exact up ((Kd.R_mono (Kd.R_far (p:= ⟨gb397,2,none⟩) (Kd.R_far (p:= ⟨gb397,1,none⟩) (Kd.R_far (p:= ⟨gb397,0,none⟩) (Kd.R_types HO_334001.out BK397.out (by decide)) (fun _ hk => hk.2) (.slice Ao147 t387.length co147)) (fun _ hk => hk.2) (.slice Ao153 t390.length co153)) (fun _ hk => hk.2) (.slice Ao154 t393.length co154)) (fun _ h_ => h_.1)))) hb);have n5_:= mk (Kd.R_below (by exact up ((Kd.R_mono (Kd.R_far (p:= ⟨gb397,2,none⟩) (Kd.R_far (p:= ⟨gb397,1,none⟩) (Kd.R_far (p:= ⟨gb397,0,none⟩) (Kd.R_types HO_334002.out BK397.out (by decide)) (fun _ hk => hk.2) (.slice Ao147 t387.length co147)) (fun _ hk => hk.2) (.slice Ao153 t390.length co153)) (fun _ hk => hk.2) (.slice Ao154 t393.length co154)) (fun _ h_ => h_.1)))) hb);have n6_:= mk (Kd.R_below (by exact up ((Kd.R_mono (Kd.R_far (p:= ⟨gb397,2,none⟩) (Kd.R_far (p:= ⟨gb397,1,none⟩) (Kd.R_far (p:= ⟨gb397,0,none⟩) (Kd.R_types HO_348000.out BK397.out (by decide)) (fun _ hk => hk.2) (.slice Ao147 t387.length co147)) (fun _ hk => hk.2) (.slice Ao153 t390.length co153)) (fun _ hk => hk.2) (.slice Ao154 t393.length co154)) (fun _ h_ => h_.1)))) hb);have n7_:= mk (Kd.R_below (by exact up ((Kd.R_mono (Kd.R_far (p:= ⟨gb397,2,none⟩) (Kd.R_far (p:= ⟨gb397,1,none⟩) (Kd.R_far (p:= ⟨gb397,0,none⟩) (Kd.R_types HO_348001.out BK397.out (by decide)) (fun _ hk => hk.2) (.slice Ao147 t387.length co147)) (fun _ hk => hk.2) (.slice Ao153 t390.length co153)) (fun _ hk => hk.2) (.slice Ao154 t393.length co154)) (fun _ h_ => h_.1)))) hb);have n8_:= mk (Kd.R_below (by exact up ((Kd.R_mono (Kd.R_far (p:= ⟨gb397,2,none⟩) (Kd.R_far (p:= ⟨gb397,1,none⟩) (Kd.R_far (p:= ⟨gb397,0,none⟩) (Kd.R_types HO_348002.out BK397.out (by decide)) (fun _ hk => hk.2) (.slice Ao147 t387.length co147)) (fun _ hk => hk.2) (.slice Ao153 t390.length co153)) (fun _ hk => hk.2) (.slice Ao154 t393.length co154)) (fun _ h_ => h_.1)))) hb);have n9_:= mk (Kd.R_below (by exact up ((Kd.R_mono (Kd.R_far (p:= ⟨gb397,2,none⟩) (Kd.R_far (p:= ⟨gb397,1,none⟩) (Kd.R_far (p:= ⟨gb397,0,none⟩) (Kd.R_types HO377.out BK397.out (by decide)) (fun _ hk => hk.2) (.slice Ao147 t387.length co147)) (fun _ hk => hk.2) (.slice Ao153 t390.length co153)) (fun _ hk => hk.2) (.slice Ao154 t393.length co154)) (fun _ h_ => h_.1)))) hb);have n10_:= mk (Kd.R_below (by exact up ((Kd.R_mono (Kd.R_far (p:= ⟨gb397,2,none⟩) (Kd.R_far (p:= ⟨gb397,1,none⟩) (Kd.R_far (p:= ⟨gb397,0,none⟩) (Kd.R_types HO380.out BK397.out (by decide)) (fun _ hk => hk.2) (.slice Ao147 t387.length co147)) (fun _ hk => hk.2) (.slice Ao153 t390.length co153)) (fun _ hk => hk.2) (.slice Ao154 t393.length co154)) (fun _ h_ => h_.1)))) hb);have n11_:= mk (Kd.R_below (by exact up ((Kd.R_mono (Kd.R_far (p:= ⟨gb397,2,none⟩) (Kd.R_far (p:= ⟨gb397,1,none⟩) (Kd.R_far (p:= ⟨gb397,0,none⟩) (Kd.R_types HO383.out BK397.out (by decide)) (fun _ hk => hk.2) (.slice Ao147 t387.length co147)) (fun _ hk => hk.2) (.slice Ao153 t390.length co153)) (fun _ hk => hk.2) (.slice Ao154 t393.length co154)) (fun _ h_ => h_.1)))) hb);have n12_:= mk (Kd.R_below (by exact up ((Kd.R_mono (Kd.R_far (p:= ⟨gb397,2,none⟩) (Kd.R_far (p:= ⟨gb397,1,none⟩) (Kd.R_far (p:= ⟨gb397,0,none⟩) (Kd.R_types HO386.out BK397.out (by decide)) (fun _ hk => hk.2) (.slice Ao147 t387.length co147)) (fun _ hk => hk.2) (.slice Ao153 t390.length co153)) (fun _ hk => hk.2) (.slice Ao154 t393.length co154)) (fun _ h_ => h_.1)))) hb);have n13_:= mk (Kd.R_below (by exact up ((Kd.R_mono (Kd.R_far (p:= ⟨gb397,2,none⟩) (Kd.R_far (p:= ⟨gb397,1,none⟩) (Kd.R_far (p:= ⟨gb397,0,none⟩) (Kd.R_types HO389.out BK397.out (by decide)) (fun _ hk => hk.2) (.slice Ao147 t387.length co147)) (fun _ hk => hk.2) (.slice Ao153 t390.length co153)) (fun _ hk => hk.2) (.slice Ao154 t393.length co154)) (fun _ h_ => h_.1)))) hb);have n14_:= mk (Kd.R_below (by exact up ((Kd.R_mono (Kd.R_far (p:= ⟨gb397,2,none⟩) (Kd.R_far (p:= ⟨gb397,1,none⟩) (Kd.R_far (p:= ⟨gb397,0,none⟩) (Kd.R_types HO392.out BK397.out (by decide)) (fun _ hk => hk.2) (.slice Ao147 t387.length co147)) (fun _ hk => hk.2) (.slice Ao153 t390.length co153)) (fun _ hk => hk.2) (.slice Ao154 t393.length co154)) (fun _ h_ => h_.1)))) hb);have n15_:= mk (Kd.R_below (by exact up ((Kd.R_mono (Kd.R_far (p:= ⟨gb397,2,none⟩) (Kd.R_far (p:= ⟨gb397,1,none⟩) (Kd.R_far (p:= ⟨gb397,0,none⟩) (Kd.R_types HO395.out BK397.out (by decide)) (fun _ hk => hk.2) (.slice Ao147 t387.length co147)) (fun _ hk => hk.2) (.slice Ao153 t390.length co153)) (fun _ hk => hk.2) (.slice Ao154 t393.length co154)) (fun _ h_ => h_.1)))) hb);have n16_:= mk (blk_below (g:= gb298) (o:= .cells #[.slice A0_0 l0_0.length c0_0,.slice A0_1 l0_1.length c0_1,.slice A0_2 l0_2.length c0_2] 25 (0,0)) (by (with_reducible repeat (first|refine blk_drewN ?_ _|refine blk_drew ?_|refine blk_alloc ?_ _));refine blk_far ?_ NB298_397.out _;(with_reducible repeat (first|refine blk_drewN ?_ _|refine blk_drew ?_|refine blk_alloc ?_ _));refine blk_far ?_ NB298_397.out _;(with_reducible repeat (first|refine blk_drewN ?_ _|refine blk_drew ?_|refine blk_alloc ?_ _));refine blk_far ?_ NB298_397.out _;(with_reducible repeat (first|refine blk_drewN ?_ _|refine blk_drew ?_|refine blk_alloc ?_ _));exact BK298.out) hb);have n17_:= mk (blk_below (g:= gb323) (o:= .cells #[.slice Ao32 t313.length co32,.slice Ao35 t316.length co35,.slice Ao36 t319.length co36] 31 (0,0)) (by (with_reducible repeat (first|refine blk_drewN ?_ _|refine blk_drew ?_|refine blk_alloc ?_ _));refine blk_far ?_ NB323_397.out _;(with_reducible repeat (first|refine blk_drewN ?_ _|refine blk_drew ?_|refine blk_alloc ?_ _));refine blk_far ?_ NB323_397.out _;(with_reducible repeat (first|refine blk_drewN ?_ _|refine blk_drew ?_|refine blk_alloc ?_ _));refine blk_far ?_ NB323_397.out _;(with_reducible repeat (first|refine blk_drewN ?_ _|refine blk_drew ?_|refine blk_alloc ?_ _));exact BK323.out) hb);have n18_:= mk (blk_below (g:= gb333) (o:= .cells #[.slice Ao40 t364.length co40,.slice Ao44 t365.length co44,.slice Ao45 t366.length co45] 31 (0,0)) (by (with_reducible repeat (first|refine blk_drewN ?_ _|refine blk_drew ?_|refine blk_alloc ?_ _));refine blk_far ?_ NB333_397.out _;(with_reducible repeat (first|refine blk_drewN ?_ _|refine blk_drew ?_|refine blk_alloc ?_ _));refine blk_far ?_ NB333_397.out _;(with_reducible repeat (first|refine blk_drewN ?_ _|refine blk_drew ?_|refine blk_alloc ?_ _));refine blk_far ?_ NB333_397.out _;(with_reducible repeat (first|refine blk_drewN ?_ _|refine blk_drew ?_|refine blk_alloc ?_ _));exact BK333.out) hb);have n19_:= mk (blk_below (g:= gb347) (o:= .cells #[.slice Ao51 t337.length co51,.slice Ao56 t340.length co56,.slice Ao57 t343.length co57] 31 (0,0)) (by (with_reducible repeat (first|refine blk_drewN ?_ _|refine blk_drew ?_|refine blk_alloc ?_ _));refine blk_far ?_ NB347_397.out _;(with_reducible repeat (first|refine blk_drewN ?_ _|refine blk_drew ?_|refine blk_alloc ?_ _));refine blk_far ?_ NB347_397.out _;(with_reducible repeat (first|refine blk_drewN ?_ _|refine blk_drew ?_|refine blk_alloc ?_ _));refine blk_far ?_ NB347_397.out _;(with_reducible repeat (first|refine blk_drewN ?_ _|refine blk_drew ?_|refine blk_alloc ?_ _));exact BK347.out) hb);have n20_:= mk (blk_below (g:= gb397) (o:= .cells #[.slice Ao147 t387.length co147,.slice Ao153 t390.length co153,.slice Ao154 t393.length co154] 31 (0,0)) (by (with_reducible repeat (first|refine blk_drewN ?_ _|refine blk_drew ?_|refine blk_alloc ?_ _));refine blk_put (cs:= #[.slice Ao147 t387.length co147,.slice Ao153 t390.length co153,.slice none 0 0]) ?_ 2 _ rfl;(with_reducible repeat (first|refine blk_drewN ?_ _|refine blk_drew ?_|refine blk_alloc ?_ _));refine blk_put (cs:= #[.slice Ao147 t387.length co147,.slice none 0 0,.slice none 0 0]) ?_ 1 _ rfl;(with_reducible repeat (first|refine blk_drewN ?_ _|refine blk_drew ?_|refine blk_alloc ?_ _));refine blk_put (cs:= #[.slice none 0 0,.slice none 0 0,.slice none 0 0]) ?_ 0 _ rfl;(with_reducible repeat (first|refine blk_drewN ?_ _|refine blk_drew ?_|refine blk_alloc ?_ _));exact BK397.out) hb);have n21_:= mk (below_step (by repeat (first|(with_reducible first|exact HB.out|apply below_alloc|apply pw_below_drewN|apply below_drew1|refine below_set ?_ GE298.out|refine below_set ?_ GE323.out|refine below_set ?_ GE333.out|refine below_set ?_ GE347.out|refine below_set ?_ GE397.out)|exact HB.out)) hb);clear HO_324000;clear HO_324001;clear HO_324002;clear HO_334000;clear HO_334001;clear HO_334002;clear HO_348000;clear HO_348001;clear HO_348002;clear HO377;clear HO380;clear HO383;clear HO386;clear HO389;clear HO392;clear HO395;clear BK298;clear BK323;clear BK333;clear BK347;clear BK397;clear HB;have HO_324000:= n0_;have HO_324001:= n1_;have HO_324002:= n2_;have HO_334000:= n3_;have HO_334001:= n4_;have HO_334002:= n5_;have HO_348000:= n6_;have HO_348001:= n7_;have HO_348002:= n8_;have HO377:= n9_;have HO380:= n10_;have HO383:= n11_;have HO386:= n12_;have HO389:= n13_;have HO392:= n14_;have HO395:= n15_;have BK298:= n16_;have BK323:= n17_;have BK333:= n18_;have BK347:= n19_;have BK397:= n20_;have HB:= n21_;clear n0_ n1_ n2_ n3_ n4_ n5_ n6_ n7_ n8_ n9_ n10_ n11_ n12_ n13_ n14_ n15_ n16_ n17_ n18_ n19_ n20_ n21_;(try clear hb);(try clear hb2);(try clear hk);(try clear hi)))
              ·go_meet
               case rel => exact ⟨_,((t396 != t322)),(by first|rfl|(simp;done)|(simp [*];done)),H',⟨by have:= HJ18.out;have:= HJ84.out;first|omega|exact Nat.le_refl _⟩,⟨by (try simp only [hl334000_84]);(try simp only [hl334001_84]);(try simp only [hl334002_84]);(with_reducible repeat (first|apply Kd.R_alloc|apply Kd.R_drewN|apply Kd.R_drew));exact Kd.R_mono HO_324000.out (fun _ hk => by first|exact ⟨hk.1.1.1.1.1,⟨hk.1.1.1.1.2.1,⟨hk.1.1.1.1.2.2.1,⟨hk.1.1.1.1.2.2.2.1,⟨hk.1.1.1.1.2.2.2.2,⟨hk.1.2,hk.2⟩⟩⟩⟩⟩⟩|(revert hk;simp only [and_imp];intros;(repeat' (refine And.intro ?_ ?_)) <;> assumption))⟩,⟨by (try simp only [hl334000_84]);(try simp only [hl334001_84]);(try simp only [hl334002_84]);(with_reducible repeat (first|apply Kd.R_alloc|apply Kd.R_drewN|apply Kd.R_drew));exact Kd.R_mono HO_324001.out (fun _ hk => by first|exact ⟨hk.1.1.1.1.1,⟨hk.1.1.1.1.2.1,⟨hk.1.1.1.1.2.2.1,⟨hk.1.1.1.1.2.2.2.1,⟨hk.1.1.1.1.2.2.2.2,⟨hk.1.2,hk.2⟩⟩⟩⟩⟩⟩|(revert hk;simp only [and_imp];intros;(repeat' (refine And.intro ?_ ?_)) <;> assumption))⟩,⟨by (try simp only [hl334000_84]);(try simp only [hl334001_84]);(try simp only [hl334002_84]);(with_reducible repeat (first|apply Kd.R_alloc|apply Kd.R_drewN|apply Kd.R_drew));exact Kd.R_mono HO_324002.out (fun _ hk => by first|exact ⟨hk.1.1.1,⟨hk.1.1.2,hk.2⟩⟩|(revert hk;simp only [and_imp];intros;(repeat' (refine And.intro ?_ ?_)) <;> assumption))⟩,⟨by (try simp only [hl334000_84]);(try simp only [hl334001_84]);(try simp only [hl334002_84]);(with_reducible repeat (first|apply Kd.R_alloc|apply Kd.R_drewN|apply Kd.R_drew));exact Kd.R_mono HO_334000.out (fun _ hk => by first|exact ⟨hk.1.1.1.1.1,⟨hk.1.1.1.1.2.1,⟨hk.1.1.1.1.2.2.1,⟨hk.1.1.1.1.2.2.2.1,⟨hk.1.1.1.1.2.2.2.2,⟨hk.1.2,hk.2⟩⟩⟩⟩⟩⟩|(revert hk;simp only [and_imp];intros;(repeat' (refine And.intro ?_ ?_)) <;> assumption))⟩,⟨by (try simp only [hl334000_84]);(try simp only [hl334001_84]);(try simp only [hl334002_84]);(with_reducible repeat (first|apply Kd.R_alloc|apply Kd.R_drewN|apply Kd.R_drew));exact Kd.R_mono HO_334001.out (fun _ hk => by first|exact ⟨hk.1.1.1.1.1,⟨hk.1.1.1.1.2.1,⟨hk.1.1.1.1.2.2.1,⟨hk.1.1.1.1.2.2.2.1,⟨hk.1.1.1.1.2.2.2.2,⟨hk.1.2,hk.2⟩⟩⟩⟩⟩⟩|(revert hk;simp only [and_imp];intros;(repeat' (refine And.intro ?_ ?_)) <;> assumption))⟩,⟨by (try simp only [hl334000_84]);(try simp only [hl334001_84]);(try simp only [hl334002_84]);(with_reducible repeat (first|apply Kd.R_alloc|apply Kd.R_drewN|apply Kd.R_drew));exact Kd.R_mono HO_334002.out (fun _ hk => by first|exact ⟨hk.1.1.1,⟨hk.1.1.2,hk.2⟩⟩|(revert hk;simp only [and_imp];intros;(repeat' (refine And.intro ?_ ?_)) <;> assumption))⟩,⟨by (try simp only [hl334000_84]);(try simp only [hl334001_84]);(try simp only [hl334002_84]);(with_reducible repeat (first|apply Kd.R_alloc|apply Kd.R_drewN|apply Kd.R_drew));exact Kd.R_mono HO_348000.out (fun _ hk => by first|exact ⟨hk.1.1.1.1.1,⟨hk.1.1.1.1.2.1,⟨hk.1.1.1.1.2.2.1,⟨hk.1.1.1.1.2.2.2.1,⟨hk.1.1.1.1.2.2.2.2,⟨hk.1.2,hk.2⟩⟩⟩⟩⟩⟩|(revert hk;simp only [and_imp];intros;(repeat' (refine And.intro ?_ ?_)) <;> assumption))⟩,⟨by (try simp only [hl334000_84]);(try simp only [hl334001_84]);(try simp only [hl334002_84]);(with_reducible repeat (first|apply Kd.R_alloc|apply Kd.R_drewN|apply Kd.R_drew));exact Kd.R_mono HO_348001.out (fun _ hk => by first|exact ⟨hk.1.1.1.1.1,⟨hk.1.1.1.1.2.1,⟨hk.1.1.1.1.2.2.1,⟨hk.1.1.1.1.2.2.2.1,⟨hk.1.1.1.1.2.2.2.2,⟨hk.1.2,hk.2⟩⟩⟩⟩⟩⟩|(revert hk;simp only [and_imp];intros;(repeat' (refine And.intro ?_ ?_)) <;> assumption))⟩,⟨by (try simp only [hl334000_84]);(try simp only [hl334001_84]);(try simp only [hl334002_84]);(with_reducible repeat (first|apply Kd.R_alloc|apply Kd.R_drewN|apply Kd.R_drew));exact Kd.R_mono HO_348002.out (fun _ hk => by first|exact ⟨hk.1.1.1,⟨hk.1.1.2,hk.2⟩⟩|(revert hk;simp only [and_imp];intros;(repeat' (refine And.intro ?_ ?_)) <;> assumption))⟩,⟨by (try simp only [hl334000_84]);(try simp only [hl334001_84]);(try simp only [hl334002_84]);(with_reducible repeat (first|apply Kd.R_alloc|apply Kd.R_drewN|apply Kd.R_drew));exact Kd.R_mono HO389.out (fun _ hk => by first|exact ⟨hk.1.1.1.1.1.1.1.2,⟨hk.1.1.1.1.1.1.2,⟨hk.1.1.1.1.1.2,⟨hk.1.1.1.1.2,⟨hk.1.1.1.2,⟨hk.1.1.2,hk.1.1.1.1.1.1.1.1⟩⟩⟩⟩⟩⟩|(revert hk;simp only [and_imp];intros;(repeat' (refine And.intro ?_ ?_)) <;> assumption))⟩,⟨by (try simp only [hl334000_84]);(try simp only [hl334001_84]);(try simp only [hl334002_84]);(with_reducible repeat (first|apply Kd.R_alloc|apply Kd.R_drewN|apply Kd.R_drew));exact Kd.R_mono HO392.out (fun _ hk => by first|exact ⟨hk.1.1.1.1.1.1.1.2,⟨hk.1.1.1.1.1.1.2,⟨hk.1.1.1.1.1.2,⟨hk.1.1.1.1.2,⟨hk.1.1.1.2,⟨hk.1.1.2,hk.1.1.1.1.1.1.1.1⟩⟩⟩⟩⟩⟩|(revert hk;simp only [and_imp];intros;(repeat' (refine And.intro ?_ ?_)) <;> assumption))⟩,⟨by (try simp only [hl334000_84]);(try simp only [hl334001_84]);(try simp only [hl334002_84]);(with_reducible repeat (first|apply Kd.R_alloc|apply Kd.R_drewN|apply Kd.R_drew));exact Kd.R_mono HO395.out (fun _ hk => by first|exact ⟨hk.1.1.1.2,⟨hk.1.1.2,hk.1.2⟩⟩|(revert hk;simp only [and_imp];intros;(repeat' (refine And.intro ?_ ?_)) <;> assumption))⟩,⟨by (try simp only [hl334000_84]);(try simp only [hl334001_84]);(try simp only [hl334002_84]);(with_reducible repeat (first|refine blk_drewN ?_ _|refine blk_drew ?_|refine blk_alloc ?_ _));exact BK298.out⟩,⟨by (try simp only [hl334000_84]);(try simp only [hl334001_84]);(try simp only [hl334002_84]);(with_reducible repeat (first|refine blk_drewN ?_ _|refine blk_drew ?_|refine blk_alloc ?_ _));exact BK323.out⟩,⟨by (try simp only [hl334000_84]);(try simp only [hl334001_84]);(try simp only [hl334002_84]);(with_reducible repeat (first|refine blk_drewN ?_ _|refine blk_drew ?_|refine blk_alloc ?_ _));exact BK333.out⟩,⟨by (try simp only [hl334000_84]);(try simp only [hl334001_84]);(try simp only [hl334002_84]);(with_reducible repeat (first|refine blk_drewN ?_ _|refine blk_drew ?_|refine blk_alloc ?_ _));exact BK347.out⟩,⟨by (try simp only [hl334000_84]);(try simp only [hl334001_84]);(try simp only [hl334002_84]);(with_reducible repeat (first|refine blk_drewN ?_ _|refine blk_drew ?_|refine blk_alloc ?_ _));exact BK397.out⟩,⟨by repeat (first|(with_reducible first|exact HB.out|apply below_alloc|apply pw_below_drewN|apply below_drew1|refine below_set ?_ GE298.out|refine below_set ?_ GE323.out|refine below_set ?_ GE333.out|refine below_set ?_ GE347.out|refine below_set ?_ GE397.out)|exact HB.out)⟩⟩
              ·go_meet
               case rel => exact ⟨_,(true),(by first|rfl|(simp;done)|(simp [*];done)),H',⟨by have:= HJ18.out;have:= HJ84.out;first|omega|exact Nat.le_refl _⟩,⟨by (try simp only [hl334000_84]);(try simp only [hl334001_84]);(try simp only [hl334002_84]);(with_reducible repeat (first|apply Kd.R_alloc|apply Kd.R_drewN|apply Kd.R_drew));exact Kd.R_mono HO_324000.out (fun _ hk => by first|exact ⟨hk.1.1.1.1.1,⟨hk.1.1.1.1.2.1,⟨hk.1.1.1.1.2.2.1,⟨hk.1.1.1.1.2.2.2.1,⟨hk.1.1.1.1.2.2.2.2,⟨hk.1.2,hk.2⟩⟩⟩⟩⟩⟩|(revert hk;simp only [and_imp];intros;(repeat' (refine And.intro ?_ ?_)) <;> assumption))⟩,⟨by (try simp only [hl334000_84]);(try simp only [hl334001_84]);(try simp only [hl334002_84]);(with_reducible repeat (first|apply Kd.R_alloc|apply Kd.R_drewN|apply Kd.R_drew));exact Kd.R_mono HO_324001.out (fun _ hk => by first|exact ⟨hk.1.1.1.1.1,⟨hk.1.1.1.1.2.1,⟨hk.1.1.1.1.2.2.1,⟨hk.1.1.1.1.2.2.2.1,⟨hk.1.1.1.1.2.2.2.2,⟨hk.1.2,hk.2⟩⟩⟩⟩⟩⟩|(revert hk;simp only [and_imp];intros;(repeat' (refine And.intro ?_ ?_)) <;> assumption))⟩,⟨by (try simp only [hl334000_84]);(try simp only [hl334001_84]);(try simp only [hl334002_84]);(with_reducible repeat (first|apply Kd.R_alloc|apply Kd.R_drewN|apply Kd.R_drew));exact Kd.R_mono HO_324002.out (fun _ hk => by first|exact ⟨hk.1.1.1,⟨hk.1.1.2,hk.2⟩⟩|(revert hk;simp only [and_imp];intros;(repeat' (refine And.intro ?_ ?_)) <;> assumption))⟩,⟨by (try simp only [hl334000_84]);(try simp only [hl334001_84]);(try simp only [hl334002_84]);(with_reducible repeat (first|apply Kd.R_alloc|apply Kd.R_drewN|apply Kd.R_drew));exact Kd.R_mono HO_334000.out (fun _ hk => by first|exact ⟨hk.1.1.1.1.1,⟨hk.1.1.1.1.2.1,⟨hk.1.1.1.1.2.2.1,⟨hk.1.1.1.1.2.2.2.1,⟨hk.1.1.1.1.2.2.2.2,⟨hk.1.2,hk.2⟩⟩⟩⟩⟩⟩|(revert hk;simp only [and_imp];intros;(repeat' (refine And.intro ?_ ?_)) <;> assumption))⟩,⟨by (try simp only [hl334000_84]);(try simp only [hl334001_84]);(try simp only [hl334002_84]);(with_reducible repeat (first|apply Kd.R_alloc|apply Kd.R_drewN|apply Kd.R_drew));exact Kd.R_mono HO_334001.out (fun _ hk => by first|exact ⟨hk.1.1.1.1.1,⟨hk.1.1.1.1.2.1,⟨hk.1.1.1.1.2.2.1,⟨hk.1.1.1.1.2.2.2.1,⟨hk.1.1.1.1.2.2.2.2,⟨hk.1.2,hk.2⟩⟩⟩⟩⟩⟩|(revert hk;simp only [and_imp];intros;(repeat' (refine And.intro ?_ ?_)) <;> assumption))⟩,⟨by (try simp only [hl334000_84]);(try simp only [hl334001_84]);(try simp only [hl334002_84]);(with_reducible repeat (first|apply Kd.R_alloc|apply Kd.R_drewN|apply Kd.R_drew));exact Kd.R_mono HO_334002.out (fun _ hk => by first|exact ⟨hk.1.1.1,⟨hk.1.1.2,hk.2⟩⟩|(revert hk;simp only [and_imp];intros;(repeat' (refine And.intro ?_ ?_)) <;> assumption))⟩,⟨by (try simp only [hl334000_84]);(try simp only [hl334001_84]);(try simp only [hl334002_84]);(with_reducible repeat (first|apply Kd.R_alloc|apply Kd.R_drewN|apply Kd.R_drew));exact Kd.R_mono HO_348000.out (fun _ hk => by first|exact ⟨hk.1.1.1.1.1,⟨hk.1.1.1.1.2.1,⟨hk.1.1.1.1.2.2.1,⟨hk.1.1.1.1.2.2.2.1,⟨hk.1.1.1.1.2.2.2.2,⟨hk.1.2,hk.2⟩⟩⟩⟩⟩⟩|(revert hk;simp only [and_imp];intros;(repeat' (refine And.intro ?_ ?_)) <;> assumption))⟩,⟨by (try simp only [hl334000_84]);(try simp only [hl334001_84]);(try simp only [hl334002_84]);(with_reducible repeat (first|apply Kd.R_alloc|apply Kd.R_drewN|apply Kd.R_drew));exact Kd.R_mono HO_348001.out (fun _ hk => by first|exact ⟨hk.1.1.1.1.1,⟨hk.1.1.1.1.2.1,⟨hk.1.1.1.1.2.2.1,⟨hk.1.1.1.1.2.2.2.1,⟨hk.1.1.1.1.2.2.2.2,⟨hk.1.2,hk.2⟩⟩⟩⟩⟩⟩|(revert hk;simp only [and_imp];intros;(repeat' (refine And.intro ?_ ?_)) <;> assumption))⟩,⟨by (try simp only [hl334000_84]);(try simp only [hl334001_84]);(try simp only [hl334002_84]);(with_reducible repeat (first|apply Kd.R_alloc|apply Kd.R_drewN|apply Kd.R_drew));exact Kd.R_mono HO_348002.out (fun _ hk => by first|exact ⟨hk.1.1.1,⟨hk.1.1.2,hk.2⟩⟩|(revert hk;simp only [and_imp];intros;(repeat' (refine And.intro ?_ ?_)) <;> assumption))⟩,⟨by (try simp only [hl334000_84]);(try simp only [hl334001_84]);(try simp only [hl334002_84]);(with_reducible repeat (first|apply Kd.R_alloc|apply Kd.R_drewN|apply Kd.R_drew));exact Kd.R_mono HO389.out (fun _ hk => by first|exact ⟨hk.1.1.1.1.1.1.1.2,⟨hk.1.1.1.1.1.1.2,⟨hk.1.1.1.1.1.2,⟨hk.1.1.1.1.2,⟨hk.1.1.1.2,⟨hk.1.1.2,hk.1.1.1.1.1.1.1.1⟩⟩⟩⟩⟩⟩|(revert hk;simp only [and_imp];intros;(repeat' (refine And.intro ?_ ?_)) <;> assumption))⟩,⟨by (try simp only [hl334000_84]);(try simp only [hl334001_84]);(try simp only [hl334002_84]);(with_reducible repeat (first|apply Kd.R_alloc|apply Kd.R_drewN|apply Kd.R_drew));exact Kd.R_mono HO392.out (fun _ hk => by first|exact ⟨hk.1.1.1.1.1.1.1.2,⟨hk.1.1.1.1.1.1.2,⟨hk.1.1.1.1.1.2,⟨hk.1.1.1.1.2,⟨hk.1.1.1.2,⟨hk.1.1.2,hk.1.1.1.1.1.1.1.1⟩⟩⟩⟩⟩⟩|(revert hk;simp only [and_imp];intros;(repeat' (refine And.intro ?_ ?_)) <;> assumption))⟩,⟨by (try simp only [hl334000_84]);(try simp only [hl334001_84]);(try simp only [hl334002_84]);(with_reducible repeat (first|apply Kd.R_alloc|apply Kd.R_drewN|apply Kd.R_drew));exact Kd.R_mono HO395.out (fun _ hk => by first|exact ⟨hk.1.1.1.2,⟨hk.1.1.2,hk.1.2⟩⟩|(revert hk;simp only [and_imp];intros;(repeat' (refine And.intro ?_ ?_)) <;> assumption))⟩,⟨by (try simp only [hl334000_84]);(try simp only [hl334001_84]);(try simp only [hl334002_84]);(with_reducible repeat (first|refine blk_drewN ?_ _|refine blk_drew ?_|refine blk_alloc ?_ _));exact BK298.out⟩,⟨by (try simp only [hl334000_84]);(try simp only [hl334001_84]);(try simp only [hl334002_84]);(with_reducible repeat (first|refine blk_drewN ?_ _|refine blk_drew ?_|refine blk_alloc ?_ _));exact BK323.out⟩,⟨by (try simp only [hl334000_84]);(try simp only [hl334001_84]);(try simp only [hl334002_84]);(with_reducible repeat (first|refine blk_drewN ?_ _|refine blk_drew ?_|refine blk_alloc ?_ _));exact BK333.out⟩,⟨by (try simp only [hl334000_84]);(try simp only [hl334001_84]);(try simp only [hl334002_84]);(with_reducible repeat (first|refine blk_drewN ?_ _|refine blk_drew ?_|refine blk_alloc ?_ _));exact BK347.out⟩,⟨by (try simp only [hl334000_84]);(try simp only [hl334001_84]);(try simp only [hl334002_84]);(with_reducible repeat (first|refine blk_drewN ?_ _|refine blk_drew ?_|refine blk_alloc ?_ _));exact BK397.out⟩,⟨by repeat (first|(with_reducible first|exact HB.out|apply below_alloc|apply pw_below_drewN|apply below_drew1|refine below_set ?_ GE298.out|refine below_set ?_ GE323.out|refine below_set ?_ GE333.out|refine below_set ?_ GE347.out|refine below_set ?_ GE397.out)|exact HB.out)⟩⟩
             case rest =>
              clear HC128
              try clear c1
              try clear p2
              try clear c3
              try clear c4
              try clear c4b0
              try clear c5
              try clear c6
              try clear c7
              try clear c8
              try clear c9
              try clear c9b0
              try clear c10
              try clear c11
              try clear c12
              try clear c13
              try clear c14
              try clear c15
              try clear c16
              try clear c17
              try clear c33
              try clear c41
              try clear c42
              try clear c52
              try clear c53
              try clear c54
              try clear c59
              try clear c60
              try clear c61
              try clear c62
              try clear c64
              try clear c65
              try clear c68
              try clear c69
              try clear c70
              try clear c72
              try clear c73
              try clear c76
              try clear c79
              try clear c82
              try clear c95
              try clear c96
              try clear c97
              try clear c101
              try clear c101b0
              try clear c103
              try clear c104
              try clear c105
              try clear c106
              try clear c108
              try clear c109
              try clear c112
              try clear c113
              try clear c114
              try clear c116
              try clear c117
              try clear c120
              try clear c123
              try clear c123b0
              try clear c124
              try clear c124b0
              try clear c124b1
              try clear c129
              try clear c130
              try clear c131
              try clear c136
              try clear c137
              try clear c148
              try clear c149
              try clear c150
              try clear c151
              try clear c156
              try clear c157
              try clear c158
              try clear c159
              try clear c160
              try clear c162
              try clear c163
              try clear c164
              try clear c167
              try clear c168
              try clear c169
              try clear c170
              try clear c172
              try clear c173
              try clear c174
              try clear hcz107_0
              try clear hcz107_1
              try clear hcz107_2
              try clear hcz110_0
              try clear hcz110_1
              try clear hcz110_2
              try clear hcz115_0
              try clear hcz115_1
              try clear hcz115_2
              try clear hcz118_0
              try clear hcz118_1
              try clear hcz118_2
              try clear hcz11_0
              try clear hcz11_1
              try clear hcz11_2
              try clear hcz132_0
              try clear hcz132_1
              try clear hcz132_2
              try clear hcz134_0
              try clear hcz134_1
              try clear hcz134_2
              try clear hcz138_0
              try clear hcz138_1
              try clear hcz138_2
              try clear hcz152_0
              try clear hcz152_1
              try clear hcz152_2
              try clear hcz161_0
              try clear hcz161_1
              try clear hcz161_2
              try clear hcz165_0
              try clear hcz165_1
              try clear hcz165_2
              try clear hcz171_0
              try clear hcz171_1
              try clear hcz171_2
              try clear hcz175_0
              try clear hcz175_1
              try clear hcz175_2
              try clear hcz21_0
              try clear hcz21_1
              try clear hcz21_2
              try clear hcz23_0
              try clear hcz23_1
              try clear hcz23_2
              try clear hcz34_0
              try clear hcz34_1
              try clear hcz34_2
              try clear hcz37_0
              try clear hcz37_1
              try clear hcz37_2
              try clear hcz43_0
              try clear hcz43_1
              try clear hcz43_2
              try clear hcz47_0
              try clear hcz47_1
              try clear hcz47_2
              try clear hcz55_0
              try clear hcz55_1
              try clear hcz55_2
              try clear hcz63_0
              try clear hcz63_1
              try clear hcz63_2
              try clear hcz66_0
              try clear hcz66_1
              try clear hcz66_2
              try clear hcz6_0
              try clear hcz6_1
              try clear hcz6_2
              try clear hcz71_0
              try clear hcz71_1
              try clear hcz71_2
              try clear hcz74_0
              try clear hcz74_1
              try clear hcz74_2
              try clear hcz98_0
              try clear hcz98_1
              try clear hcz98_2
              try clear hfz107_0
              try clear hfz107_1
              try clear hfz107_2
              try clear hfz110_0
              try clear hfz110_1
              try clear hfz110_2
              try clear hfz115_0
              try clear hfz115_1
              try clear hfz115_2
              try clear hfz118_0
              try clear hfz118_1
              try clear hfz118_2
              try clear hfz11_0
              try clear hfz11_1
              try clear hfz11_2
              try clear hfz132_0
              try clear hfz132_1
              try clear hfz132_2
              try clear hfz134_0
              try clear hfz134_1
              try clear hfz134_2
              try clear hfz138_0
              try clear hfz138_1
              try clear hfz138_2
              try clear hfz152_0
              try clear hfz152_1
              try clear hfz152_2
              try clear hfz161_0
              try clear hfz161_1
              try clear hfz161_2
              try clear hfz165_0
              try clear hfz165_1
              try clear hfz165_2
              try clear hfz171_0
              try clear hfz171_1
              try clear hfz171_2
              try clear hfz175_0
              try clear hfz175_1
              try clear hfz175_2
              try clear hfz21_0
              try clear hfz21_1
              try clear hfz21_2
              try clear hfz23_0
              try clear hfz23_1
              try clear hfz23_2
              try clear hfz34_0
              try clear hfz34_1
              try clear hfz34_2
              try clear hfz37_0
              try clear hfz37_1
              try clear hfz37_2
              try clear hfz43_0
              try clear hfz43_1
              try clear hfz43_2
              try clear hfz47_0
              try clear hfz47_1
              try clear hfz47_2
              try clear hfz55_0
              try clear hfz55_1
              try clear hfz55_2
              try clear hfz63_0
              try clear hfz63_1
              try clear hfz63_2
              try clear hfz66_0
              try clear hfz66_1
              try clear hfz66_2
              try clear hfz6_0
              try clear hfz6_1
              try clear hfz6_2
              try clear hfz71_0
              try clear hfz71_1
              try clear hfz71_2
              try clear hfz74_0
              try clear hfz74_1
              try clear hfz74_2
              try clear hfz98_0
              try clear hfz98_1
              try clear hfz98_2
              try clear p2
              obtain ⟨kq,x110_127,rfl,HA,HJ127,HO_324000,HO_324001,HO_324002,HO_334000,HO_334001,HO_334002,HO_348000,HO_348001,HO_348002,HO_398000,HO_398001,HO_398002,BK298,BK323,BK333,BK347,BK397,HB⟩:= hcut
              have hl348000_127:= (Kd.R_reads' HO_348000.out).1
              rw [hl348000_127] at HO_348000
              (try simp only [hl348000_127])
              (try simp only [hl348000_127] at BK298)
              (try simp only [hl348000_127] at BK323)
              (try simp only [hl348000_127] at BK333)
              (try simp only [hl348000_127] at BK347)
              (try simp only [hl348000_127] at BK397)
              (try simp only [hl348000_127] at HO_324000)
              (try simp only [hl348000_127] at HO_324001)
              (try simp only [hl348000_127] at HO_324002)
              (try simp only [hl348000_127] at HO_334000)
              (try simp only [hl348000_127] at HO_334001)
              (try simp only [hl348000_127] at HO_334002)
              (try simp only [hl348000_127] at HO_348001)
              (try simp only [hl348000_127] at HO_348002)
              (try simp only [hl348000_127] at HO_398000)
              (try simp only [hl348000_127] at HO_398001)
              (try simp only [hl348000_127] at HO_398002)
              have hl348001_127:= (Kd.R_reads' HO_348001.out).1
              rw [hl348001_127] at HO_348001
              (try simp only [hl348001_127])
              (try simp only [hl348001_127] at BK298)
              (try simp only [hl348001_127] at BK323)
              (try simp only [hl348001_127] at BK333)
              (try simp only [hl348001_127] at BK347)
              (try simp only [hl348001_127] at BK397)
              (try simp only [hl348001_127] at HO_324000)
              (try simp only [hl348001_127] at HO_324001)
              (try simp only [hl348001_127] at HO_324002)
              (try simp only [hl348001_127] at HO_334000)
              (try simp only [hl348001_127] at HO_334001)
              (try simp only [hl348001_127] at HO_334002)
              (try simp only [hl348001_127] at HO_348000)
              (try simp only [hl348001_127] at HO_348002)
              (try simp only [hl348001_127] at HO_398000)
              (try simp only [hl348001_127] at HO_398001)
              (try simp only [hl348001_127] at HO_398002)
              have hl348002_127:= (Kd.R_reads' HO_348002.out).1
              rw [hl348002_127] at HO_348002
              (try simp only [hl348002_127])
              (try simp only [hl348002_127] at BK298)
              (try simp only [hl348002_127] at BK323)
              (try simp only [hl348002_127] at BK333)
              (try simp only [hl348002_127] at BK347)
              (try simp only [hl348002_127] at BK397)
              (try simp only [hl348002_127] at HO_324000)
              (try simp only [hl348002_127] at HO_324001)
              (try simp only [hl348002_127] at HO_324002)
              (try simp only [hl348002_127] at HO_334000)
              (try simp only [hl348002_127] at HO_334001)
              (try simp only [hl348002_127] at HO_334002)
              (try simp only [hl348002_127] at HO_348000)
              (try simp only [hl348002_127] at HO_348001)
              (try simp only [hl348002_127] at HO_398000)
              (try simp only [hl348002_127] at HO_398001)
              (try simp only [hl348002_127] at HO_398002)
              cases kq with
             |zero => exact absurd HA.out (by simp [laws_FnExactApplySwaps.j2])
             |succ kj127 =>
               have H:= HA.out
               clear HA
               simp only [laws_FnExactApplySwaps.j2] at H
               by_cases c177 : x110_127 = true
               ·subst c177
                have H1 : (some false) = some r:= by rw [if_pos rfl] at H;exact H
                clear H
                have H:= H1
                clear H1
                exact absurd ((Option.some.inj H).trans HRT.out) (by decide)
               ·replace c177:= Bool.eq_false_iff.mpr c177
                subst c177
                have H1 : ((laws_heldCracker.f kj127 t371 t372 t373 1).bind fun t399 => (if t399 < 0 then (some false) else (if t399 = t370 then (some true) else (some false)))) = some r:= by rw [if_neg (show ¬ (false = true) by decide)] at H;exact H
                clear H
                have H:= H1
                clear H1
                replace H:= Option.bind_eq_some_iff.mp H
                obtain ⟨t399,A1780,H⟩:= H
                replace H : (if t399 < 0 then (some false) else (if t399 = t370 then (some true) else (some false))) = some r:= H
                have A178:= mk A1780
                clear A1780
                by_cases c179 : t399 < 0
                ·rw [if_pos c179] at H
                 have c179b0 : decide (t399 < 0) = true:= decide_eq_true c179
                 clear c179
                 exact absurd ((Option.some.inj H).trans HRT.out) (by decide)
                ·rw [if_neg c179] at H
                 have c179b0 : decide (t399 < 0) = false:= decide_eq_false c179
                 clear c179
                 by_cases c180 : t399 = t370
                 ·rw [if_pos c180] at H
                  have c180b0 : (t399 == t370) = true:= beq_iff_eq.mpr c180
                  have c180b1 : (t399 != t370) = false:= bne_eq_false_iff_eq.mpr c180
                  clear c180
                  obtain rfl:= Option.some.inj H
                  have hnb181:= NB347_298.out
                  have hnc181:= NB298_347.out
                  have hnb182:= NB347_323.out
                  have hnc182:= NB323_347.out
                  have hnb183:= NB347_333.out
                  have hnc183:= NB333_347.out
                  have hnb184:= NB347_397.out
                  have hnc184:= NB397_347.out
                  have hcz185_0 : wc.cell? ⟨gb347,0,none⟩ = some (.slice Ao51 t371.length co51):= (blk_cell BK347.out 0).trans rfl
                  have hcz185_1 : wc.cell? ⟨gb347,1,none⟩ = some (.slice Ao56 t372.length co56):= (blk_cell BK347.out 1).trans rfl
                  have hcz185_2 : wc.cell? ⟨gb347,2,none⟩ = some (.slice Ao57 t373.length co57):= (blk_cell BK347.out 2).trans rfl
                  have hfz185_0:= blk_frozen BK347.out 0
                  have hfz185_1:= blk_frozen BK347.out 1
                  have hfz185_2:= blk_frozen BK347.out 2
                  go_wp2_with (first|((with_reducible refine gate_callee (f:= 16) rfl ?_);refine goesL_ (some 113) rfl rfl Try.func16 (by kernel_rfl) rfl #[.agg #[.slice Ao51 t371.length co51,.slice Ao56 t372.length co56,.slice Ao57 t373.length co57],.int .i64 1] rfl (by (try simp only [List.map_toArray,List.map_cons,List.map_nil]);first|done|rfl|(simp only [List.length_drop,List.length_take];rfl)) ?_;(with_reducible refine (laws_heldCracker.calls kj127 _ _ t371 _ _ t372 _ _ t373 1 t399 _ ?side1 ?side2 ?side3 ?side4 ?side5 ?side6 A178.out).mono ?_);(case side1 => exact uc (Kd.R_reads' HO_348000.out).2.2);(case side2 => exact (Kd.R_reads' HO_348000.out).2.1);(case side3 => exact uc (Kd.R_reads' HO_348001.out).2.2);(case side4 => exact (Kd.R_reads' HO_348001.out).2.1);(case side5 => exact uc (Kd.R_reads' HO_348002.out).2.2);(case side6 => exact (Kd.R_reads' HO_348002.out).2.1);rintro e w186 ⟨rfl,hb⟩;refine ⟨_,rfl,?_⟩;have n0_:= mk (Kd.R_below (up HO_324000.out) hb);have n1_:= mk (Kd.R_below (up HO_324001.out) hb);have n2_:= mk (Kd.R_below (up HO_324002.out) hb);have n3_:= mk (Kd.R_below (up HO_334000.out) hb);have n4_:= mk (Kd.R_below (up HO_334001.out) hb);have n5_:= mk (Kd.R_below (up HO_334002.out) hb);have n6_:= mk (Kd.R_below (up HO_348000.out) hb);have n7_:= mk (Kd.R_below (up HO_348001.out) hb);have n8_:= mk (Kd.R_below (up HO_348002.out) hb);have n9_:= mk (Kd.R_below (up HO_398000.out) hb);have n10_:= mk (Kd.R_below (up HO_398001.out) hb);have n11_:= mk (Kd.R_below (up HO_398002.out) hb);have n12_:= mk (blk_below (g:= gb298) (o:= .cells #[.slice A0_0 l0_0.length c0_0,.slice A0_1 l0_1.length c0_1,.slice A0_2 l0_2.length c0_2] 25 (0,0)) (ub BK298.out) hb);have n13_:= mk (blk_below (g:= gb323) (o:= .cells #[.slice Ao32 t313.length co32,.slice Ao35 t316.length co35,.slice Ao36 t319.length co36] 31 (0,0)) (ub BK323.out) hb);have n14_:= mk (blk_below (g:= gb333) (o:= .cells #[.slice Ao40 t364.length co40,.slice Ao44 t365.length co44,.slice Ao45 t366.length co45] 31 (0,0)) (ub BK333.out) hb);have n15_:= mk (blk_below (g:= gb347) (o:= .cells #[.slice Ao51 t371.length co51,.slice Ao56 t372.length co56,.slice Ao57 t373.length co57] 31 (0,0)) (ub BK347.out) hb);have n16_:= mk (blk_below (g:= gb397) (o:= .cells #[.slice Ao147 t387.length co147,.slice Ao153 t390.length co153,.slice Ao154 t393.length co154] 31 (0,0)) (ub BK397.out) hb);have n17_:= mk (below_step (by repeat (first|(with_reducible first|exact HB.out|apply below_alloc|apply pw_below_drewN|apply below_drew1|refine below_set ?_ GE298.out|refine below_set ?_ GE323.out|refine below_set ?_ GE333.out|refine below_set ?_ GE347.out|refine below_set ?_ GE397.out)|exact HB.out)) hb);clear HO_324000;clear HO_324001;clear HO_324002;clear HO_334000;clear HO_334001;clear HO_334002;clear HO_348000;clear HO_348001;clear HO_348002;clear HO_398000;clear HO_398001;clear HO_398002;clear BK298;clear BK323;clear BK333;clear BK347;clear BK397;clear HB;have HO_324000:= n0_;have HO_324001:= n1_;have HO_324002:= n2_;have HO_334000:= n3_;have HO_334001:= n4_;have HO_334002:= n5_;have HO_348000:= n6_;have HO_348001:= n7_;have HO_348002:= n8_;have HO_398000:= n9_;have HO_398001:= n10_;have HO_398002:= n11_;have BK298:= n12_;have BK323:= n13_;have BK333:= n14_;have BK347:= n15_;have BK397:= n16_;have HB:= n17_;clear n0_ n1_ n2_ n3_ n4_ n5_ n6_ n7_ n8_ n9_ n10_ n11_ n12_ n13_ n14_ n15_ n16_ n17_;(try clear hb);(try clear hb2);(try clear hk);(try clear hi)))
                  go_ret
                  exact ⟨by first|rfl|(simp [errW_none,errW_some] <;> rfl)|(simp [*,errW_none,errW_some] <;> rfl),by repeat (first|(with_reducible first|exact HB.out|apply below_alloc|apply pw_below_drewN|apply below_drew1|refine below_set ?_ GE298.out|refine below_set ?_ GE323.out|refine below_set ?_ GE333.out|refine below_set ?_ GE347.out|refine below_set ?_ GE397.out)|exact HB.out)⟩
                 ·rw [if_neg c180] at H
                  have c180b0 : (t399 == t370) = false:= beq_eq_false_iff_ne.mpr c180
                  have c180b1 : (t399 != t370) = true:= bne_iff_ne.mpr c180
                  exact absurd ((Option.some.inj H).trans HRT.out) (by decide)
            ·rw [if_neg c124] at H
             have c124b0 : (t374 == t370) = false:= beq_eq_false_iff_ne.mpr c124
             have c124b1 : (t374 != t370) = true:= bne_iff_ne.mpr c124
             exact absurd ((Option.some.inj H).trans HRT.out) (by decide)
       ·replace c82:= Bool.eq_false_iff.mpr c82
        subst c82
        have H1 : (some false) = some r:= by rw [if_neg (show ¬ (false = true) by decide)] at H;exact H
        clear H
        have H:= H1
        clear H1
        exact absurd ((Option.some.inj H).trans HRT.out) (by decide)
      ·replace c79:= Bool.eq_false_iff.mpr c79
       subst c79
       have H1 : (some false) = some r:= by rw [if_neg (show ¬ (false = true) by decide)] at H;exact H
       clear H
       have H:= H1
       clear H1
       exact absurd ((Option.some.inj H).trans HRT.out) (by decide)

end Go.Proofs.Ytlikcmonejefoaa.PFnExactApplySwaps
