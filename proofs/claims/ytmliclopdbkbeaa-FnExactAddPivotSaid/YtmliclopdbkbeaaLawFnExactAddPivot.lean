/- The row of the law FnExactAddPivot: for every argument that reads as data the call returns true and leaves the argument as it was. No condition of ours. -/
import Derived.Test.YtmliclopdbkbeaaRows
import Derived.Test.YtmliclopdbkbeaaHead
import Derived.Test.YtmliclopdbkbeaaPFnExactAddPivotx12
import Derived.Test.YtmliclopdbkbeaaPureFnExactAddPivot
import Derived.Test.YtmliclopdbkbeaaOpen
import Derived.WalkKit
import Derived.ProofKit
import Derived.OpenShut
import Derived.ShutString
import Derived.ChangeOld
import Derived.Below
import Derived.SizedLaws
namespace Go.Proofs.Ytmliclopdbkbeaa.fnExactAddPivot
open Go.ChangeShapes Go.WideShapes Go.ChangeAt Go.RowKit Go.Proofs.Ytmliclopdbkbeaa.Open Go.Proofs.Ytmliclopdbkbeaa.PFnExactAddPivot Go.Proofs.YtmliclopdbkbeaaW.PrintWords Go.Proofs.YtmliclopdbkbeaaW.PrintLast Go.Proofs.YtmliclopdbkbeaaW.PrintMore
open Go.ChangeMaps (open_string shut_string)
set_option linter.unusedVariables false
theorem own : ownKnob Try.prog.godebug = none := by kernel_rfl
theorem laidOut : laidOutB Try.prog = true := by kernel_rfl
set_option maxRecDepth 100000 in
theorem o22 : Opens Try.prog 22 (Kd.slice 3 (Kd.int .i64)) (fun xs => (xs.length ≤ maxLen ∧ ∀ z ∈ xs, (Lit.int .i64 z).wf = true)) := opens_slice (e := 3) (e' := 3) Try.underlying22 (by kernel_rfl) (opens_int Try.underlying3)
set_option maxRecDepth 100000 in
theorem o27 : Opens Try.prog 27 k27 (fun x => ((Lit.int .i64 x.f0).wf = true ∧ (Lit.int .i64 x.f1).wf = true)) := opens_iso (opens_struct Try.underlying27 (by kernel_rfl) (opensF_cons (Q := fun x : Int => (Lit.int .i64 x).wf = true) (R := fun x : Int => (Lit.int .i64 x).wf = true) rfl (by kernel_rfl) (opens_int Try.underlying3) (opensF_last (Q := fun x : Int => (Lit.int .i64 x).wf = true) rfl (by kernel_rfl) (opens_int Try.underlying3)))) (fun x : S27 => (x.f0, x.f1)) (fun p => (⟨p.1, p.2⟩ : S27)) (fun _ => rfl)
set_option maxRecDepth 100000 in
theorem o23 : Opens Try.prog 23 (Kd.slice 27 k27) (fun xs => (xs.length ≤ maxLen ∧ ∀ z ∈ xs, ((Lit.int .i64 z.f0).wf = true ∧ (Lit.int .i64 z.f1).wf = true))) := opens_slice (e := 27) (e' := 27) Try.underlying23 (by kernel_rfl) o27
set_option maxRecDepth 100000 in
theorem oS25 : Opens Try.prog 25 (Kd.pair (Kd.slice 3 (Kd.int .i64)) (Kd.pair (Kd.slice 3 (Kd.int .i64)) (Kd.slice 27 k27))) (fun x => (x.1.length ≤ maxLen ∧ ∀ z ∈ x.1, (Lit.int .i64 z).wf = true) ∧ (x.2.1.length ≤ maxLen ∧ ∀ z ∈ x.2.1, (Lit.int .i64 z).wf = true) ∧ (x.2.2.length ≤ maxLen ∧ ∀ z ∈ x.2.2, ((Lit.int .i64 z.f0).wf = true ∧ (Lit.int .i64 z.f1).wf = true))) := opens_struct Try.underlying25 (by kernel_rfl) (opensF_cons (Q := fun x : List Int => (x.length ≤ maxLen ∧ ∀ z ∈ x, (Lit.int .i64 z).wf = true)) (R := fun x : List Int × List S27 => (x.1.length ≤ maxLen ∧ ∀ z ∈ x.1, (Lit.int .i64 z).wf = true) ∧ (x.2.length ≤ maxLen ∧ ∀ z ∈ x.2, ((Lit.int .i64 z.f0).wf = true ∧ (Lit.int .i64 z.f1).wf = true))) rfl (by kernel_rfl) o22 (opensF_cons (Q := fun x : List Int => (x.length ≤ maxLen ∧ ∀ z ∈ x, (Lit.int .i64 z).wf = true)) (R := fun x : List S27 => (x.length ≤ maxLen ∧ ∀ z ∈ x, ((Lit.int .i64 z.f0).wf = true ∧ (Lit.int .i64 z.f1).wf = true))) rfl (by kernel_rfl) o22 (opensF_last (Q := fun x : List S27 => (x.length ≤ maxLen ∧ ∀ z ∈ x, ((Lit.int .i64 z.f0).wf = true ∧ (Lit.int .i64 z.f1).wf = true))) rfl (by kernel_rfl) o23)))
set_option maxRecDepth 100000 in
theorem oS27 : Opens Try.prog 27 (Kd.pair (Kd.int .i64) (Kd.int .i64)) (fun x => (Lit.int .i64 x.1).wf = true ∧ (Lit.int .i64 x.2).wf = true) := opens_struct Try.underlying27 (by kernel_rfl) (opensF_cons (Q := fun x : Int => (Lit.int .i64 x).wf = true) (R := fun x : Int => (Lit.int .i64 x).wf = true) rfl (by kernel_rfl) (opens_int Try.underlying3) (opensF_last (Q := fun x : Int => (Lit.int .i64 x).wf = true) rfl (by kernel_rfl) (opens_int Try.underlying3)))
set_option maxHeartbeats 1000000 in
set_option maxRecDepth 100000 in
theorem lifted (os : Os) (started : os.Started) (H : Type) (enc : TypeId × Value → H) :
    ReturnsInHanded {} Try.checked os 3 .any (Rows.fnExactAddPivotSpec.pre6 enc Try.prog Try.f3 Rows.fnExactAddPivotRow.domain false) (Rows.fnExactAddPivotSpec.post enc Try.prog Try.f3 false true false false) := by
  refine returnsInHanded_of_change_sized (C := Try.checked) own started (by kernel_rfl) Try.func3
    (ChangeSpec.witness6 (enc := enc) (C := Try.checked) false ⟨#[], #[.agg #[.slice none 0 0, .slice none 0 0, .slice none 0 0], .agg #[.int .i64 0, .int .i64 0]], []⟩ 8 (by kernel_rfl) (by kernel_rfl) (by kernel_rfl) (by kernel_rfl)) ?_
  intro W base args ds gs before hval0 hW hcnd hsz0 _
  have hsz : (DataW.weightsEach Try.prog (Try.f3.params.toList ++ Rows.fnExactAddPivotSpec.plain.varTypes Try.prog) (ds ++ gs)).all (· ≤ reachBytes) = true := hsz0
  have hval : ∀ (j : Nat) t v, Try.f3.params[j]? = some t → args[j]? = some v → Value.okWide Try.prog W .any base t v := hval0
  have hW' := hW
  obtain ⟨p, q, hA0, hV, rfl, hfz, hnd⟩ := hW
  have hA : DataW.TrodAll enc Try.prog W 0 (fun _ => true) true Try.f3.params.toList args.toList ds p := hA0
  rw [Try.params3] at hA hval hsz
  obtain ⟨v0, vs0, d0, ds0, p0, q0, hargs, rfl, rfl, h0, r0⟩ := trodAll_cons hA
  obtain ⟨v1, vs1, d1, ds1, p1, q1, rfl, rfl, rfl, h1, r1⟩ := trodAll_cons r0
  obtain ⟨rfl, rfl, rfl⟩ := trodAll_nil r1
  obtain rfl : args = #[v0, v1] := by cases args; simp_all
  obtain ⟨rfl, rfl⟩ := trodVars_none hV
  obtain ⟨cs0, rfl, hs0⟩ := okWide_struct Try.underlying25 (hval 0 25 v0 rfl rfl)
  have k0 := h0
  have lt0 : ∀ x ∈ p0, x.block < W.heap.size := by obtain ⟨m, hm⟩ := k0; exact DataW.trod_lt m _ _ _ hm
  obtain ⟨fuel0, hf0⟩ := h0
  obtain ⟨⟨l0_0, l0_1, l0_2⟩, hK0, hQ0⟩ := oS25 H enc W _ _ _ _ _ _ hf0
  obtain ⟨_, _, hcs0, ⟨A0_0, c0_0, rfl, hc0_0, hr0_0⟩, ⟨_, _, rfl, ⟨A0_1, c0_1, rfl, hc0_1, hr0_1⟩, ⟨A0_2, c0_2, rfl, hc0_2, hr0_2⟩⟩⟩ := hK0
  obtain rfl : cs0 = #[.slice A0_0 l0_0.length c0_0, .slice A0_1 l0_1.length c0_1, .slice A0_2 l0_2.length c0_2] := by cases cs0; simpa [Value.cells] using hcs0
  obtain ⟨w0_0, w0_1, w0_2⟩ := hQ0
  obtain ⟨cs1, rfl, hs1⟩ := okWide_struct Try.underlying27 (hval 1 27 v1 rfl rfl)
  have k1 := h1
  have lt1 : ∀ x ∈ p1, x.block < W.heap.size := by obtain ⟨m, hm⟩ := k1; exact DataW.trod_lt m _ _ _ hm
  obtain ⟨fuel1, hf1⟩ := h1
  obtain ⟨⟨a1_0, a1_1⟩, hK1, hQ1⟩ := oS27 H enc W _ _ _ _ _ _ hf1
  obtain ⟨_, _, hcs1, rfl, rfl⟩ := hK1
  obtain rfl : cs1 = #[.int .i64 a1_0, .int .i64 a1_1] := by cases cs1; simpa [Value.cells] using hcs1
  obtain ⟨w1_0, w1_1⟩ := hQ1
  clear hA0 hval0 hsz0 hsz
  obtain ⟨k, hk⟩ := Pure.FnExactAddPivot l0_0 l0_1 l0_2 a1_0 a1_1 w0_0 w0_1 w0_2 w1_0 w1_1
  refine (laws_FnExactAddPivot.calls k A0_0 c0_0 l0_0 A0_1 c0_1 l0_1 A0_2 c0_2 l0_2 a1_0 a1_1 true W hr0_0 hc0_0 hr0_1 hc0_1 hr0_2 hc0_2 ⟨rfl⟩ hk).mono fun e W' he0 => ?_
  obtain ⟨he, bel⟩ := he0
  subst he
  exact ⟨_, rfl, _, _, _, [], _, [], hW', trodAll_mk1 (shut_bool Try.underlying4 _), (trodAll_cons_mk (Below.trod laidOut (by kernel_rfl) (of_decide_eq_true (by kernel_rfl)) k0 bel lt0) (trodAll_cons_mk (Below.trod laidOut (by kernel_rfl) (of_decide_eq_true (by kernel_rfl)) k1 bel lt1) trodAll_mk0)), rfl, bel.frame _, fun h => by cases h⟩
theorem closed : joinedFacts Try.pinned.checked.prog 3 Try.f3 Rows.fnExactAddPivotSpec Rows.fnExactAddPivotRow = true := by
  show joinedFacts Try.prog 3 Try.f3 Rows.fnExactAddPivotSpec Rows.fnExactAddPivotRow = true
  unfold joinedFacts
  rw [Head.mayEnter, Head.liftsFinal, Head.make]
  kernel_rfl
theorem over : Rows.fnExactAddPivotRow.holds Try.pinned (OpenSpec.ofChange Rows.fnExactAddPivotSpec) :=
  OpenClaim.holds_of_wide 3 Try.f3 rfl rfl rfl rfl rfl rfl rfl ⟨rfl, rfl, rfl, rfl, rfl⟩ rfl rfl rfl rfl rfl (by kernel_rfl) Try.func3 closed
    (of_decide_eq_true (by kernel_rfl)) (by unfold Func.isWrapper; first | (rw [if_pos (by decide +kernel)]; kernel_rfl) | (rw [if_neg (by decide +kernel)]; exact ⟨rfl, rfl⟩))
    (fun os started H enc _ => lifted os started H enc)
theorem proved : Rows.FnExactAddPivotSaid := over
#print axioms proved
end Go.Proofs.Ytmliclopdbkbeaa.fnExactAddPivot
namespace Go.Proofs.Ytmliclopdbkbeaa
/-- The row, under a short name, for the claim. -/
theorem fnExactAddPivot_holds : Rows.FnExactAddPivotSaid := fnExactAddPivot.proved
end Go.Proofs.Ytmliclopdbkbeaa
