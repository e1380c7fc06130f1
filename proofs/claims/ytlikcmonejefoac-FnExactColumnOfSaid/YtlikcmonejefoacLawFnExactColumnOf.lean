/- The row of the law FnExactColumnOf: for every argument that reads as data the call returns true and leaves the argument as it was. No condition of ours. -/
import Derived.Test.YtlikcmonejefoacRows
import Derived.Test.YtlikcmonejefoacHead
import Derived.Test.YtlikcmonejefoacPFnExactColumnOfx7
import Derived.Test.YtlikcmonejefoacPureFnExactColumnOf
import Derived.Test.YtlikcmonejefoacOpen
import Derived.WalkKit
import Derived.ProofKit
import Derived.OpenShut
import Derived.ShutString
import Derived.ChangeOld
import Derived.Below
import Derived.SizedLaws
namespace Go.Proofs.Ytlikcmonejefoac.fnExactColumnOf
open Go.ChangeShapes Go.WideShapes Go.ChangeAt Go.RowKit Go.Proofs.Ytlikcmonejefoac.Open Go.Proofs.Ytlikcmonejefoac.PFnExactColumnOf Go.Proofs.YtlikcmonejefoacW.PrintWords Go.Proofs.YtlikcmonejefoacW.PrintLast Go.Proofs.YtlikcmonejefoacW.PrintMore
open Go.ChangeMaps (open_string shut_string)
set_option linter.unusedVariables false
theorem own : ownKnob Try.prog.godebug = none := by kernel_rfl
theorem laidOut : laidOutB Try.prog = true := by kernel_rfl
set_option maxRecDepth 100000 in
theorem o26 : Opens Try.prog 26 (Kd.slice 3 (Kd.int .i64)) (fun xs => (xs.length ≤ maxLen ∧ ∀ z ∈ xs, (Lit.int .i64 z).wf = true)) := opens_slice (e := 3) (e' := 3) Try.underlying26 (by kernel_rfl) (opens_int Try.underlying3)
set_option maxRecDepth 100000 in
theorem o78 : Opens Try.prog 78 k78 (fun x => (x.f0.size ≤ maxLen ∧ (x.f1.length ≤ maxLen ∧ ∀ z ∈ x.f1, (Lit.int .i64 z).wf = true))) := opens_iso (opens_struct Try.underlying78 (by kernel_rfl) (opensF_cons (Q := fun x : ByteArray => x.size ≤ maxLen) (R := fun x : List Int => (x.length ≤ maxLen ∧ ∀ z ∈ x, (Lit.int .i64 z).wf = true)) rfl (by kernel_rfl) (opens_string Try.underlying9) (opensF_last (Q := fun x : List Int => (x.length ≤ maxLen ∧ ∀ z ∈ x, (Lit.int .i64 z).wf = true)) rfl (by kernel_rfl) o26))) (fun x : S78 => (x.f0, x.f1)) (fun p => (⟨p.1, p.2⟩ : S78)) (fun _ => rfl)
set_option maxRecDepth 100000 in
theorem o22 : Opens Try.prog 22 (Kd.slice 78 k78) (fun xs => (xs.length ≤ maxLen ∧ ∀ z ∈ xs, (z.f0.size ≤ maxLen ∧ (z.f1.length ≤ maxLen ∧ ∀ zz ∈ z.f1, (Lit.int .i64 zz).wf = true)))) := opens_slice (e := 78) (e' := 78) Try.underlying22 (by kernel_rfl) o78
set_option maxRecDepth 100000 in
theorem oS24 : Opens Try.prog 24 (Kd.slice 78 k78) (fun x => (x.length ≤ maxLen ∧ ∀ z ∈ x, (z.f0.size ≤ maxLen ∧ (z.f1.length ≤ maxLen ∧ ∀ zz ∈ z.f1, (Lit.int .i64 zz).wf = true)))) := opens_struct Try.underlying24 (by kernel_rfl) (opensF_last (Q := fun x : List S78 => (x.length ≤ maxLen ∧ ∀ z ∈ x, (z.f0.size ≤ maxLen ∧ (z.f1.length ≤ maxLen ∧ ∀ zz ∈ z.f1, (Lit.int .i64 zz).wf = true)))) rfl (by kernel_rfl) o22)
set_option maxHeartbeats 1000000 in
set_option maxRecDepth 100000 in
theorem lifted (os : Os) (started : os.Started) (H : Type) (enc : TypeId × Value → H) :
    ReturnsInHanded {} Try.checked os 3 .any (Rows.fnExactColumnOfSpec.pre6 enc Try.prog Try.f3 Rows.fnExactColumnOfRow.domain false) (Rows.fnExactColumnOfSpec.post enc Try.prog Try.f3 false true false false) := by
  refine returnsInHanded_of_change_sized (C := Try.checked) own started (by kernel_rfl) Try.func3
    (ChangeSpec.witness6 (enc := enc) (C := Try.checked) false ⟨#[], #[.agg #[.slice none 0 0], .string ByteArray.empty], []⟩ 8 (by kernel_rfl) (by kernel_rfl) (by kernel_rfl) (by kernel_rfl)) ?_
  intro W base args ds gs before hval0 hW hcnd hsz0 _
  have hsz : (DataW.weightsEach Try.prog (Try.f3.params.toList ++ Rows.fnExactColumnOfSpec.plain.varTypes Try.prog) (ds ++ gs)).all (· ≤ reachBytes) = true := hsz0
  have hval : ∀ (j : Nat) t v, Try.f3.params[j]? = some t → args[j]? = some v → Value.okWide Try.prog W .any base t v := hval0
  have hW' := hW
  obtain ⟨p, q, hA0, hV, rfl, hfz, hnd⟩ := hW
  have hA : DataW.TrodAll enc Try.prog W 0 (fun _ => true) true Try.f3.params.toList args.toList ds p := hA0
  rw [Try.params3] at hA hval hsz
  obtain ⟨v0, vs0, d0, ds0, p0, q0, hargs, rfl, rfl, h0, r0⟩ := trodAll_cons hA
  obtain ⟨v1, vs1, d1, ds1, p1, q1, rfl, rfl, rfl, h1, r1⟩ := trodAll_cons r0
  obtain ⟨rfl, rfl, rfl⟩ := trodAll_nil r1
  obtain rfl : args = #[v0, v1] := by cases args; simp_all
  obtain ⟨rfl, rfl⟩ := trodVars_none hV
  obtain ⟨cs0, rfl, hs0⟩ := okWide_struct Try.underlying24 (hval 0 24 v0 rfl rfl)
  have k0 := h0
  have lt0 : ∀ x ∈ p0, x.block < W.heap.size := by obtain ⟨m, hm⟩ := k0; exact DataW.trod_lt m _ _ _ hm
  obtain ⟨fuel0, hf0⟩ := h0
  obtain ⟨l0_0, hK0, hQ0⟩ := oS24 H enc W _ _ _ _ _ _ hf0
  obtain ⟨A0_0, c0_0, hcs0, hc0_0, hr0_0⟩ := hK0
  obtain rfl : cs0 = #[.slice A0_0 l0_0.length c0_0] := by cases cs0; simpa [Value.cells] using hcs0
  have w0_0 := hQ0
  obtain ⟨a1, rfl, rfl, rfl, y1⟩ := open_string Try.underlying9 (hval 1 9 v1 rfl rfl) h1
  have w1 : a1.size ≤ 140737488351232 := by
    have z := sized_string hsz (j := 1) (t := 9) rfl rfl
    rw [Array.length_toList] at z
    exact z
  clear hA0 hval0 hsz0 hsz
  obtain ⟨k, hk⟩ := Pure.FnExactColumnOf l0_0 a1 w0_0 w1
  refine (laws_FnExactColumnOf.calls k A0_0 c0_0 l0_0 a1 true W hr0_0 hc0_0 ⟨rfl⟩ hk).mono fun e W' he0 => ?_
  obtain ⟨he, bel⟩ := he0
  subst he
  exact ⟨_, rfl, _, _, _, [], _, [], hW', trodAll_mk1 (shut_bool Try.underlying4 _), (trodAll_cons_mk (Below.trod laidOut (by kernel_rfl) (of_decide_eq_true (by kernel_rfl)) k0 bel lt0) (trodAll_cons_mk (shut_string Try.underlying9 y1) trodAll_mk0)), rfl, bel.frame _, fun h => by cases h⟩
theorem closed : joinedFacts Try.pinned.checked.prog 3 Try.f3 Rows.fnExactColumnOfSpec Rows.fnExactColumnOfRow = true := by
  show joinedFacts Try.prog 3 Try.f3 Rows.fnExactColumnOfSpec Rows.fnExactColumnOfRow = true
  unfold joinedFacts
  rw [Head.mayEnter, Head.liftsFinal, Head.make]
  kernel_rfl
theorem over : Rows.fnExactColumnOfRow.holds Try.pinned (OpenSpec.ofChange Rows.fnExactColumnOfSpec) :=
  OpenClaim.holds_of_wide 3 Try.f3 rfl rfl rfl rfl rfl rfl rfl ⟨rfl, rfl, rfl, rfl, rfl⟩ rfl rfl rfl rfl rfl (by kernel_rfl) Try.func3 closed
    (of_decide_eq_true (by kernel_rfl)) (by unfold Func.isWrapper; first | (rw [if_pos (by decide +kernel)]; kernel_rfl) | (rw [if_neg (by decide +kernel)]; exact ⟨rfl, rfl⟩))
    (fun os started H enc _ => lifted os started H enc)
theorem proved : Rows.FnExactColumnOfSaid := over
#print axioms proved
end Go.Proofs.Ytlikcmonejefoac.fnExactColumnOf
namespace Go.Proofs.Ytlikcmonejefoac
/-- The row, under a short name, for the claim. -/
theorem fnExactColumnOf_holds : Rows.FnExactColumnOfSaid := fnExactColumnOf.proved
end Go.Proofs.Ytlikcmonejefoac
