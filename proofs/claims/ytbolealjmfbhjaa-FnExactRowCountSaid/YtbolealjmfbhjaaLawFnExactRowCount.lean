/- The row of the law FnExactRowCount: for every argument that reads as data the call returns true and leaves the argument as it was. No condition of ours. -/
import Derived.Test.YtbolealjmfbhjaaRows
import Derived.Test.YtbolealjmfbhjaaHead
import Derived.Test.YtbolealjmfbhjaaPFnExactRowCountx6
import Derived.Test.YtbolealjmfbhjaaPureFnExactRowCount
import Derived.Test.YtbolealjmfbhjaaOpen
import Derived.WalkKit
import Derived.ProofKit
import Derived.OpenShut
import Derived.ShutString
import Derived.ChangeOld
import Derived.Below
import Derived.SizedLaws
namespace Go.Proofs.Ytbolealjmfbhjaa.fnExactRowCount
open Go.ChangeShapes Go.WideShapes Go.ChangeAt Go.RowKit Go.Proofs.Ytbolealjmfbhjaa.Open Go.Proofs.Ytbolealjmfbhjaa.PFnExactRowCount Go.Proofs.YtbolealjmfbhjaaW.PrintWords Go.Proofs.YtbolealjmfbhjaaW.PrintLast Go.Proofs.YtbolealjmfbhjaaW.PrintMore
open Go.ChangeMaps (open_string shut_string)
set_option linter.unusedVariables false
theorem own : ownKnob Try.prog.godebug = none := by kernel_rfl
theorem laidOut : laidOutB Try.prog = true := by kernel_rfl
set_option maxRecDepth 100000 in
theorem o22 : Opens Try.prog 22 (Kd.slice 3 (Kd.int .i64)) (fun xs => (xs.length ≤ maxLen ∧ ∀ z ∈ xs, (Lit.int .i64 z).wf = true)) := opens_slice (e := 3) (e' := 3) Try.underlying22 (by kernel_rfl) (opens_int Try.underlying3)
set_option maxRecDepth 100000 in
theorem o108 : Opens Try.prog 108 k108 (fun x => (x.f0.size ≤ maxLen ∧ (x.f1.length ≤ maxLen ∧ ∀ z ∈ x.f1, (Lit.int .i64 z).wf = true))) := opens_iso (opens_struct Try.underlying108 (by kernel_rfl) (opensF_cons (Q := fun x : ByteArray => x.size ≤ maxLen) (R := fun x : List Int => (x.length ≤ maxLen ∧ ∀ z ∈ x, (Lit.int .i64 z).wf = true)) rfl (by kernel_rfl) (opens_string Try.underlying9) (opensF_last (Q := fun x : List Int => (x.length ≤ maxLen ∧ ∀ z ∈ x, (Lit.int .i64 z).wf = true)) rfl (by kernel_rfl) o22))) (fun x : S108 => (x.f0, x.f1)) (fun p => (⟨p.1, p.2⟩ : S108)) (fun _ => rfl)
set_option maxRecDepth 100000 in
theorem o34 : Opens Try.prog 34 (Kd.slice 108 k108) (fun xs => (xs.length ≤ maxLen ∧ ∀ z ∈ xs, (z.f0.size ≤ maxLen ∧ (z.f1.length ≤ maxLen ∧ ∀ zz ∈ z.f1, (Lit.int .i64 zz).wf = true)))) := opens_slice (e := 108) (e' := 108) Try.underlying34 (by kernel_rfl) o108
set_option maxRecDepth 100000 in
theorem oS36 : Opens Try.prog 36 (Kd.slice 108 k108) (fun x => (x.length ≤ maxLen ∧ ∀ z ∈ x, (z.f0.size ≤ maxLen ∧ (z.f1.length ≤ maxLen ∧ ∀ zz ∈ z.f1, (Lit.int .i64 zz).wf = true)))) := opens_struct Try.underlying36 (by kernel_rfl) (opensF_last (Q := fun x : List S108 => (x.length ≤ maxLen ∧ ∀ z ∈ x, (z.f0.size ≤ maxLen ∧ (z.f1.length ≤ maxLen ∧ ∀ zz ∈ z.f1, (Lit.int .i64 zz).wf = true)))) rfl (by kernel_rfl) o34)
set_option maxHeartbeats 1000000 in
set_option maxRecDepth 100000 in
theorem lifted (os : Os) (started : os.Started) (H : Type) (enc : TypeId × Value → H) :
    ReturnsInHanded {} Try.checked os 4 .any (Rows.fnExactRowCountSpec.pre6 enc Try.prog Try.f4 Rows.fnExactRowCountRow.domain false) (Rows.fnExactRowCountSpec.post enc Try.prog Try.f4 false true false false) := by
  refine returnsInHanded_of_change_sized (C := Try.checked) own started (by kernel_rfl) Try.func4
    (ChangeSpec.witness6 (enc := enc) (C := Try.checked) false ⟨#[], #[.agg #[.slice none 0 0]], []⟩ 8 (by kernel_rfl) (by kernel_rfl) (by kernel_rfl) (by kernel_rfl)) ?_
  intro W base args ds gs before hval0 hW hcnd hsz0 _
  have hsz : (DataW.weightsEach Try.prog (Try.f4.params.toList ++ Rows.fnExactRowCountSpec.plain.varTypes Try.prog) (ds ++ gs)).all (· ≤ reachBytes) = true := hsz0
  have hval : ∀ (j : Nat) t v, Try.f4.params[j]? = some t → args[j]? = some v → Value.okWide Try.prog W .any base t v := hval0
  have hW' := hW
  obtain ⟨p, q, hA0, hV, rfl, hfz, hnd⟩ := hW
  have hA : DataW.TrodAll enc Try.prog W 0 (fun _ => true) true Try.f4.params.toList args.toList ds p := hA0
  rw [Try.params4] at hA hval hsz
  obtain ⟨v0, vs0, d0, ds0, p0, q0, hargs, rfl, rfl, h0, r0⟩ := trodAll_cons hA
  obtain ⟨rfl, rfl, rfl⟩ := trodAll_nil r0
  obtain rfl : args = #[v0] := by cases args; simp_all
  obtain ⟨rfl, rfl⟩ := trodVars_none hV
  obtain ⟨cs0, rfl, hs0⟩ := okWide_struct Try.underlying36 (hval 0 36 v0 rfl rfl)
  have k0 := h0
  have lt0 : ∀ x ∈ p0, x.block < W.heap.size := by obtain ⟨m, hm⟩ := k0; exact DataW.trod_lt m _ _ _ hm
  obtain ⟨fuel0, hf0⟩ := h0
  obtain ⟨l0_0, hK0, hQ0⟩ := oS36 H enc W _ _ _ _ _ _ hf0
  obtain ⟨A0_0, c0_0, hcs0, hc0_0, hr0_0⟩ := hK0
  obtain rfl : cs0 = #[.slice A0_0 l0_0.length c0_0] := by cases cs0; simpa [Value.cells] using hcs0
  have w0_0 := hQ0
  clear hA0 hval0 hsz0 hsz
  obtain ⟨k, hk⟩ := Pure.FnExactRowCount l0_0 w0_0
  refine (laws_FnExactRowCount.calls k A0_0 c0_0 l0_0 true W hr0_0 hc0_0 ⟨rfl⟩ hk).mono fun e W' he0 => ?_
  obtain ⟨he, bel⟩ := he0
  subst he
  exact ⟨_, rfl, _, _, _, [], _, [], hW', trodAll_mk1 (shut_bool Try.underlying4 _), (trodAll_cons_mk (Below.trod laidOut (by kernel_rfl) (of_decide_eq_true (by kernel_rfl)) k0 bel lt0) trodAll_mk0), rfl, bel.frame _, fun h => by cases h⟩
theorem closed : joinedFacts Try.pinned.checked.prog 4 Try.f4 Rows.fnExactRowCountSpec Rows.fnExactRowCountRow = true := by
  show joinedFacts Try.prog 4 Try.f4 Rows.fnExactRowCountSpec Rows.fnExactRowCountRow = true
  unfold joinedFacts
  rw [Head.mayEnter, Head.liftsFinal, Head.make]
  kernel_rfl
theorem over : Rows.fnExactRowCountRow.holds Try.pinned (OpenSpec.ofChange Rows.fnExactRowCountSpec) :=
  OpenClaim.holds_of_wide 4 Try.f4 rfl rfl rfl rfl rfl rfl rfl ⟨rfl, rfl, rfl, rfl, rfl⟩ rfl rfl rfl rfl rfl (by kernel_rfl) Try.func4 closed
    (of_decide_eq_true (by kernel_rfl)) (by unfold Func.isWrapper; first | (rw [if_pos (by decide +kernel)]; kernel_rfl) | (rw [if_neg (by decide +kernel)]; exact ⟨rfl, rfl⟩))
    (fun os started H enc _ => lifted os started H enc)
theorem proved : Rows.FnExactRowCountSaid := over
#print axioms proved
end Go.Proofs.Ytbolealjmfbhjaa.fnExactRowCount
namespace Go.Proofs.Ytbolealjmfbhjaa
/-- The row, under a short name, for the claim. -/
theorem fnExactRowCount_holds : Rows.FnExactRowCountSaid := fnExactRowCount.proved
end Go.Proofs.Ytbolealjmfbhjaa
