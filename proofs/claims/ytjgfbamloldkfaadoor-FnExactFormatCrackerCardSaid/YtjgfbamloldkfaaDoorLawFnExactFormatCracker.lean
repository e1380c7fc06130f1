/- FnExactFormatCracker: whatever the argument, the call returns true and leaves it as it was. No condition. -/
import Derived.Test.YtjgfbamloldkfaaDoorRows
import Derived.Test.YtjgfbamloldkfaaDoorPureFnExactFormatCracker
import Derived.Test.YtjgfbamloldkfaaDoorOpen
import Derived.Test.YtjgfbamloldkfaaDoorCards
import Derived.Test.YtjgfbamloldkfaaDoorTie
import Derived.Lay
import Derived.LaidMore
import Derived.SevenTiedAt
import Derived.Stop.Joined
import Derived.Lib.LaidTab
import Derived.Stop.LaidErr
import Derived.WalkKit
import Derived.ProofKit
import Derived.OpenShut
import Derived.ShutString
import Derived.ChangeOld
import Derived.Below
import Derived.SizedLaws
namespace Go.Proofs.YtjgfbamloldkfaaDoor.fnExactFormatCracker
open Go.ChangeShapes Go.WideShapes Go.ChangeAt Go.RowKit Go.Proofs.YtjgfbamloldkfaaDoor.Open Go.Proofs.YtjgfbamloldkfaaDoor.PFnExactFormatCracker Go.Proofs.YtjgfbamloldkfaaDoorW.PrintWords Go.Proofs.YtjgfbamloldkfaaDoorW.PrintLast Go.Proofs.YtjgfbamloldkfaaDoorW.PrintMore
open Go.ChangeMaps (open_string shut_string)
set_option linter.unusedVariables false
theorem own : ownKnob Tryd.prog.godebug = none := by kernel_rfl
theorem laidOut : laidOutB Tryd.prog = true := by kernel_rfl
set_option maxRecDepth 100000 in
theorem o34 : Opens Tryd.prog 34 (Kd.slice 3 (Kd.int .i64)) (fun xs => (xs.length ≤ maxLen ∧ ∀ z ∈ xs, (Lit.int .i64 z).wf = true)) := opens_slice (e := 3) (e' := 3) Tryd.underlying34 (by kernel_rfl) (opens_int Tryd.underlying3)
set_option maxRecDepth 100000 in
theorem o124 : Opens Tryd.prog 124 k124 (fun x => ((Lit.int .i64 x.f0).wf = true ∧ (Lit.int .i64 x.f1).wf = true)) := opens_iso (opens_struct Tryd.underlying124 (by kernel_rfl) (opensF_cons (Q := fun x : Int => (Lit.int .i64 x).wf = true) (R := fun x : Int => (Lit.int .i64 x).wf = true) rfl (by kernel_rfl) (opens_int Tryd.underlying3) (opensF_last (Q := fun x : Int => (Lit.int .i64 x).wf = true) rfl (by kernel_rfl) (opens_int Tryd.underlying3)))) (fun x : S124 => (x.f0, x.f1)) (fun p => (⟨p.1, p.2⟩ : S124)) (fun _ => rfl)
set_option maxRecDepth 100000 in
theorem o35 : Opens Tryd.prog 35 (Kd.slice 124 k124) (fun xs => (xs.length ≤ maxLen ∧ ∀ z ∈ xs, ((Lit.int .i64 z.f0).wf = true ∧ (Lit.int .i64 z.f1).wf = true))) := opens_slice (e := 124) (e' := 124) Tryd.underlying35 (by kernel_rfl) o124
set_option maxRecDepth 100000 in
theorem oS37 : Opens Tryd.prog 37 (Kd.pair (Kd.slice 3 (Kd.int .i64)) (Kd.pair (Kd.slice 3 (Kd.int .i64)) (Kd.slice 124 k124))) (fun x => (x.1.length ≤ maxLen ∧ ∀ z ∈ x.1, (Lit.int .i64 z).wf = true) ∧ (x.2.1.length ≤ maxLen ∧ ∀ z ∈ x.2.1, (Lit.int .i64 z).wf = true) ∧ (x.2.2.length ≤ maxLen ∧ ∀ z ∈ x.2.2, ((Lit.int .i64 z.f0).wf = true ∧ (Lit.int .i64 z.f1).wf = true))) := opens_struct Tryd.underlying37 (by kernel_rfl) (opensF_cons (Q := fun x : List Int => (x.length ≤ maxLen ∧ ∀ z ∈ x, (Lit.int .i64 z).wf = true)) (R := fun x : List Int × List S124 => (x.1.length ≤ maxLen ∧ ∀ z ∈ x.1, (Lit.int .i64 z).wf = true) ∧ (x.2.length ≤ maxLen ∧ ∀ z ∈ x.2, ((Lit.int .i64 z.f0).wf = true ∧ (Lit.int .i64 z.f1).wf = true))) rfl (by kernel_rfl) o34 (opensF_cons (Q := fun x : List Int => (x.length ≤ maxLen ∧ ∀ z ∈ x, (Lit.int .i64 z).wf = true)) (R := fun x : List S124 => (x.length ≤ maxLen ∧ ∀ z ∈ x, ((Lit.int .i64 z.f0).wf = true ∧ (Lit.int .i64 z.f1).wf = true))) rfl (by kernel_rfl) o34 (opensF_last (Q := fun x : List S124 => (x.length ≤ maxLen ∧ ∀ z ∈ x, ((Lit.int .i64 z.f0).wf = true ∧ (Lit.int .i64 z.f1).wf = true))) rfl (by kernel_rfl) o35)))
theorem tabOk {W : World} (h : laidMetH Tryd.prog Rows.fnExactFormatCrackerRow.laid W) : TabOk W := by
 have hL : laidMet Tryd.prog Rows.fnExactFormatCrackerRow.laid W := by rw [MakeChecks.laidMetH_plain _ _ _ (by kernel_rfl)] at h; exact h
 exact Lib.tabIs_of_head (k := .u64) (zs := Lib.pow10Tab) (show Tryd.prog.globalNamed "internal/strconv.uint64pow10" = some 3 by kernel_rfl) (show (Tryd.prog.globals[3]?).map (·.type) = some 172 by kernel_rfl) Tryd.underlying172 Tryd.underlying158 (by kernel_rfl) (by kernel_rfl) (laidMet.tail (laidMet.tail hL))
set_option maxHeartbeats 1000000 in
set_option maxRecDepth 100000 in
theorem lifted (os : Os) (started : os.Started) (H : Type) (enc : TypeId × Value → H) :
  ReturnsInHanded {} Tryd.checked os 5 .any (fun w args => (Rows.fnExactFormatCrackerSpec.pre enc Tryd.prog Tryd.f5 Rows.fnExactFormatCrackerRow.domain false w args ∧ laidMetH Tryd.prog Rows.fnExactFormatCrackerRow.laid w) ∧ sizedMet enc Tryd.prog Tryd.f5 (OpenSpec.ofChange Rows.fnExactFormatCrackerSpec) false w args) (Rows.fnExactFormatCrackerSpec.post enc Tryd.prog Tryd.f5 false true false false) := by
 refine returnsInHanded_of_change_and (C := Tryd.checked) (X := fun w _ => laidMetH Tryd.prog Rows.fnExactFormatCrackerRow.laid w) (fun _ _ _ hh h => h.of_heap hh) own started (by kernel_rfl) Tryd.func5
  (ChangeSpec.witness_shaped (enc := enc) (C := Tryd.checked) (os := os) (X := fun w _ => laidMetH Tryd.prog Rows.fnExactFormatCrackerRow.laid w) false (World.laidAll Tryd.prog os Rows.fnExactFormatCrackerRow.laid) #[.agg #[.slice none 0 0, .slice none 0 0, .slice none 0 0]] 8 (World.laidAll_os _ _ _)
   (World.shaped_of_ZipB (by kernel_rfl) (by kernel_rfl)) (by kernel_rfl) (by kernel_rfl) (by kernel_rfl)
   (by rw [MakeChecks.laidMetH_plain _ _ _ (by kernel_rfl)]; exact laidMet_laidAll _ (by kernel_rfl) (by kernel_rfl))) ?_
 intro W base args ds gs before hval0 hW hcnd hsz0 hL _
 have hsz : (DataW.weightsEach Tryd.prog (Tryd.f5.params.toList ++ Rows.fnExactFormatCrackerSpec.plain.varTypes Tryd.prog) (ds ++ gs)).all (· ≤ reachBytes) = true := hsz0
 have hval : ∀ (j : Nat) t v, Tryd.f5.params[j]? = some t → args[j]? = some v → Value.okWide Tryd.prog W .any base t v := hval0
 have hW' := hW
 obtain ⟨p, q, hA0, hV, rfl, hfz, hnd⟩ := hW
 have hA : DataW.TrodAll enc Tryd.prog W 0 (fun _ => true) true Tryd.f5.params.toList args.toList ds p := hA0
 rw [Tryd.params5] at hA hval hsz
 obtain ⟨v0, vs0, d0, ds0, p0, q0, hargs, rfl, rfl, h0, r0⟩ := trodAll_cons hA
 obtain ⟨rfl, rfl, rfl⟩ := trodAll_nil r0
 obtain rfl : args = #[v0] := by cases args; simp_all
 obtain ⟨rfl, rfl⟩ := trodVars_none hV
 obtain ⟨cs0, rfl, hs0⟩ := okWide_struct Tryd.underlying37 (hval 0 37 v0 rfl rfl)
 have k0 := h0
 have lt0 : ∀ x ∈ p0, x.block < W.heap.size := by obtain ⟨m, hm⟩ := k0; exact DataW.trod_lt m _ _ _ hm
 obtain ⟨fuel0, hf0⟩ := h0
 obtain ⟨⟨l0_0, l0_1, l0_2⟩, hK0, hQ0⟩ := oS37 H enc W _ _ _ _ _ _ hf0
 obtain ⟨_, _, hcs0, ⟨A0_0, c0_0, rfl, hc0_0, hr0_0⟩, ⟨_, _, rfl, ⟨A0_1, c0_1, rfl, hc0_1, hr0_1⟩, ⟨A0_2, c0_2, rfl, hc0_2, hr0_2⟩⟩⟩ := hK0
 obtain rfl : cs0 = #[.slice A0_0 l0_0.length c0_0, .slice A0_1 l0_1.length c0_1, .slice A0_2 l0_2.length c0_2] := by cases cs0; simpa [Value.cells] using hcs0
 obtain ⟨w0_0, w0_1, w0_2⟩ := hQ0
 clear hA0 hval0 hsz0 hsz
 obtain ⟨k, hk⟩ := Pure.FnExactFormatCracker l0_0 l0_1 l0_2 w0_0 w0_1 w0_2
 refine (laws_FnExactFormatCracker.calls k A0_0 c0_0 l0_0 A0_1 c0_1 l0_1 A0_2 c0_2 l0_2 true W hr0_0 hc0_0 hr0_1 hc0_1 hr0_2 hc0_2 ⟨tabOk hL⟩ ⟨rfl⟩ hk).mono fun e W' he0 => ?_
 obtain ⟨he, bel⟩ := he0
 subst he
 exact ⟨_, rfl, _, _, _, [], _, [], hW', trodAll_mk1 (shut_bool Tryd.underlying4 _), (trodAll_cons_mk (Below.trod laidOut (by kernel_rfl) (of_decide_eq_true (by kernel_rfl)) k0 bel lt0) trodAll_mk0), rfl, bel.frame _, fun h => by cases h⟩
theorem over : Rows.fnExactFormatCrackerRow.holds Tryd.pinned (OpenSpec.ofChange Rows.fnExactFormatCrackerSpec) :=
 OpenClaim.holds_of_wide 5 Tryd.f5 rfl rfl rfl rfl rfl rfl rfl ⟨rfl, rfl, rfl, rfl, rfl⟩ rfl rfl rfl rfl rfl (by kernel_rfl) Tryd.func5 (by kernel_rfl)
  (of_decide_eq_true (by kernel_rfl)) (by unfold Func.isWrapper; first | (rw [if_pos (by decide +kernel)]; kernel_rfl) | (rw [if_neg (by decide +kernel)]; exact ⟨rfl, rfl⟩))
  (fun os started H enc _ => lifted os started H enc)
theorem plain (f : FuncId) (fn : Func) (hf : Tryd.pinned.checked.prog.funcNamed "loop.example/g01984/laws.FnExactFormatCracker" = some f) (hfn : Tryd.pinned.checked.prog.funcs[f]? = some fn) :
  true = Tryd.pinned.checked.prog.looks [] ∧ ∀ (j : Nat) t, fn.params[j]? = some t → Tryd.pinned.checked.prog.wantsStandIn t = false := by
 obtain rfl : f = 5 := Option.some.inj ((show Tryd.prog.funcNamed "loop.example/g01984/laws.FnExactFormatCracker" = some 5 by kernel_rfl).symm.trans hf) |>.symm
 obtain rfl : fn = Tryd.f5 := (Option.some.inj (Tryd.func5.symm.trans hfn)).symm
 refine ⟨by kernel_rfl, fun j t ht => ?_⟩
 rw [Tryd.params5] at ht
 have hm : t ∈ [37] := by have := Array.mem_of_getElem? ht; simp at this ⊢; omega
 have hall : ([37].all fun u => !Tryd.prog.wantsStandIn u) = true := by kernel_rfl
 exact (show Tryd.prog.wantsStandIn t = false by simpa using List.all_eq_true.1 hall t hm)
theorem proved : Rows.FnExactFormatCrackerCardSaid :=
 Claim7.holds_tied_plain_at .later [] _ _ _ _ over (fun _ h => by cases h) (by kernel_rfl) (fun _ h => by cases h) fnExactFormatCracker_row_tie rfl ⟨rfl, rfl⟩ (by kernel_rfl) rfl plain (by kernel_rfl)
end Go.Proofs.YtjgfbamloldkfaaDoor.fnExactFormatCracker
namespace Go.Proofs.YtjgfbamloldkfaaDoor
theorem fnExactFormatCracker_holds : Rows.FnExactFormatCrackerCardSaid := fnExactFormatCracker.proved
end Go.Proofs.YtjgfbamloldkfaaDoor
