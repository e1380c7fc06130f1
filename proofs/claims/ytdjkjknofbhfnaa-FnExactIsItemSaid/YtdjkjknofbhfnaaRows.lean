/-
  No cell of these rows narrows 'for every input' (looked for: loops, veiled, ifaces, maps, wideKeys, modest, calm, conditions, laid).
  DERIVED. THE GIVEN ROWS OF THIS SEAT. 12 by the template 'for every input the law returns true; each argument reads behind the call as it read before'; 0 by the template 'total and deterministic' (their statements: YtdjkjknofbhfnaaTotals.lean).
  GIVEN WITH THE SEED: the statements are not yours to turn. If you find one false, say at which input.
  Laid BY PROGRAM, IN A SANDBOX (cutbox-rows.mjs): the forced cells as the released guide's own fill.sh prints them over the translation 74b77664468b9b18… (all of the seat's roots in one cut). By AI agents, Wed Nov 11 2026. No macro, syntax, notation, axiom, sorry.
-/
import Derived.Test.YtdjkjknofbhfnaaChecked
import GoSem.Claim
import GoSem.ClaimJoined
import GoSem.ClaimMapViews
import Derived.JoinedTies
import Derived.KernelRfl
namespace Go.Proofs.Ytdjkjknofbhfnaa
/- THE CELL 'sum', in the pinned program and in every row, IS THE sha256 OF THE DUMP (.gsa) THAT YtdjkjknofbhfnaaProg.lean LOADS. Nothing in Lean hashes anything: it is a label: what it is worth is what the hold of that sum in a sandbox is worth. -/
noncomputable def Try.pinned : Pinned := { name := "ytdjkjknofbhfnaa", sum := "74b77664468b9b1843b58d6404143b019d9487ef62b5ebe8087f1228de85b92b", checked := Try.checked }
namespace Rows
def none {H : Type} : Left H := { results := [], args := [] }

/-- 'laws.FnExactConstants': WHATEVER THE INPUT: true; the input reads as it did. -/
def fnExactConstantsSpec : ChangeSpec := { name := "fnExactConstants", fn := fun _ => fun
  | [] => { results := [.lit (.bool true)], args := [] }
  | _ => none }
def fnExactConstantsRow : OpenClaim := { program := "ytdjkjknofbhfnaa", sum := "74b77664468b9b1843b58d6404143b019d9487ef62b5ebe8087f1228de85b92b", func := "loop.example/g01984/laws.FnExactConstants", spec := "fnExactConstants", apart := false }
def FnExactConstantsSaid : Prop := fnExactConstantsRow.holds Try.pinned (OpenSpec.ofChange fnExactConstantsSpec)

/-- ITS FALSE NEIGHBOUR: 'it returns false'. Refute it at one input. -/
def fnExactConstantsWrong : ChangeSpec := { name := "fnExactConstants", fn := fun _ => fun
  | [] => { results := [.lit (.bool false)], args := [] }
  | _ => none }
def FnExactConstantsWrongFalsely : Prop := fnExactConstantsRow.holds Try.pinned (OpenSpec.ofChange fnExactConstantsWrong)

/-- 'laws.FnExactNextSeed': WHATEVER THE INPUT: true; the input reads as it did. -/
def fnExactNextSeedSpec : ChangeSpec := { name := "fnExactNextSeed", fn := fun _ => fun
  | [d] => { results := [.lit (.bool true)], args := [d] }
  | _ => none }
def fnExactNextSeedRow : OpenClaim := { program := "ytdjkjknofbhfnaa", sum := "74b77664468b9b1843b58d6404143b019d9487ef62b5ebe8087f1228de85b92b", func := "loop.example/g01984/laws.FnExactNextSeed", spec := "fnExactNextSeed", apart := false }
def FnExactNextSeedSaid : Prop := fnExactNextSeedRow.holds Try.pinned (OpenSpec.ofChange fnExactNextSeedSpec)

/-- ITS FALSE NEIGHBOUR: 'it returns false'. Refute it at one input. -/
def fnExactNextSeedWrong : ChangeSpec := { name := "fnExactNextSeed", fn := fun _ => fun
  | [d] => { results := [.lit (.bool false)], args := [d] }
  | _ => none }
def FnExactNextSeedWrongFalsely : Prop := fnExactNextSeedRow.holds Try.pinned (OpenSpec.ofChange fnExactNextSeedWrong)

/-- 'laws.FnExactPolicyName': WHATEVER THE INPUT: true; the input reads as it did. -/
def fnExactPolicyNameSpec : ChangeSpec := { name := "fnExactPolicyName", fn := fun _ => fun
  | [d] => { results := [.lit (.bool true)], args := [d] }
  | _ => none }
def fnExactPolicyNameRow : OpenClaim := { program := "ytdjkjknofbhfnaa", sum := "74b77664468b9b1843b58d6404143b019d9487ef62b5ebe8087f1228de85b92b", func := "loop.example/g01984/laws.FnExactPolicyName", spec := "fnExactPolicyName", apart := false }
def FnExactPolicyNameSaid : Prop := fnExactPolicyNameRow.holds Try.pinned (OpenSpec.ofChange fnExactPolicyNameSpec)

/-- ITS FALSE NEIGHBOUR: 'it returns false'. Refute it at one input. -/
def fnExactPolicyNameWrong : ChangeSpec := { name := "fnExactPolicyName", fn := fun _ => fun
  | [d] => { results := [.lit (.bool false)], args := [d] }
  | _ => none }
def FnExactPolicyNameWrongFalsely : Prop := fnExactPolicyNameRow.holds Try.pinned (OpenSpec.ofChange fnExactPolicyNameWrong)

/-- 'laws.FnExactIsItem': WHATEVER THE INPUT: true; the input reads as it did. -/
def fnExactIsItemSpec : ChangeSpec := { name := "fnExactIsItem", fn := fun _ => fun
  | [d] => { results := [.lit (.bool true)], args := [d] }
  | _ => none }
def fnExactIsItemRow : OpenClaim := { program := "ytdjkjknofbhfnaa", sum := "74b77664468b9b1843b58d6404143b019d9487ef62b5ebe8087f1228de85b92b", func := "loop.example/g01984/laws.FnExactIsItem", spec := "fnExactIsItem", apart := false }
def FnExactIsItemSaid : Prop := fnExactIsItemRow.holds Try.pinned (OpenSpec.ofChange fnExactIsItemSpec)

/-- ITS FALSE NEIGHBOUR: 'it returns false'. Refute it at one input. -/
def fnExactIsItemWrong : ChangeSpec := { name := "fnExactIsItem", fn := fun _ => fun
  | [d] => { results := [.lit (.bool false)], args := [d] }
  | _ => none }
def FnExactIsItemWrongFalsely : Prop := fnExactIsItemRow.holds Try.pinned (OpenSpec.ofChange fnExactIsItemWrong)

/-- 'laws.FnExactIsRange': WHATEVER THE INPUT: true; the input reads as it did. -/
def fnExactIsRangeSpec : ChangeSpec := { name := "fnExactIsRange", fn := fun _ => fun
  | [d] => { results := [.lit (.bool true)], args := [d] }
  | _ => none }
def fnExactIsRangeRow : OpenClaim := { program := "ytdjkjknofbhfnaa", sum := "74b77664468b9b1843b58d6404143b019d9487ef62b5ebe8087f1228de85b92b", func := "loop.example/g01984/laws.FnExactIsRange", spec := "fnExactIsRange", apart := false }
def FnExactIsRangeSaid : Prop := fnExactIsRangeRow.holds Try.pinned (OpenSpec.ofChange fnExactIsRangeSpec)

/-- ITS FALSE NEIGHBOUR: 'it returns false'. Refute it at one input. -/
def fnExactIsRangeWrong : ChangeSpec := { name := "fnExactIsRange", fn := fun _ => fun
  | [d] => { results := [.lit (.bool false)], args := [d] }
  | _ => none }
def FnExactIsRangeWrongFalsely : Prop := fnExactIsRangeRow.holds Try.pinned (OpenSpec.ofChange fnExactIsRangeWrong)

/-- 'laws.FnExactIsSettings': WHATEVER THE INPUT: true; the input reads as it did. -/
def fnExactIsSettingsSpec : ChangeSpec := { name := "fnExactIsSettings", fn := fun _ => fun
  | [d] => { results := [.lit (.bool true)], args := [d] }
  | _ => none }
def fnExactIsSettingsRow : OpenClaim := { program := "ytdjkjknofbhfnaa", sum := "74b77664468b9b1843b58d6404143b019d9487ef62b5ebe8087f1228de85b92b", func := "loop.example/g01984/laws.FnExactIsSettings", spec := "fnExactIsSettings", apart := false }
def FnExactIsSettingsSaid : Prop := fnExactIsSettingsRow.holds Try.pinned (OpenSpec.ofChange fnExactIsSettingsSpec)

/-- ITS FALSE NEIGHBOUR: 'it returns false'. Refute it at one input. -/
def fnExactIsSettingsWrong : ChangeSpec := { name := "fnExactIsSettings", fn := fun _ => fun
  | [d] => { results := [.lit (.bool false)], args := [d] }
  | _ => none }
def FnExactIsSettingsWrongFalsely : Prop := fnExactIsSettingsRow.holds Try.pinned (OpenSpec.ofChange fnExactIsSettingsWrong)

/-- 'laws.FnExactEncodeHex': WHATEVER THE INPUT: true; the input reads as it did. -/
def fnExactEncodeHexSpec : ChangeSpec := { name := "fnExactEncodeHex", fn := fun _ => fun
  | [d] => { results := [.lit (.bool true)], args := [d] }
  | _ => none }
def fnExactEncodeHexRow : OpenClaim := { program := "ytdjkjknofbhfnaa", sum := "74b77664468b9b1843b58d6404143b019d9487ef62b5ebe8087f1228de85b92b", func := "loop.example/g01984/laws.FnExactEncodeHex", spec := "fnExactEncodeHex", apart := false }
def FnExactEncodeHexSaid : Prop := fnExactEncodeHexRow.holds Try.pinned (OpenSpec.ofChange fnExactEncodeHexSpec)

/-- ITS FALSE NEIGHBOUR: 'it returns false'. Refute it at one input. -/
def fnExactEncodeHexWrong : ChangeSpec := { name := "fnExactEncodeHex", fn := fun _ => fun
  | [d] => { results := [.lit (.bool false)], args := [d] }
  | _ => none }
def FnExactEncodeHexWrongFalsely : Prop := fnExactEncodeHexRow.holds Try.pinned (OpenSpec.ofChange fnExactEncodeHexWrong)

/-- 'laws.FnRipples': WHATEVER THE INPUT: true; the input reads as it did. -/
def fnRipplesSpec : ChangeSpec := { name := "fnRipples", fn := fun _ => fun
  | [d] => { results := [.lit (.bool true)], args := [d] }
  | _ => none }
def fnRipplesRow : OpenClaim := { program := "ytdjkjknofbhfnaa", sum := "74b77664468b9b1843b58d6404143b019d9487ef62b5ebe8087f1228de85b92b", func := "loop.example/g01984/laws.FnRipples", spec := "fnRipples", unfollowed := true, recurses := true, apart := false }
def FnRipplesSaid : Prop := fnRipplesRow.holds Try.pinned (OpenSpec.ofChange fnRipplesSpec)

/-- ITS FALSE NEIGHBOUR: 'it returns false'. Refute it at one input. -/
def fnRipplesWrong : ChangeSpec := { name := "fnRipples", fn := fun _ => fun
  | [d] => { results := [.lit (.bool false)], args := [d] }
  | _ => none }
def FnRipplesWrongFalsely : Prop := fnRipplesRow.holds Try.pinned (OpenSpec.ofChange fnRipplesWrong)

/-- 'laws.FnExactLevels': WHATEVER THE INPUT: true; the input reads as it did. -/
def fnExactLevelsSpec : ChangeSpec := { name := "fnExactLevels", fn := fun _ => fun
  | [d1, d2] => { results := [.lit (.bool true)], args := [d1, d2] }
  | _ => none }
def fnExactLevelsRow : OpenClaim := { program := "ytdjkjknofbhfnaa", sum := "74b77664468b9b1843b58d6404143b019d9487ef62b5ebe8087f1228de85b92b", func := "loop.example/g01984/laws.FnExactLevels", spec := "fnExactLevels", apart := false }
def FnExactLevelsSaid : Prop := fnExactLevelsRow.holds Try.pinned (OpenSpec.ofChange fnExactLevelsSpec)

/-- ITS FALSE NEIGHBOUR: 'it returns false'. Refute it at one input. -/
def fnExactLevelsWrong : ChangeSpec := { name := "fnExactLevels", fn := fun _ => fun
  | [d1, d2] => { results := [.lit (.bool false)], args := [d1, d2] }
  | _ => none }
def FnExactLevelsWrongFalsely : Prop := fnExactLevelsRow.holds Try.pinned (OpenSpec.ofChange fnExactLevelsWrong)

/-- 'laws.FnExactIsName': WHATEVER THE INPUT: true; the input reads as it did. -/
def fnExactIsNameSpec : ChangeSpec := { name := "fnExactIsName", fn := fun _ => fun
  | [d] => { results := [.lit (.bool true)], args := [d] }
  | _ => none }
def fnExactIsNameRow : OpenClaim := { program := "ytdjkjknofbhfnaa", sum := "74b77664468b9b1843b58d6404143b019d9487ef62b5ebe8087f1228de85b92b", func := "loop.example/g01984/laws.FnExactIsName", spec := "fnExactIsName", apart := false }
def FnExactIsNameSaid : Prop := fnExactIsNameRow.holds Try.pinned (OpenSpec.ofChange fnExactIsNameSpec)

/-- ITS FALSE NEIGHBOUR: 'it returns false'. Refute it at one input. -/
def fnExactIsNameWrong : ChangeSpec := { name := "fnExactIsName", fn := fun _ => fun
  | [d] => { results := [.lit (.bool false)], args := [d] }
  | _ => none }
def FnExactIsNameWrongFalsely : Prop := fnExactIsNameRow.holds Try.pinned (OpenSpec.ofChange fnExactIsNameWrong)

/-- 'laws.FnExactInRange': WHATEVER THE INPUT: true; the input reads as it did. -/
def fnExactInRangeSpec : ChangeSpec := { name := "fnExactInRange", fn := fun _ => fun
  | [d1, d2] => { results := [.lit (.bool true)], args := [d1, d2] }
  | _ => none }
def fnExactInRangeRow : OpenClaim := { program := "ytdjkjknofbhfnaa", sum := "74b77664468b9b1843b58d6404143b019d9487ef62b5ebe8087f1228de85b92b", func := "loop.example/g01984/laws.FnExactInRange", spec := "fnExactInRange", apart := false }
def FnExactInRangeSaid : Prop := fnExactInRangeRow.holds Try.pinned (OpenSpec.ofChange fnExactInRangeSpec)

/-- ITS FALSE NEIGHBOUR: 'it returns false'. Refute it at one input. -/
def fnExactInRangeWrong : ChangeSpec := { name := "fnExactInRange", fn := fun _ => fun
  | [d1, d2] => { results := [.lit (.bool false)], args := [d1, d2] }
  | _ => none }
def FnExactInRangeWrongFalsely : Prop := fnExactInRangeRow.holds Try.pinned (OpenSpec.ofChange fnExactInRangeWrong)

/-- 'laws.FnExactDecodeFixed': WHATEVER THE INPUT: true; the input reads as it did. -/
def fnExactDecodeFixedSpec : ChangeSpec := { name := "fnExactDecodeFixed", fn := fun _ => fun
  | [d1, d2] => { results := [.lit (.bool true)], args := [d1, d2] }
  | _ => none }
def fnExactDecodeFixedRow : OpenClaim := { program := "ytdjkjknofbhfnaa", sum := "74b77664468b9b1843b58d6404143b019d9487ef62b5ebe8087f1228de85b92b", func := "loop.example/g01984/laws.FnExactDecodeFixed", spec := "fnExactDecodeFixed", apart := false }
def FnExactDecodeFixedSaid : Prop := fnExactDecodeFixedRow.holds Try.pinned (OpenSpec.ofChange fnExactDecodeFixedSpec)

/-- ITS FALSE NEIGHBOUR: 'it returns false'. Refute it at one input. -/
def fnExactDecodeFixedWrong : ChangeSpec := { name := "fnExactDecodeFixed", fn := fun _ => fun
  | [d1, d2] => { results := [.lit (.bool false)], args := [d1, d2] }
  | _ => none }
def FnExactDecodeFixedWrongFalsely : Prop := fnExactDecodeFixedRow.holds Try.pinned (OpenSpec.ofChange fnExactDecodeFixedWrong)

/- THE SECOND FORM. 'bulk': how many values and letters a reading holds, each counted each time it is reached (what is shared counts as often as it is met; a slice's spare places count too). A statement '..UptoSaid' is the law's where the arguments, and the package variables that the reading takes, are together of bulk at most 1048576: NARROWER than '..Said'. Prove '..Said' where nothing that the law and all that it calls make is longer than what came in: it says more and counts as full. Else prove '..UptoSaid'. A law counts once. -/
mutual
def uptoBulk {H : Type} : DataW H → Nat
  | .lit (.string bytes) => bytes.length + 1
  | .lit _ => 1
  | .nil => 1
  | .ptr d => uptoBulk d + 1
  | .slice elems spare => uptoBulkAll elems + uptoBulkAll spare + 1
  | .agg parts => uptoBulkAll parts + 1
  | .iface _ d => uptoBulk d + 1
  | .map entries => uptoBulkEntries entries + 1
  | .held _ => 1
def uptoBulkAll {H : Type} : List (DataW H) → Nat
  | [] => 0
  | d :: r => uptoBulk d + uptoBulkAll r
def uptoBulkEntries {H : Type} : List (Lit × DataW H) → Nat
  | [] => 0
  | x :: r => uptoBulkEntry x + uptoBulkEntries r
def uptoBulkEntry {H : Type} : Lit × DataW H → Nat
  | (.string bytes, d) => bytes.length + uptoBulk d + 1
  | (_, d) => uptoBulk d + 1
 end
def uptoSmall : (H : Type) → List (DataW H) → Bool := fun _ ds => decide (uptoBulkAll ds ≤ 1048576)
def OpenSpec.upto (s : _root_.Go.ChangeSpec) : _root_.Go.OpenSpec := { _root_.Go.OpenSpec.ofChange s with cond := some uptoSmall }

/-- 'laws.FnExactConstants', WHERE WHAT IT READS IS OF BULK AT MOST 1048576: true; the input reads as it did. -/
def fnExactConstantsUptoRow : OpenClaim := { program := "ytdjkjknofbhfnaa", sum := "74b77664468b9b1843b58d6404143b019d9487ef62b5ebe8087f1228de85b92b", func := "loop.example/g01984/laws.FnExactConstants", spec := "fnExactConstants", apart := false, narrowed := true }
def FnExactConstantsUptoSaid : Prop := fnExactConstantsUptoRow.holds Try.pinned (OpenSpec.upto fnExactConstantsSpec)

/-- 'laws.FnExactNextSeed', WHERE WHAT IT READS IS OF BULK AT MOST 1048576: true; the input reads as it did. -/
def fnExactNextSeedUptoRow : OpenClaim := { program := "ytdjkjknofbhfnaa", sum := "74b77664468b9b1843b58d6404143b019d9487ef62b5ebe8087f1228de85b92b", func := "loop.example/g01984/laws.FnExactNextSeed", spec := "fnExactNextSeed", apart := false, narrowed := true }
def FnExactNextSeedUptoSaid : Prop := fnExactNextSeedUptoRow.holds Try.pinned (OpenSpec.upto fnExactNextSeedSpec)

/-- 'laws.FnExactPolicyName', WHERE WHAT IT READS IS OF BULK AT MOST 1048576: true; the input reads as it did. -/
def fnExactPolicyNameUptoRow : OpenClaim := { program := "ytdjkjknofbhfnaa", sum := "74b77664468b9b1843b58d6404143b019d9487ef62b5ebe8087f1228de85b92b", func := "loop.example/g01984/laws.FnExactPolicyName", spec := "fnExactPolicyName", apart := false, narrowed := true }
def FnExactPolicyNameUptoSaid : Prop := fnExactPolicyNameUptoRow.holds Try.pinned (OpenSpec.upto fnExactPolicyNameSpec)

/-- 'laws.FnExactIsItem', WHERE WHAT IT READS IS OF BULK AT MOST 1048576: true; the input reads as it did. -/
def fnExactIsItemUptoRow : OpenClaim := { program := "ytdjkjknofbhfnaa", sum := "74b77664468b9b1843b58d6404143b019d9487ef62b5ebe8087f1228de85b92b", func := "loop.example/g01984/laws.FnExactIsItem", spec := "fnExactIsItem", apart := false, narrowed := true }
def FnExactIsItemUptoSaid : Prop := fnExactIsItemUptoRow.holds Try.pinned (OpenSpec.upto fnExactIsItemSpec)

/-- 'laws.FnExactIsRange', WHERE WHAT IT READS IS OF BULK AT MOST 1048576: true; the input reads as it did. -/
def fnExactIsRangeUptoRow : OpenClaim := { program := "ytdjkjknofbhfnaa", sum := "74b77664468b9b1843b58d6404143b019d9487ef62b5ebe8087f1228de85b92b", func := "loop.example/g01984/laws.FnExactIsRange", spec := "fnExactIsRange", apart := false, narrowed := true }
def FnExactIsRangeUptoSaid : Prop := fnExactIsRangeUptoRow.holds Try.pinned (OpenSpec.upto fnExactIsRangeSpec)

/-- 'laws.FnExactIsSettings', WHERE WHAT IT READS IS OF BULK AT MOST 1048576: true; the input reads as it did. -/
def fnExactIsSettingsUptoRow : OpenClaim := { program := "ytdjkjknofbhfnaa", sum := "74b77664468b9b1843b58d6404143b019d9487ef62b5ebe8087f1228de85b92b", func := "loop.example/g01984/laws.FnExactIsSettings", spec := "fnExactIsSettings", apart := false, narrowed := true }
def FnExactIsSettingsUptoSaid : Prop := fnExactIsSettingsUptoRow.holds Try.pinned (OpenSpec.upto fnExactIsSettingsSpec)

/-- 'laws.FnExactEncodeHex', WHERE WHAT IT READS IS OF BULK AT MOST 1048576: true; the input reads as it did. -/
def fnExactEncodeHexUptoRow : OpenClaim := { program := "ytdjkjknofbhfnaa", sum := "74b77664468b9b1843b58d6404143b019d9487ef62b5ebe8087f1228de85b92b", func := "loop.example/g01984/laws.FnExactEncodeHex", spec := "fnExactEncodeHex", apart := false, narrowed := true }
def FnExactEncodeHexUptoSaid : Prop := fnExactEncodeHexUptoRow.holds Try.pinned (OpenSpec.upto fnExactEncodeHexSpec)

/-- 'laws.FnRipples', WHERE WHAT IT READS IS OF BULK AT MOST 1048576: true; the input reads as it did. -/
def fnRipplesUptoRow : OpenClaim := { program := "ytdjkjknofbhfnaa", sum := "74b77664468b9b1843b58d6404143b019d9487ef62b5ebe8087f1228de85b92b", func := "loop.example/g01984/laws.FnRipples", spec := "fnRipples", unfollowed := true, recurses := true, apart := false, narrowed := true }
def FnRipplesUptoSaid : Prop := fnRipplesUptoRow.holds Try.pinned (OpenSpec.upto fnRipplesSpec)

/-- 'laws.FnExactLevels', WHERE WHAT IT READS IS OF BULK AT MOST 1048576: true; the input reads as it did. -/
def fnExactLevelsUptoRow : OpenClaim := { program := "ytdjkjknofbhfnaa", sum := "74b77664468b9b1843b58d6404143b019d9487ef62b5ebe8087f1228de85b92b", func := "loop.example/g01984/laws.FnExactLevels", spec := "fnExactLevels", apart := false, narrowed := true }
def FnExactLevelsUptoSaid : Prop := fnExactLevelsUptoRow.holds Try.pinned (OpenSpec.upto fnExactLevelsSpec)

/-- 'laws.FnExactIsName', WHERE WHAT IT READS IS OF BULK AT MOST 1048576: true; the input reads as it did. -/
def fnExactIsNameUptoRow : OpenClaim := { program := "ytdjkjknofbhfnaa", sum := "74b77664468b9b1843b58d6404143b019d9487ef62b5ebe8087f1228de85b92b", func := "loop.example/g01984/laws.FnExactIsName", spec := "fnExactIsName", apart := false, narrowed := true }
def FnExactIsNameUptoSaid : Prop := fnExactIsNameUptoRow.holds Try.pinned (OpenSpec.upto fnExactIsNameSpec)

/-- 'laws.FnExactInRange', WHERE WHAT IT READS IS OF BULK AT MOST 1048576: true; the input reads as it did. -/
def fnExactInRangeUptoRow : OpenClaim := { program := "ytdjkjknofbhfnaa", sum := "74b77664468b9b1843b58d6404143b019d9487ef62b5ebe8087f1228de85b92b", func := "loop.example/g01984/laws.FnExactInRange", spec := "fnExactInRange", apart := false, narrowed := true }
def FnExactInRangeUptoSaid : Prop := fnExactInRangeUptoRow.holds Try.pinned (OpenSpec.upto fnExactInRangeSpec)

/-- 'laws.FnExactDecodeFixed', WHERE WHAT IT READS IS OF BULK AT MOST 1048576: true; the input reads as it did. -/
def fnExactDecodeFixedUptoRow : OpenClaim := { program := "ytdjkjknofbhfnaa", sum := "74b77664468b9b1843b58d6404143b019d9487ef62b5ebe8087f1228de85b92b", func := "loop.example/g01984/laws.FnExactDecodeFixed", spec := "fnExactDecodeFixed", apart := false, narrowed := true }
def FnExactDecodeFixedUptoSaid : Prop := fnExactDecodeFixedUptoRow.holds Try.pinned (OpenSpec.upto fnExactDecodeFixedSpec)

end Rows
end Go.Proofs.Ytdjkjknofbhfnaa
