/-
  No cell of these rows narrows 'for every input' (looked for: loops, veiled, ifaces, maps, wideKeys, modest, calm, conditions, laid).
  DERIVED. THE GIVEN ROWS OF THIS SEAT. 8 by the template 'for every input the law returns true; each argument reads behind the call as it read before'; 0 by the template 'total and deterministic' (their statements: YtaggfcghkfkngaaTotals.lean).
  GIVEN WITH THE SEED: the statements are not yours to turn. If you find one false, say at which input.
  Laid BY PROGRAM, IN A SANDBOX (cutbox-rows.mjs): the forced cells as the released guide's own fill.sh prints them over the translation afcb1be14773a9ba… (all of the seat's roots in one cut). By AI agents, Wed Nov 11 2026. No macro, syntax, notation, axiom, sorry.
-/
import Derived.Test.YtaggfcghkfkngaaChecked
import GoSem.Claim
import GoSem.ClaimJoined
import GoSem.ClaimMapViews
import Derived.JoinedTies
import Derived.KernelRfl
namespace Go.Proofs.Ytaggfcghkfkngaa
/- THE CELL 'sum', in the pinned program and in every row, IS THE sha256 OF THE DUMP (.gsa) THAT YtaggfcghkfkngaaProg.lean LOADS. Nothing in Lean hashes anything: it is a label: what it is worth is what the hold of that sum in a sandbox is worth. -/
noncomputable def Try.pinned : Pinned := { name := "ytaggfcghkfkngaa", sum := "afcb1be14773a9bad2ad11d38f47a1bf3fba4d9a86c277c6da2b89e1e7147c98", checked := Try.checked }
namespace Rows
def none {H : Type} : Left H := { results := [], args := [] }

/-- 'laws.FnExactPointOf': WHATEVER THE INPUT: true; the input reads as it did. -/
def fnExactPointOfSpec : ChangeSpec := { name := "fnExactPointOf", fn := fun _ => fun
  | [d1, d2, d3] => { results := [.lit (.bool true)], args := [d1, d2, d3] }
  | _ => none }
def fnExactPointOfRow : OpenClaim := { program := "ytaggfcghkfkngaa", sum := "afcb1be14773a9bad2ad11d38f47a1bf3fba4d9a86c277c6da2b89e1e7147c98", func := "loop.example/promotionengine/laws.FnExactPointOf", spec := "fnExactPointOf", apart := false }
def FnExactPointOfSaid : Prop := fnExactPointOfRow.holds Try.pinned (OpenSpec.ofChange fnExactPointOfSpec)

/-- ITS FALSE NEIGHBOUR: 'it returns false'. Refute it at one input. -/
def fnExactPointOfWrong : ChangeSpec := { name := "fnExactPointOf", fn := fun _ => fun
  | [d1, d2, d3] => { results := [.lit (.bool false)], args := [d1, d2, d3] }
  | _ => none }
def FnExactPointOfWrongFalsely : Prop := fnExactPointOfRow.holds Try.pinned (OpenSpec.ofChange fnExactPointOfWrong)

/-- 'laws.FnEffectOf': WHATEVER THE INPUT: true; the input reads as it did. -/
def fnEffectOfSpec : ChangeSpec := { name := "fnEffectOf", fn := fun _ => fun
  | [d] => { results := [.lit (.bool true)], args := [d] }
  | _ => none }
def fnEffectOfRow : OpenClaim := { program := "ytaggfcghkfkngaa", sum := "afcb1be14773a9bad2ad11d38f47a1bf3fba4d9a86c277c6da2b89e1e7147c98", func := "loop.example/promotionengine/laws.FnEffectOf", spec := "fnEffectOf", apart := false }
def FnEffectOfSaid : Prop := fnEffectOfRow.holds Try.pinned (OpenSpec.ofChange fnEffectOfSpec)

/-- ITS FALSE NEIGHBOUR: 'it returns false'. Refute it at one input. -/
def fnEffectOfWrong : ChangeSpec := { name := "fnEffectOf", fn := fun _ => fun
  | [d] => { results := [.lit (.bool false)], args := [d] }
  | _ => none }
def FnEffectOfWrongFalsely : Prop := fnEffectOfRow.holds Try.pinned (OpenSpec.ofChange fnEffectOfWrong)

/-- 'laws.FnEffectOfLines': WHATEVER THE INPUT: true; the input reads as it did. -/
def fnEffectOfLinesSpec : ChangeSpec := { name := "fnEffectOfLines", fn := fun _ => fun
  | [d] => { results := [.lit (.bool true)], args := [d] }
  | _ => none }
def fnEffectOfLinesRow : OpenClaim := { program := "ytaggfcghkfkngaa", sum := "afcb1be14773a9bad2ad11d38f47a1bf3fba4d9a86c277c6da2b89e1e7147c98", func := "loop.example/promotionengine/laws.FnEffectOfLines", spec := "fnEffectOfLines", apart := false }
def FnEffectOfLinesSaid : Prop := fnEffectOfLinesRow.holds Try.pinned (OpenSpec.ofChange fnEffectOfLinesSpec)

/-- ITS FALSE NEIGHBOUR: 'it returns false'. Refute it at one input. -/
def fnEffectOfLinesWrong : ChangeSpec := { name := "fnEffectOfLines", fn := fun _ => fun
  | [d] => { results := [.lit (.bool false)], args := [d] }
  | _ => none }
def FnEffectOfLinesWrongFalsely : Prop := fnEffectOfLinesRow.holds Try.pinned (OpenSpec.ofChange fnEffectOfLinesWrong)

/-- 'laws.FnEffectOfAmount': WHATEVER THE INPUT: true; the input reads as it did. -/
def fnEffectOfAmountSpec : ChangeSpec := { name := "fnEffectOfAmount", fn := fun _ => fun
  | [d] => { results := [.lit (.bool true)], args := [d] }
  | _ => none }
def fnEffectOfAmountRow : OpenClaim := { program := "ytaggfcghkfkngaa", sum := "afcb1be14773a9bad2ad11d38f47a1bf3fba4d9a86c277c6da2b89e1e7147c98", func := "loop.example/promotionengine/laws.FnEffectOfAmount", spec := "fnEffectOfAmount", apart := false }
def FnEffectOfAmountSaid : Prop := fnEffectOfAmountRow.holds Try.pinned (OpenSpec.ofChange fnEffectOfAmountSpec)

/-- ITS FALSE NEIGHBOUR: 'it returns false'. Refute it at one input. -/
def fnEffectOfAmountWrong : ChangeSpec := { name := "fnEffectOfAmount", fn := fun _ => fun
  | [d] => { results := [.lit (.bool false)], args := [d] }
  | _ => none }
def FnEffectOfAmountWrongFalsely : Prop := fnEffectOfAmountRow.holds Try.pinned (OpenSpec.ofChange fnEffectOfAmountWrong)

/-- 'laws.FnEffectOfCap': WHATEVER THE INPUT: true; the input reads as it did. -/
def fnEffectOfCapSpec : ChangeSpec := { name := "fnEffectOfCap", fn := fun _ => fun
  | [d] => { results := [.lit (.bool true)], args := [d] }
  | _ => none }
def fnEffectOfCapRow : OpenClaim := { program := "ytaggfcghkfkngaa", sum := "afcb1be14773a9bad2ad11d38f47a1bf3fba4d9a86c277c6da2b89e1e7147c98", func := "loop.example/promotionengine/laws.FnEffectOfCap", spec := "fnEffectOfCap", apart := false }
def FnEffectOfCapSaid : Prop := fnEffectOfCapRow.holds Try.pinned (OpenSpec.ofChange fnEffectOfCapSpec)

/-- ITS FALSE NEIGHBOUR: 'it returns false'. Refute it at one input. -/
def fnEffectOfCapWrong : ChangeSpec := { name := "fnEffectOfCap", fn := fun _ => fun
  | [d] => { results := [.lit (.bool false)], args := [d] }
  | _ => none }
def FnEffectOfCapWrongFalsely : Prop := fnEffectOfCapRow.holds Try.pinned (OpenSpec.ofChange fnEffectOfCapWrong)

/-- 'laws.FnEffectOfGroup': WHATEVER THE INPUT: true; the input reads as it did. -/
def fnEffectOfGroupSpec : ChangeSpec := { name := "fnEffectOfGroup", fn := fun _ => fun
  | [d] => { results := [.lit (.bool true)], args := [d] }
  | _ => none }
def fnEffectOfGroupRow : OpenClaim := { program := "ytaggfcghkfkngaa", sum := "afcb1be14773a9bad2ad11d38f47a1bf3fba4d9a86c277c6da2b89e1e7147c98", func := "loop.example/promotionengine/laws.FnEffectOfGroup", spec := "fnEffectOfGroup", apart := false }
def FnEffectOfGroupSaid : Prop := fnEffectOfGroupRow.holds Try.pinned (OpenSpec.ofChange fnEffectOfGroupSpec)

/-- ITS FALSE NEIGHBOUR: 'it returns false'. Refute it at one input. -/
def fnEffectOfGroupWrong : ChangeSpec := { name := "fnEffectOfGroup", fn := fun _ => fun
  | [d] => { results := [.lit (.bool false)], args := [d] }
  | _ => none }
def FnEffectOfGroupWrongFalsely : Prop := fnEffectOfGroupRow.holds Try.pinned (OpenSpec.ofChange fnEffectOfGroupWrong)

/-- 'laws.FnEffectOfNothing': WHATEVER THE INPUT: true; the input reads as it did. -/
def fnEffectOfNothingSpec : ChangeSpec := { name := "fnEffectOfNothing", fn := fun _ => fun
  | [d] => { results := [.lit (.bool true)], args := [d] }
  | _ => none }
def fnEffectOfNothingRow : OpenClaim := { program := "ytaggfcghkfkngaa", sum := "afcb1be14773a9bad2ad11d38f47a1bf3fba4d9a86c277c6da2b89e1e7147c98", func := "loop.example/promotionengine/laws.FnEffectOfNothing", spec := "fnEffectOfNothing", apart := false }
def FnEffectOfNothingSaid : Prop := fnEffectOfNothingRow.holds Try.pinned (OpenSpec.ofChange fnEffectOfNothingSpec)

/-- ITS FALSE NEIGHBOUR: 'it returns false'. Refute it at one input. -/
def fnEffectOfNothingWrong : ChangeSpec := { name := "fnEffectOfNothing", fn := fun _ => fun
  | [d] => { results := [.lit (.bool false)], args := [d] }
  | _ => none }
def FnEffectOfNothingWrongFalsely : Prop := fnEffectOfNothingRow.holds Try.pinned (OpenSpec.ofChange fnEffectOfNothingWrong)

/-- 'laws.FnExactEffectOf': WHATEVER THE INPUT: true; the input reads as it did. -/
def fnExactEffectOfSpec : ChangeSpec := { name := "fnExactEffectOf", fn := fun _ => fun
  | [d1, d2, d3, d4] => { results := [.lit (.bool true)], args := [d1, d2, d3, d4] }
  | _ => none }
def fnExactEffectOfRow : OpenClaim := { program := "ytaggfcghkfkngaa", sum := "afcb1be14773a9bad2ad11d38f47a1bf3fba4d9a86c277c6da2b89e1e7147c98", func := "loop.example/promotionengine/laws.FnExactEffectOf", spec := "fnExactEffectOf", apart := false }
def FnExactEffectOfSaid : Prop := fnExactEffectOfRow.holds Try.pinned (OpenSpec.ofChange fnExactEffectOfSpec)

/-- ITS FALSE NEIGHBOUR: 'it returns false'. Refute it at one input. -/
def fnExactEffectOfWrong : ChangeSpec := { name := "fnExactEffectOf", fn := fun _ => fun
  | [d1, d2, d3, d4] => { results := [.lit (.bool false)], args := [d1, d2, d3, d4] }
  | _ => none }
def FnExactEffectOfWrongFalsely : Prop := fnExactEffectOfRow.holds Try.pinned (OpenSpec.ofChange fnExactEffectOfWrong)

/- THE SECOND FORM. 'bulk': how many values and letters a reading holds, each counted each time it is reached (what is shared counts as often as it is met; a slice's spare places count too). A statement '..UptoSaid' is the law's where the arguments, and the package variables that the reading takes, are together of bulk at most 1048576: NARROWER than '..Said'. Prove '..Said' where nothing that the law and all that it calls make is longer than what came in: it says more and counts as full. Else prove '..UptoSaid'. A law counts once. -/
mutual
def uptoBulk {H : Type} : DataW H → Nat
  | .lit (.string bytes) => bytes.length + 1
  | .lit _ => 1
  | .nil => 1
  | .ptr d => uptoBulk d + 1
  | .slice elems spare => uptoBulkAll elems + uptoBulkAll spare + 1
  | .agg parts => uptoBulkAll parts + 1
  | .iface _ d => uptoBulk d + 1
  | .map entries => uptoBulkEntries entries + 1
  | .held _ => 1
def uptoBulkAll {H : Type} : List (DataW H) → Nat
  | [] => 0
  | d :: r => uptoBulk d + uptoBulkAll r
def uptoBulkEntries {H : Type} : List (Lit × DataW H) → Nat
  | [] => 0
  | x :: r => uptoBulkEntry x + uptoBulkEntries r
def uptoBulkEntry {H : Type} : Lit × DataW H → Nat
  | (.string bytes, d) => bytes.length + uptoBulk d + 1
  | (_, d) => uptoBulk d + 1
 end
def uptoSmall : (H : Type) → List (DataW H) → Bool := fun _ ds => decide (uptoBulkAll ds ≤ 1048576)
def OpenSpec.upto (s : _root_.Go.ChangeSpec) : _root_.Go.OpenSpec := { _root_.Go.OpenSpec.ofChange s with cond := some uptoSmall }

/-- 'laws.FnExactPointOf', WHERE WHAT IT READS IS OF BULK AT MOST 1048576: true; the input reads as it did. -/
def fnExactPointOfUptoRow : OpenClaim := { program := "ytaggfcghkfkngaa", sum := "afcb1be14773a9bad2ad11d38f47a1bf3fba4d9a86c277c6da2b89e1e7147c98", func := "loop.example/promotionengine/laws.FnExactPointOf", spec := "fnExactPointOf", apart := false, narrowed := true }
def FnExactPointOfUptoSaid : Prop := fnExactPointOfUptoRow.holds Try.pinned (OpenSpec.upto fnExactPointOfSpec)

/-- 'laws.FnEffectOf', WHERE WHAT IT READS IS OF BULK AT MOST 1048576: true; the input reads as it did. -/
def fnEffectOfUptoRow : OpenClaim := { program := "ytaggfcghkfkngaa", sum := "afcb1be14773a9bad2ad11d38f47a1bf3fba4d9a86c277c6da2b89e1e7147c98", func := "loop.example/promotionengine/laws.FnEffectOf", spec := "fnEffectOf", apart := false, narrowed := true }
def FnEffectOfUptoSaid : Prop := fnEffectOfUptoRow.holds Try.pinned (OpenSpec.upto fnEffectOfSpec)

/-- 'laws.FnEffectOfLines', WHERE WHAT IT READS IS OF BULK AT MOST 1048576: true; the input reads as it did. -/
def fnEffectOfLinesUptoRow : OpenClaim := { program := "ytaggfcghkfkngaa", sum := "afcb1be14773a9bad2ad11d38f47a1bf3fba4d9a86c277c6da2b89e1e7147c98", func := "loop.example/promotionengine/laws.FnEffectOfLines", spec := "fnEffectOfLines", apart := false, narrowed := true }
def FnEffectOfLinesUptoSaid : Prop := fnEffectOfLinesUptoRow.holds Try.pinned (OpenSpec.upto fnEffectOfLinesSpec)

/-- 'laws.FnEffectOfAmount', WHERE WHAT IT READS IS OF BULK AT MOST 1048576: true; the input reads as it did. -/
def fnEffectOfAmountUptoRow : OpenClaim := { program := "ytaggfcghkfkngaa", sum := "afcb1be14773a9bad2ad11d38f47a1bf3fba4d9a86c277c6da2b89e1e7147c98", func := "loop.example/promotionengine/laws.FnEffectOfAmount", spec := "fnEffectOfAmount", apart := false, narrowed := true }
def FnEffectOfAmountUptoSaid : Prop := fnEffectOfAmountUptoRow.holds Try.pinned (OpenSpec.upto fnEffectOfAmountSpec)

/-- 'laws.FnEffectOfCap', WHERE WHAT IT READS IS OF BULK AT MOST 1048576: true; the input reads as it did. -/
def fnEffectOfCapUptoRow : OpenClaim := { program := "ytaggfcghkfkngaa", sum := "afcb1be14773a9bad2ad11d38f47a1bf3fba4d9a86c277c6da2b89e1e7147c98", func := "loop.example/promotionengine/laws.FnEffectOfCap", spec := "fnEffectOfCap", apart := false, narrowed := true }
def FnEffectOfCapUptoSaid : Prop := fnEffectOfCapUptoRow.holds Try.pinned (OpenSpec.upto fnEffectOfCapSpec)

/-- 'laws.FnEffectOfGroup', WHERE WHAT IT READS IS OF BULK AT MOST 1048576: true; the input reads as it did. -/
def fnEffectOfGroupUptoRow : OpenClaim := { program := "ytaggfcghkfkngaa", sum := "afcb1be14773a9bad2ad11d38f47a1bf3fba4d9a86c277c6da2b89e1e7147c98", func := "loop.example/promotionengine/laws.FnEffectOfGroup", spec := "fnEffectOfGroup", apart := false, narrowed := true }
def FnEffectOfGroupUptoSaid : Prop := fnEffectOfGroupUptoRow.holds Try.pinned (OpenSpec.upto fnEffectOfGroupSpec)

/-- 'laws.FnEffectOfNothing', WHERE WHAT IT READS IS OF BULK AT MOST 1048576: true; the input reads as it did. -/
def fnEffectOfNothingUptoRow : OpenClaim := { program := "ytaggfcghkfkngaa", sum := "afcb1be14773a9bad2ad11d38f47a1bf3fba4d9a86c277c6da2b89e1e7147c98", func := "loop.example/promotionengine/laws.FnEffectOfNothing", spec := "fnEffectOfNothing", apart := false, narrowed := true }
def FnEffectOfNothingUptoSaid : Prop := fnEffectOfNothingUptoRow.holds Try.pinned (OpenSpec.upto fnEffectOfNothingSpec)

/-- 'laws.FnExactEffectOf', WHERE WHAT IT READS IS OF BULK AT MOST 1048576: true; the input reads as it did. -/
def fnExactEffectOfUptoRow : OpenClaim := { program := "ytaggfcghkfkngaa", sum := "afcb1be14773a9bad2ad11d38f47a1bf3fba4d9a86c277c6da2b89e1e7147c98", func := "loop.example/promotionengine/laws.FnExactEffectOf", spec := "fnExactEffectOf", apart := false, narrowed := true }
def FnExactEffectOfUptoSaid : Prop := fnExactEffectOfUptoRow.holds Try.pinned (OpenSpec.upto fnExactEffectOfSpec)

end Rows
end Go.Proofs.Ytaggfcghkfkngaa
