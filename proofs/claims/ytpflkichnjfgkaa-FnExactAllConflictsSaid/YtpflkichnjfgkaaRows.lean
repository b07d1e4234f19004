/-
  No cell of these rows narrows 'for every input' (looked for: loops, veiled, ifaces, maps, wideKeys, modest, calm, conditions, laid).
  DERIVED. THE GIVEN ROWS OF THIS SEAT. 12 by the template 'for every input the law returns true; each argument reads behind the call as it read before'; 0 by the template 'total and deterministic' (their statements: YtpflkichnjfgkaaTotals.lean).
  GIVEN WITH THE SEED: the statements are not yours to turn. If you find one false, say at which input.
  Laid BY PROGRAM, IN A SANDBOX (cutbox-rows.mjs): the forced cells as the released guide's own fill.sh prints them over the translation d650f5fe773f8499… (all of the seat's roots in one cut). By AI agents, Wed Nov 11 2026. No macro, syntax, notation, axiom, sorry.
-/
import Derived.Test.YtpflkichnjfgkaaChecked
import GoSem.Claim
import GoSem.ClaimJoined
import GoSem.ClaimMapViews
import Derived.JoinedTies
import Derived.KernelRfl
namespace Go.Proofs.Ytpflkichnjfgkaa
/- THE CELL 'sum', in the pinned program and in every row, IS THE sha256 OF THE DUMP (.gsa) THAT YtpflkichnjfgkaaProg.lean LOADS. Nothing in Lean hashes anything: it is a label: what it is worth is what the hold of that sum in a sandbox is worth. -/
noncomputable def Try.pinned : Pinned := { name := "ytpflkichnjfgkaa", sum := "d650f5fe773f8499aedbf07d99f4f3005cae9cf99c4d02ed1cd33ca235298730", checked := Try.checked }
namespace Rows
def none {H : Type} : Left H := { results := [], args := [] }

/-- 'laws.FnRuleOrderLevels': WHATEVER THE INPUT: true; the input reads as it did. -/
def fnRuleOrderLevelsSpec : ChangeSpec := { name := "fnRuleOrderLevels", fn := fun _ => fun
  | [d] => { results := [.lit (.bool true)], args := [d] }
  | _ => none }
def fnRuleOrderLevelsRow : OpenClaim := { program := "ytpflkichnjfgkaa", sum := "d650f5fe773f8499aedbf07d99f4f3005cae9cf99c4d02ed1cd33ca235298730", func := "loop.example/promotionengine/laws.FnRuleOrderLevels", spec := "fnRuleOrderLevels", unfollowed := true, recurses := true, apart := false }
def FnRuleOrderLevelsSaid : Prop := fnRuleOrderLevelsRow.holds Try.pinned (OpenSpec.ofChange fnRuleOrderLevelsSpec)

/-- ITS FALSE NEIGHBOUR: 'it returns false'. Refute it at one input. -/
def fnRuleOrderLevelsWrong : ChangeSpec := { name := "fnRuleOrderLevels", fn := fun _ => fun
  | [d] => { results := [.lit (.bool false)], args := [d] }
  | _ => none }
def FnRuleOrderLevelsWrongFalsely : Prop := fnRuleOrderLevelsRow.holds Try.pinned (OpenSpec.ofChange fnRuleOrderLevelsWrong)

/-- 'laws.FnRuleOrderOne': WHATEVER THE INPUT: true; the input reads as it did. -/
def fnRuleOrderOneSpec : ChangeSpec := { name := "fnRuleOrderOne", fn := fun _ => fun
  | [d] => { results := [.lit (.bool true)], args := [d] }
  | _ => none }
def fnRuleOrderOneRow : OpenClaim := { program := "ytpflkichnjfgkaa", sum := "d650f5fe773f8499aedbf07d99f4f3005cae9cf99c4d02ed1cd33ca235298730", func := "loop.example/promotionengine/laws.FnRuleOrderOne", spec := "fnRuleOrderOne", unfollowed := true, recurses := true, apart := false }
def FnRuleOrderOneSaid : Prop := fnRuleOrderOneRow.holds Try.pinned (OpenSpec.ofChange fnRuleOrderOneSpec)

/-- ITS FALSE NEIGHBOUR: 'it returns false'. Refute it at one input. -/
def fnRuleOrderOneWrong : ChangeSpec := { name := "fnRuleOrderOne", fn := fun _ => fun
  | [d] => { results := [.lit (.bool false)], args := [d] }
  | _ => none }
def FnRuleOrderOneWrongFalsely : Prop := fnRuleOrderOneRow.holds Try.pinned (OpenSpec.ofChange fnRuleOrderOneWrong)

/-- 'laws.FnRuleOrder': WHATEVER THE INPUT: true; the input reads as it did. -/
def fnRuleOrderSpec : ChangeSpec := { name := "fnRuleOrder", fn := fun _ => fun
  | [d] => { results := [.lit (.bool true)], args := [d] }
  | _ => none }
def fnRuleOrderRow : OpenClaim := { program := "ytpflkichnjfgkaa", sum := "d650f5fe773f8499aedbf07d99f4f3005cae9cf99c4d02ed1cd33ca235298730", func := "loop.example/promotionengine/laws.FnRuleOrder", spec := "fnRuleOrder", unfollowed := true, recurses := true, apart := false }
def FnRuleOrderSaid : Prop := fnRuleOrderRow.holds Try.pinned (OpenSpec.ofChange fnRuleOrderSpec)

/-- ITS FALSE NEIGHBOUR: 'it returns false'. Refute it at one input. -/
def fnRuleOrderWrong : ChangeSpec := { name := "fnRuleOrder", fn := fun _ => fun
  | [d] => { results := [.lit (.bool false)], args := [d] }
  | _ => none }
def FnRuleOrderWrongFalsely : Prop := fnRuleOrderRow.holds Try.pinned (OpenSpec.ofChange fnRuleOrderWrong)

/-- 'laws.FnIsClear': WHATEVER THE INPUT: true; the input reads as it did. -/
def fnIsClearSpec : ChangeSpec := { name := "fnIsClear", fn := fun _ => fun
  | [d] => { results := [.lit (.bool true)], args := [d] }
  | _ => none }
def fnIsClearRow : OpenClaim := { program := "ytpflkichnjfgkaa", sum := "d650f5fe773f8499aedbf07d99f4f3005cae9cf99c4d02ed1cd33ca235298730", func := "loop.example/promotionengine/laws.FnIsClear", spec := "fnIsClear", unfollowed := true, recurses := true, apart := false }
def FnIsClearSaid : Prop := fnIsClearRow.holds Try.pinned (OpenSpec.ofChange fnIsClearSpec)

/-- ITS FALSE NEIGHBOUR: 'it returns false'. Refute it at one input. -/
def fnIsClearWrong : ChangeSpec := { name := "fnIsClear", fn := fun _ => fun
  | [d] => { results := [.lit (.bool false)], args := [d] }
  | _ => none }
def FnIsClearWrongFalsely : Prop := fnIsClearRow.holds Try.pinned (OpenSpec.ofChange fnIsClearWrong)

/-- 'laws.FnIsClearLess': WHATEVER THE INPUT: true; the input reads as it did. -/
def fnIsClearLessSpec : ChangeSpec := { name := "fnIsClearLess", fn := fun _ => fun
  | [d] => { results := [.lit (.bool true)], args := [d] }
  | _ => none }
def fnIsClearLessRow : OpenClaim := { program := "ytpflkichnjfgkaa", sum := "d650f5fe773f8499aedbf07d99f4f3005cae9cf99c4d02ed1cd33ca235298730", func := "loop.example/promotionengine/laws.FnIsClearLess", spec := "fnIsClearLess", unfollowed := true, recurses := true, apart := false }
def FnIsClearLessSaid : Prop := fnIsClearLessRow.holds Try.pinned (OpenSpec.ofChange fnIsClearLessSpec)

/-- ITS FALSE NEIGHBOUR: 'it returns false'. Refute it at one input. -/
def fnIsClearLessWrong : ChangeSpec := { name := "fnIsClearLess", fn := fun _ => fun
  | [d] => { results := [.lit (.bool false)], args := [d] }
  | _ => none }
def FnIsClearLessWrongFalsely : Prop := fnIsClearLessRow.holds Try.pinned (OpenSpec.ofChange fnIsClearLessWrong)

/-- 'laws.FnIsClearRanks': WHATEVER THE INPUT: true; the input reads as it did. -/
def fnIsClearRanksSpec : ChangeSpec := { name := "fnIsClearRanks", fn := fun _ => fun
  | [d] => { results := [.lit (.bool true)], args := [d] }
  | _ => none }
def fnIsClearRanksRow : OpenClaim := { program := "ytpflkichnjfgkaa", sum := "d650f5fe773f8499aedbf07d99f4f3005cae9cf99c4d02ed1cd33ca235298730", func := "loop.example/promotionengine/laws.FnIsClearRanks", spec := "fnIsClearRanks", unfollowed := true, recurses := true, apart := false }
def FnIsClearRanksSaid : Prop := fnIsClearRanksRow.holds Try.pinned (OpenSpec.ofChange fnIsClearRanksSpec)

/-- ITS FALSE NEIGHBOUR: 'it returns false'. Refute it at one input. -/
def fnIsClearRanksWrong : ChangeSpec := { name := "fnIsClearRanks", fn := fun _ => fun
  | [d] => { results := [.lit (.bool false)], args := [d] }
  | _ => none }
def FnIsClearRanksWrongFalsely : Prop := fnIsClearRanksRow.holds Try.pinned (OpenSpec.ofChange fnIsClearRanksWrong)

/-- 'laws.FnExactIsClear': WHATEVER THE INPUT: true; the input reads as it did. -/
def fnExactIsClearSpec : ChangeSpec := { name := "fnExactIsClear", fn := fun _ => fun
  | [d] => { results := [.lit (.bool true)], args := [d] }
  | _ => none }
def fnExactIsClearRow : OpenClaim := { program := "ytpflkichnjfgkaa", sum := "d650f5fe773f8499aedbf07d99f4f3005cae9cf99c4d02ed1cd33ca235298730", func := "loop.example/promotionengine/laws.FnExactIsClear", spec := "fnExactIsClear", unfollowed := true, recurses := true, apart := false }
def FnExactIsClearSaid : Prop := fnExactIsClearRow.holds Try.pinned (OpenSpec.ofChange fnExactIsClearSpec)

/-- ITS FALSE NEIGHBOUR: 'it returns false'. Refute it at one input. -/
def fnExactIsClearWrong : ChangeSpec := { name := "fnExactIsClear", fn := fun _ => fun
  | [d] => { results := [.lit (.bool false)], args := [d] }
  | _ => none }
def FnExactIsClearWrongFalsely : Prop := fnExactIsClearRow.holds Try.pinned (OpenSpec.ofChange fnExactIsClearWrong)

/-- 'laws.FnExactRuleOrder': WHATEVER THE INPUT: true; the input reads as it did. -/
def fnExactRuleOrderSpec : ChangeSpec := { name := "fnExactRuleOrder", fn := fun _ => fun
  | [d] => { results := [.lit (.bool true)], args := [d] }
  | _ => none }
def fnExactRuleOrderRow : OpenClaim := { program := "ytpflkichnjfgkaa", sum := "d650f5fe773f8499aedbf07d99f4f3005cae9cf99c4d02ed1cd33ca235298730", func := "loop.example/promotionengine/laws.FnExactRuleOrder", spec := "fnExactRuleOrder", unfollowed := true, recurses := true, apart := false }
def FnExactRuleOrderSaid : Prop := fnExactRuleOrderRow.holds Try.pinned (OpenSpec.ofChange fnExactRuleOrderSpec)

/-- ITS FALSE NEIGHBOUR: 'it returns false'. Refute it at one input. -/
def fnExactRuleOrderWrong : ChangeSpec := { name := "fnExactRuleOrder", fn := fun _ => fun
  | [d] => { results := [.lit (.bool false)], args := [d] }
  | _ => none }
def FnExactRuleOrderWrongFalsely : Prop := fnExactRuleOrderRow.holds Try.pinned (OpenSpec.ofChange fnExactRuleOrderWrong)

/-- 'laws.FnAllConflicts': WHATEVER THE INPUT: true; the input reads as it did. -/
def fnAllConflictsSpec : ChangeSpec := { name := "fnAllConflicts", fn := fun _ => fun
  | [d] => { results := [.lit (.bool true)], args := [d] }
  | _ => none }
def fnAllConflictsRow : OpenClaim := { program := "ytpflkichnjfgkaa", sum := "d650f5fe773f8499aedbf07d99f4f3005cae9cf99c4d02ed1cd33ca235298730", func := "loop.example/promotionengine/laws.FnAllConflicts", spec := "fnAllConflicts", unfollowed := true, recurses := true, apart := false }
def FnAllConflictsSaid : Prop := fnAllConflictsRow.holds Try.pinned (OpenSpec.ofChange fnAllConflictsSpec)

/-- ITS FALSE NEIGHBOUR: 'it returns false'. Refute it at one input. -/
def fnAllConflictsWrong : ChangeSpec := { name := "fnAllConflicts", fn := fun _ => fun
  | [d] => { results := [.lit (.bool false)], args := [d] }
  | _ => none }
def FnAllConflictsWrongFalsely : Prop := fnAllConflictsRow.holds Try.pinned (OpenSpec.ofChange fnAllConflictsWrong)

/-- 'laws.FnAllConflictsOrder': WHATEVER THE INPUT: true; the input reads as it did. -/
def fnAllConflictsOrderSpec : ChangeSpec := { name := "fnAllConflictsOrder", fn := fun _ => fun
  | [d] => { results := [.lit (.bool true)], args := [d] }
  | _ => none }
def fnAllConflictsOrderRow : OpenClaim := { program := "ytpflkichnjfgkaa", sum := "d650f5fe773f8499aedbf07d99f4f3005cae9cf99c4d02ed1cd33ca235298730", func := "loop.example/promotionengine/laws.FnAllConflictsOrder", spec := "fnAllConflictsOrder", unfollowed := true, recurses := true, apart := false }
def FnAllConflictsOrderSaid : Prop := fnAllConflictsOrderRow.holds Try.pinned (OpenSpec.ofChange fnAllConflictsOrderSpec)

/-- ITS FALSE NEIGHBOUR: 'it returns false'. Refute it at one input. -/
def fnAllConflictsOrderWrong : ChangeSpec := { name := "fnAllConflictsOrder", fn := fun _ => fun
  | [d] => { results := [.lit (.bool false)], args := [d] }
  | _ => none }
def FnAllConflictsOrderWrongFalsely : Prop := fnAllConflictsOrderRow.holds Try.pinned (OpenSpec.ofChange fnAllConflictsOrderWrong)

/-- 'laws.FnAllConflictsPairs': WHATEVER THE INPUT: true; the input reads as it did. -/
def fnAllConflictsPairsSpec : ChangeSpec := { name := "fnAllConflictsPairs", fn := fun _ => fun
  | [d] => { results := [.lit (.bool true)], args := [d] }
  | _ => none }
def fnAllConflictsPairsRow : OpenClaim := { program := "ytpflkichnjfgkaa", sum := "d650f5fe773f8499aedbf07d99f4f3005cae9cf99c4d02ed1cd33ca235298730", func := "loop.example/promotionengine/laws.FnAllConflictsPairs", spec := "fnAllConflictsPairs", unfollowed := true, recurses := true, apart := false }
def FnAllConflictsPairsSaid : Prop := fnAllConflictsPairsRow.holds Try.pinned (OpenSpec.ofChange fnAllConflictsPairsSpec)

/-- ITS FALSE NEIGHBOUR: 'it returns false'. Refute it at one input. -/
def fnAllConflictsPairsWrong : ChangeSpec := { name := "fnAllConflictsPairs", fn := fun _ => fun
  | [d] => { results := [.lit (.bool false)], args := [d] }
  | _ => none }
def FnAllConflictsPairsWrongFalsely : Prop := fnAllConflictsPairsRow.holds Try.pinned (OpenSpec.ofChange fnAllConflictsPairsWrong)

/-- 'laws.FnExactAllConflicts': WHATEVER THE INPUT: true; the input reads as it did. -/
def fnExactAllConflictsSpec : ChangeSpec := { name := "fnExactAllConflicts", fn := fun _ => fun
  | [d] => { results := [.lit (.bool true)], args := [d] }
  | _ => none }
def fnExactAllConflictsRow : OpenClaim := { program := "ytpflkichnjfgkaa", sum := "d650f5fe773f8499aedbf07d99f4f3005cae9cf99c4d02ed1cd33ca235298730", func := "loop.example/promotionengine/laws.FnExactAllConflicts", spec := "fnExactAllConflicts", unfollowed := true, recurses := true, apart := false }
def FnExactAllConflictsSaid : Prop := fnExactAllConflictsRow.holds Try.pinned (OpenSpec.ofChange fnExactAllConflictsSpec)

/-- ITS FALSE NEIGHBOUR: 'it returns false'. Refute it at one input. -/
def fnExactAllConflictsWrong : ChangeSpec := { name := "fnExactAllConflicts", fn := fun _ => fun
  | [d] => { results := [.lit (.bool false)], args := [d] }
  | _ => none }
def FnExactAllConflictsWrongFalsely : Prop := fnExactAllConflictsRow.holds Try.pinned (OpenSpec.ofChange fnExactAllConflictsWrong)

/- THE SECOND FORM. 'bulk': how many values and letters a reading holds, each counted each time it is reached (what is shared counts as often as it is met; a slice's spare places count too). A statement '..UptoSaid' is the law's where the arguments, and the package variables that the reading takes, are together of bulk at most 1048576: NARROWER than '..Said'. Prove '..Said' where nothing that the law and all that it calls make is longer than what came in: it says more and counts as full. Else prove '..UptoSaid'. A law counts once. -/
mutual
def uptoBulk {H : Type} : DataW H → Nat
  | .lit (.string bytes) => bytes.length + 1
  | .lit _ => 1
  | .nil => 1
  | .ptr d => uptoBulk d + 1
  | .slice elems spare => uptoBulkAll elems + uptoBulkAll spare + 1
  | .agg parts => uptoBulkAll parts + 1
  | .iface _ d => uptoBulk d + 1
  | .map entries => uptoBulkEntries entries + 1
  | .held _ => 1
def uptoBulkAll {H : Type} : List (DataW H) → Nat
  | [] => 0
  | d :: r => uptoBulk d + uptoBulkAll r
def uptoBulkEntries {H : Type} : List (Lit × DataW H) → Nat
  | [] => 0
  | x :: r => uptoBulkEntry x + uptoBulkEntries r
def uptoBulkEntry {H : Type} : Lit × DataW H → Nat
  | (.string bytes, d) => bytes.length + uptoBulk d + 1
  | (_, d) => uptoBulk d + 1
 end
def uptoSmall : (H : Type) → List (DataW H) → Bool := fun _ ds => decide (uptoBulkAll ds ≤ 1048576)
def OpenSpec.upto (s : _root_.Go.ChangeSpec) : _root_.Go.OpenSpec := { _root_.Go.OpenSpec.ofChange s with cond := some uptoSmall }

/-- 'laws.FnRuleOrderLevels', WHERE WHAT IT READS IS OF BULK AT MOST 1048576: true; the input reads as it did. -/
def fnRuleOrderLevelsUptoRow : OpenClaim := { program := "ytpflkichnjfgkaa", sum := "d650f5fe773f8499aedbf07d99f4f3005cae9cf99c4d02ed1cd33ca235298730", func := "loop.example/promotionengine/laws.FnRuleOrderLevels", spec := "fnRuleOrderLevels", unfollowed := true, recurses := true, apart := false, narrowed := true }
def FnRuleOrderLevelsUptoSaid : Prop := fnRuleOrderLevelsUptoRow.holds Try.pinned (OpenSpec.upto fnRuleOrderLevelsSpec)

/-- 'laws.FnRuleOrderOne', WHERE WHAT IT READS IS OF BULK AT MOST 1048576: true; the input reads as it did. -/
def fnRuleOrderOneUptoRow : OpenClaim := { program := "ytpflkichnjfgkaa", sum := "d650f5fe773f8499aedbf07d99f4f3005cae9cf99c4d02ed1cd33ca235298730", func := "loop.example/promotionengine/laws.FnRuleOrderOne", spec := "fnRuleOrderOne", unfollowed := true, recurses := true, apart := false, narrowed := true }
def FnRuleOrderOneUptoSaid : Prop := fnRuleOrderOneUptoRow.holds Try.pinned (OpenSpec.upto fnRuleOrderOneSpec)

/-- 'laws.FnRuleOrder', WHERE WHAT IT READS IS OF BULK AT MOST 1048576: true; the input reads as it did. -/
def fnRuleOrderUptoRow : OpenClaim := { program := "ytpflkichnjfgkaa", sum := "d650f5fe773f8499aedbf07d99f4f3005cae9cf99c4d02ed1cd33ca235298730", func := "loop.example/promotionengine/laws.FnRuleOrder", spec := "fnRuleOrder", unfollowed := true, recurses := true, apart := false, narrowed := true }
def FnRuleOrderUptoSaid : Prop := fnRuleOrderUptoRow.holds Try.pinned (OpenSpec.upto fnRuleOrderSpec)

/-- 'laws.FnIsClear', WHERE WHAT IT READS IS OF BULK AT MOST 1048576: true; the input reads as it did. -/
def fnIsClearUptoRow : OpenClaim := { program := "ytpflkichnjfgkaa", sum := "d650f5fe773f8499aedbf07d99f4f3005cae9cf99c4d02ed1cd33ca235298730", func := "loop.example/promotionengine/laws.FnIsClear", spec := "fnIsClear", unfollowed := true, recurses := true, apart := false, narrowed := true }
def FnIsClearUptoSaid : Prop := fnIsClearUptoRow.holds Try.pinned (OpenSpec.upto fnIsClearSpec)

/-- 'laws.FnIsClearLess', WHERE WHAT IT READS IS OF BULK AT MOST 1048576: true; the input reads as it did. -/
def fnIsClearLessUptoRow : OpenClaim := { program := "ytpflkichnjfgkaa", sum := "d650f5fe773f8499aedbf07d99f4f3005cae9cf99c4d02ed1cd33ca235298730", func := "loop.example/promotionengine/laws.FnIsClearLess", spec := "fnIsClearLess", unfollowed := true, recurses := true, apart := false, narrowed := true }
def FnIsClearLessUptoSaid : Prop := fnIsClearLessUptoRow.holds Try.pinned (OpenSpec.upto fnIsClearLessSpec)

/-- 'laws.FnIsClearRanks', WHERE WHAT IT READS IS OF BULK AT MOST 1048576: true; the input reads as it did. -/
def fnIsClearRanksUptoRow : OpenClaim := { program := "ytpflkichnjfgkaa", sum := "d650f5fe773f8499aedbf07d99f4f3005cae9cf99c4d02ed1cd33ca235298730", func := "loop.example/promotionengine/laws.FnIsClearRanks", spec := "fnIsClearRanks", unfollowed := true, recurses := true, apart := false, narrowed := true }
def FnIsClearRanksUptoSaid : Prop := fnIsClearRanksUptoRow.holds Try.pinned (OpenSpec.upto fnIsClearRanksSpec)

/-- 'laws.FnExactIsClear', WHERE WHAT IT READS IS OF BULK AT MOST 1048576: true; the input reads as it did. -/
def fnExactIsClearUptoRow : OpenClaim := { program := "ytpflkichnjfgkaa", sum := "d650f5fe773f8499aedbf07d99f4f3005cae9cf99c4d02ed1cd33ca235298730", func := "loop.example/promotionengine/laws.FnExactIsClear", spec := "fnExactIsClear", unfollowed := true, recurses := true, apart := false, narrowed := true }
def FnExactIsClearUptoSaid : Prop := fnExactIsClearUptoRow.holds Try.pinned (OpenSpec.upto fnExactIsClearSpec)

/-- 'laws.FnExactRuleOrder', WHERE WHAT IT READS IS OF BULK AT MOST 1048576: true; the input reads as it did. -/
def fnExactRuleOrderUptoRow : OpenClaim := { program := "ytpflkichnjfgkaa", sum := "d650f5fe773f8499aedbf07d99f4f3005cae9cf99c4d02ed1cd33ca235298730", func := "loop.example/promotionengine/laws.FnExactRuleOrder", spec := "fnExactRuleOrder", unfollowed := true, recurses := true, apart := false, narrowed := true }
def FnExactRuleOrderUptoSaid : Prop := fnExactRuleOrderUptoRow.holds Try.pinned (OpenSpec.upto fnExactRuleOrderSpec)

/-- 'laws.FnAllConflicts', WHERE WHAT IT READS IS OF BULK AT MOST 1048576: true; the input reads as it did. -/
def fnAllConflictsUptoRow : OpenClaim := { program := "ytpflkichnjfgkaa", sum := "d650f5fe773f8499aedbf07d99f4f3005cae9cf99c4d02ed1cd33ca235298730", func := "loop.example/promotionengine/laws.FnAllConflicts", spec := "fnAllConflicts", unfollowed := true, recurses := true, apart := false, narrowed := true }
def FnAllConflictsUptoSaid : Prop := fnAllConflictsUptoRow.holds Try.pinned (OpenSpec.upto fnAllConflictsSpec)

/-- 'laws.FnAllConflictsOrder', WHERE WHAT IT READS IS OF BULK AT MOST 1048576: true; the input reads as it did. -/
def fnAllConflictsOrderUptoRow : OpenClaim := { program := "ytpflkichnjfgkaa", sum := "d650f5fe773f8499aedbf07d99f4f3005cae9cf99c4d02ed1cd33ca235298730", func := "loop.example/promotionengine/laws.FnAllConflictsOrder", spec := "fnAllConflictsOrder", unfollowed := true, recurses := true, apart := false, narrowed := true }
def FnAllConflictsOrderUptoSaid : Prop := fnAllConflictsOrderUptoRow.holds Try.pinned (OpenSpec.upto fnAllConflictsOrderSpec)

/-- 'laws.FnAllConflictsPairs', WHERE WHAT IT READS IS OF BULK AT MOST 1048576: true; the input reads as it did. -/
def fnAllConflictsPairsUptoRow : OpenClaim := { program := "ytpflkichnjfgkaa", sum := "d650f5fe773f8499aedbf07d99f4f3005cae9cf99c4d02ed1cd33ca235298730", func := "loop.example/promotionengine/laws.FnAllConflictsPairs", spec := "fnAllConflictsPairs", unfollowed := true, recurses := true, apart := false, narrowed := true }
def FnAllConflictsPairsUptoSaid : Prop := fnAllConflictsPairsUptoRow.holds Try.pinned (OpenSpec.upto fnAllConflictsPairsSpec)

/-- 'laws.FnExactAllConflicts', WHERE WHAT IT READS IS OF BULK AT MOST 1048576: true; the input reads as it did. -/
def fnExactAllConflictsUptoRow : OpenClaim := { program := "ytpflkichnjfgkaa", sum := "d650f5fe773f8499aedbf07d99f4f3005cae9cf99c4d02ed1cd33ca235298730", func := "loop.example/promotionengine/laws.FnExactAllConflicts", spec := "fnExactAllConflicts", unfollowed := true, recurses := true, apart := false, narrowed := true }
def FnExactAllConflictsUptoSaid : Prop := fnExactAllConflictsUptoRow.holds Try.pinned (OpenSpec.upto fnExactAllConflictsSpec)

end Rows
end Go.Proofs.Ytpflkichnjfgkaa
