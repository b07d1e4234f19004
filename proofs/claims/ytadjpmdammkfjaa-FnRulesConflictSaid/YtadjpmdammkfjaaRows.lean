/-
  No cell of these rows narrows 'for every input' (looked for: loops, veiled, ifaces, maps, wideKeys, modest, calm, conditions, laid).
  DERIVED. THE GIVEN ROWS OF THIS SEAT. 8 by the template 'for every input the law returns true; each argument reads behind the call as it read before'; 0 by the template 'total and deterministic' (their statements: YtadjpmdammkfjaaTotals.lean).
  GIVEN WITH THE SEED: the statements are not yours to turn. If you find one false, say at which input.
  Laid BY PROGRAM, IN A SANDBOX (cutbox-rows.mjs): the forced cells as the released guide's own fill.sh prints them over the translation 027c313f15aa8d31… (all of the seat's roots in one cut). By AI agents, Wed Nov 11 2026. No macro, syntax, notation, axiom, sorry.
-/
import Derived.Test.YtadjpmdammkfjaaChecked
import GoSem.Claim
import GoSem.ClaimJoined
import GoSem.ClaimMapViews
import Derived.JoinedTies
import Derived.KernelRfl
namespace Go.Proofs.Ytadjpmdammkfjaa
/- THE CELL 'sum', in the pinned program and in every row, IS THE sha256 OF THE DUMP (.gsa) THAT YtadjpmdammkfjaaProg.lean LOADS. Nothing in Lean hashes anything: it is a label: what it is worth is what the hold of that sum in a sandbox is worth. -/
noncomputable def Try.pinned : Pinned := { name := "ytadjpmdammkfjaa", sum := "027c313f15aa8d31eafec33bca1f81561655ab0c834fc7380e3422f05efb46dc", checked := Try.checked }
namespace Rows
def none {H : Type} : Left H := { results := [], args := [] }

/-- 'laws.FnExactValidRule': WHATEVER THE INPUT: true; the input reads as it did. -/
def fnExactValidRuleSpec : ChangeSpec := { name := "fnExactValidRule", fn := fun _ => fun
  | [d] => { results := [.lit (.bool true)], args := [d] }
  | _ => none }
def fnExactValidRuleRow : OpenClaim := { program := "ytadjpmdammkfjaa", sum := "027c313f15aa8d31eafec33bca1f81561655ab0c834fc7380e3422f05efb46dc", func := "loop.example/promotionengine/laws.FnExactValidRule", spec := "fnExactValidRule", apart := false }
def FnExactValidRuleSaid : Prop := fnExactValidRuleRow.holds Try.pinned (OpenSpec.ofChange fnExactValidRuleSpec)

/-- ITS FALSE NEIGHBOUR: 'it returns false'. Refute it at one input. -/
def fnExactValidRuleWrong : ChangeSpec := { name := "fnExactValidRule", fn := fun _ => fun
  | [d] => { results := [.lit (.bool false)], args := [d] }
  | _ => none }
def FnExactValidRuleWrongFalsely : Prop := fnExactValidRuleRow.holds Try.pinned (OpenSpec.ofChange fnExactValidRuleWrong)

/-- 'laws.FnValidRules': WHATEVER THE INPUT: true; the input reads as it did. -/
def fnValidRulesSpec : ChangeSpec := { name := "fnValidRules", fn := fun _ => fun
  | [d] => { results := [.lit (.bool true)], args := [d] }
  | _ => none }
def fnValidRulesRow : OpenClaim := { program := "ytadjpmdammkfjaa", sum := "027c313f15aa8d31eafec33bca1f81561655ab0c834fc7380e3422f05efb46dc", func := "loop.example/promotionengine/laws.FnValidRules", spec := "fnValidRules", apart := false }
def FnValidRulesSaid : Prop := fnValidRulesRow.holds Try.pinned (OpenSpec.ofChange fnValidRulesSpec)

/-- ITS FALSE NEIGHBOUR: 'it returns false'. Refute it at one input. -/
def fnValidRulesWrong : ChangeSpec := { name := "fnValidRules", fn := fun _ => fun
  | [d] => { results := [.lit (.bool false)], args := [d] }
  | _ => none }
def FnValidRulesWrongFalsely : Prop := fnValidRulesRow.holds Try.pinned (OpenSpec.ofChange fnValidRulesWrong)

/-- 'laws.FnValidRulesTwice': WHATEVER THE INPUT: true; the input reads as it did. -/
def fnValidRulesTwiceSpec : ChangeSpec := { name := "fnValidRulesTwice", fn := fun _ => fun
  | [d] => { results := [.lit (.bool true)], args := [d] }
  | _ => none }
def fnValidRulesTwiceRow : OpenClaim := { program := "ytadjpmdammkfjaa", sum := "027c313f15aa8d31eafec33bca1f81561655ab0c834fc7380e3422f05efb46dc", func := "loop.example/promotionengine/laws.FnValidRulesTwice", spec := "fnValidRulesTwice", apart := false }
def FnValidRulesTwiceSaid : Prop := fnValidRulesTwiceRow.holds Try.pinned (OpenSpec.ofChange fnValidRulesTwiceSpec)

/-- ITS FALSE NEIGHBOUR: 'it returns false'. Refute it at one input. -/
def fnValidRulesTwiceWrong : ChangeSpec := { name := "fnValidRulesTwice", fn := fun _ => fun
  | [d] => { results := [.lit (.bool false)], args := [d] }
  | _ => none }
def FnValidRulesTwiceWrongFalsely : Prop := fnValidRulesTwiceRow.holds Try.pinned (OpenSpec.ofChange fnValidRulesTwiceWrong)

/-- 'laws.FnExactValidRules': WHATEVER THE INPUT: true; the input reads as it did. -/
def fnExactValidRulesSpec : ChangeSpec := { name := "fnExactValidRules", fn := fun _ => fun
  | [d] => { results := [.lit (.bool true)], args := [d] }
  | _ => none }
def fnExactValidRulesRow : OpenClaim := { program := "ytadjpmdammkfjaa", sum := "027c313f15aa8d31eafec33bca1f81561655ab0c834fc7380e3422f05efb46dc", func := "loop.example/promotionengine/laws.FnExactValidRules", spec := "fnExactValidRules", apart := false }
def FnExactValidRulesSaid : Prop := fnExactValidRulesRow.holds Try.pinned (OpenSpec.ofChange fnExactValidRulesSpec)

/-- ITS FALSE NEIGHBOUR: 'it returns false'. Refute it at one input. -/
def fnExactValidRulesWrong : ChangeSpec := { name := "fnExactValidRules", fn := fun _ => fun
  | [d] => { results := [.lit (.bool false)], args := [d] }
  | _ => none }
def FnExactValidRulesWrongFalsely : Prop := fnExactValidRulesRow.holds Try.pinned (OpenSpec.ofChange fnExactValidRulesWrong)

/-- 'laws.FnRulesConflictGroups': WHATEVER THE INPUT: true; the input reads as it did. -/
def fnRulesConflictGroupsSpec : ChangeSpec := { name := "fnRulesConflictGroups", fn := fun _ => fun
  | [d] => { results := [.lit (.bool true)], args := [d] }
  | _ => none }
def fnRulesConflictGroupsRow : OpenClaim := { program := "ytadjpmdammkfjaa", sum := "027c313f15aa8d31eafec33bca1f81561655ab0c834fc7380e3422f05efb46dc", func := "loop.example/promotionengine/laws.FnRulesConflictGroups", spec := "fnRulesConflictGroups", apart := false }
def FnRulesConflictGroupsSaid : Prop := fnRulesConflictGroupsRow.holds Try.pinned (OpenSpec.ofChange fnRulesConflictGroupsSpec)

/-- ITS FALSE NEIGHBOUR: 'it returns false'. Refute it at one input. -/
def fnRulesConflictGroupsWrong : ChangeSpec := { name := "fnRulesConflictGroups", fn := fun _ => fun
  | [d] => { results := [.lit (.bool false)], args := [d] }
  | _ => none }
def FnRulesConflictGroupsWrongFalsely : Prop := fnRulesConflictGroupsRow.holds Try.pinned (OpenSpec.ofChange fnRulesConflictGroupsWrong)

/-- 'laws.FnRulesConflictRank': WHATEVER THE INPUT: true; the input reads as it did. -/
def fnRulesConflictRankSpec : ChangeSpec := { name := "fnRulesConflictRank", fn := fun _ => fun
  | [d] => { results := [.lit (.bool true)], args := [d] }
  | _ => none }
def fnRulesConflictRankRow : OpenClaim := { program := "ytadjpmdammkfjaa", sum := "027c313f15aa8d31eafec33bca1f81561655ab0c834fc7380e3422f05efb46dc", func := "loop.example/promotionengine/laws.FnRulesConflictRank", spec := "fnRulesConflictRank", apart := false }
def FnRulesConflictRankSaid : Prop := fnRulesConflictRankRow.holds Try.pinned (OpenSpec.ofChange fnRulesConflictRankSpec)

/-- ITS FALSE NEIGHBOUR: 'it returns false'. Refute it at one input. -/
def fnRulesConflictRankWrong : ChangeSpec := { name := "fnRulesConflictRank", fn := fun _ => fun
  | [d] => { results := [.lit (.bool false)], args := [d] }
  | _ => none }
def FnRulesConflictRankWrongFalsely : Prop := fnRulesConflictRankRow.holds Try.pinned (OpenSpec.ofChange fnRulesConflictRankWrong)

/-- 'laws.FnRulesConflict': WHATEVER THE INPUT: true; the input reads as it did. -/
def fnRulesConflictSpec : ChangeSpec := { name := "fnRulesConflict", fn := fun _ => fun
  | [d] => { results := [.lit (.bool true)], args := [d] }
  | _ => none }
def fnRulesConflictRow : OpenClaim := { program := "ytadjpmdammkfjaa", sum := "027c313f15aa8d31eafec33bca1f81561655ab0c834fc7380e3422f05efb46dc", func := "loop.example/promotionengine/laws.FnRulesConflict", spec := "fnRulesConflict", apart := false }
def FnRulesConflictSaid : Prop := fnRulesConflictRow.holds Try.pinned (OpenSpec.ofChange fnRulesConflictSpec)

/-- ITS FALSE NEIGHBOUR: 'it returns false'. Refute it at one input. -/
def fnRulesConflictWrong : ChangeSpec := { name := "fnRulesConflict", fn := fun _ => fun
  | [d] => { results := [.lit (.bool false)], args := [d] }
  | _ => none }
def FnRulesConflictWrongFalsely : Prop := fnRulesConflictRow.holds Try.pinned (OpenSpec.ofChange fnRulesConflictWrong)

/-- 'laws.FnExactRulesConflict': WHATEVER THE INPUT: true; the input reads as it did. -/
def fnExactRulesConflictSpec : ChangeSpec := { name := "fnExactRulesConflict", fn := fun _ => fun
  | [d1, d2] => { results := [.lit (.bool true)], args := [d1, d2] }
  | _ => none }
def fnExactRulesConflictRow : OpenClaim := { program := "ytadjpmdammkfjaa", sum := "027c313f15aa8d31eafec33bca1f81561655ab0c834fc7380e3422f05efb46dc", func := "loop.example/promotionengine/laws.FnExactRulesConflict", spec := "fnExactRulesConflict", apart := false }
def FnExactRulesConflictSaid : Prop := fnExactRulesConflictRow.holds Try.pinned (OpenSpec.ofChange fnExactRulesConflictSpec)

/-- ITS FALSE NEIGHBOUR: 'it returns false'. Refute it at one input. -/
def fnExactRulesConflictWrong : ChangeSpec := { name := "fnExactRulesConflict", fn := fun _ => fun
  | [d1, d2] => { results := [.lit (.bool false)], args := [d1, d2] }
  | _ => none }
def FnExactRulesConflictWrongFalsely : Prop := fnExactRulesConflictRow.holds Try.pinned (OpenSpec.ofChange fnExactRulesConflictWrong)

/- THE SECOND FORM. 'bulk': how many values and letters a reading holds, each counted each time it is reached (what is shared counts as often as it is met; a slice's spare places count too). A statement '..UptoSaid' is the law's where the arguments, and the package variables that the reading takes, are together of bulk at most 1048576: NARROWER than '..Said'. Prove '..Said' where nothing that the law and all that it calls make is longer than what came in: it says more and counts as full. Else prove '..UptoSaid'. A law counts once. -/
mutual
def uptoBulk {H : Type} : DataW H → Nat
  | .lit (.string bytes) => bytes.length + 1
  | .lit _ => 1
  | .nil => 1
  | .ptr d => uptoBulk d + 1
  | .slice elems spare => uptoBulkAll elems + uptoBulkAll spare + 1
  | .agg parts => uptoBulkAll parts + 1
  | .iface _ d => uptoBulk d + 1
  | .map entries => uptoBulkEntries entries + 1
  | .held _ => 1
def uptoBulkAll {H : Type} : List (DataW H) → Nat
  | [] => 0
  | d :: r => uptoBulk d + uptoBulkAll r
def uptoBulkEntries {H : Type} : List (Lit × DataW H) → Nat
  | [] => 0
  | x :: r => uptoBulkEntry x + uptoBulkEntries r
def uptoBulkEntry {H : Type} : Lit × DataW H → Nat
  | (.string bytes, d) => bytes.length + uptoBulk d + 1
  | (_, d) => uptoBulk d + 1
 end
def uptoSmall : (H : Type) → List (DataW H) → Bool := fun _ ds => decide (uptoBulkAll ds ≤ 1048576)
def OpenSpec.upto (s : _root_.Go.ChangeSpec) : _root_.Go.OpenSpec := { _root_.Go.OpenSpec.ofChange s with cond := some uptoSmall }

/-- 'laws.FnExactValidRule', WHERE WHAT IT READS IS OF BULK AT MOST 1048576: true; the input reads as it did. -/
def fnExactValidRuleUptoRow : OpenClaim := { program := "ytadjpmdammkfjaa", sum := "027c313f15aa8d31eafec33bca1f81561655ab0c834fc7380e3422f05efb46dc", func := "loop.example/promotionengine/laws.FnExactValidRule", spec := "fnExactValidRule", apart := false, narrowed := true }
def FnExactValidRuleUptoSaid : Prop := fnExactValidRuleUptoRow.holds Try.pinned (OpenSpec.upto fnExactValidRuleSpec)

/-- 'laws.FnValidRules', WHERE WHAT IT READS IS OF BULK AT MOST 1048576: true; the input reads as it did. -/
def fnValidRulesUptoRow : OpenClaim := { program := "ytadjpmdammkfjaa", sum := "027c313f15aa8d31eafec33bca1f81561655ab0c834fc7380e3422f05efb46dc", func := "loop.example/promotionengine/laws.FnValidRules", spec := "fnValidRules", apart := false, narrowed := true }
def FnValidRulesUptoSaid : Prop := fnValidRulesUptoRow.holds Try.pinned (OpenSpec.upto fnValidRulesSpec)

/-- 'laws.FnValidRulesTwice', WHERE WHAT IT READS IS OF BULK AT MOST 1048576: true; the input reads as it did. -/
def fnValidRulesTwiceUptoRow : OpenClaim := { program := "ytadjpmdammkfjaa", sum := "027c313f15aa8d31eafec33bca1f81561655ab0c834fc7380e3422f05efb46dc", func := "loop.example/promotionengine/laws.FnValidRulesTwice", spec := "fnValidRulesTwice", apart := false, narrowed := true }
def FnValidRulesTwiceUptoSaid : Prop := fnValidRulesTwiceUptoRow.holds Try.pinned (OpenSpec.upto fnValidRulesTwiceSpec)

/-- 'laws.FnExactValidRules', WHERE WHAT IT READS IS OF BULK AT MOST 1048576: true; the input reads as it did. -/
def fnExactValidRulesUptoRow : OpenClaim := { program := "ytadjpmdammkfjaa", sum := "027c313f15aa8d31eafec33bca1f81561655ab0c834fc7380e3422f05efb46dc", func := "loop.example/promotionengine/laws.FnExactValidRules", spec := "fnExactValidRules", apart := false, narrowed := true }
def FnExactValidRulesUptoSaid : Prop := fnExactValidRulesUptoRow.holds Try.pinned (OpenSpec.upto fnExactValidRulesSpec)

/-- 'laws.FnRulesConflictGroups', WHERE WHAT IT READS IS OF BULK AT MOST 1048576: true; the input reads as it did. -/
def fnRulesConflictGroupsUptoRow : OpenClaim := { program := "ytadjpmdammkfjaa", sum := "027c313f15aa8d31eafec33bca1f81561655ab0c834fc7380e3422f05efb46dc", func := "loop.example/promotionengine/laws.FnRulesConflictGroups", spec := "fnRulesConflictGroups", apart := false, narrowed := true }
def FnRulesConflictGroupsUptoSaid : Prop := fnRulesConflictGroupsUptoRow.holds Try.pinned (OpenSpec.upto fnRulesConflictGroupsSpec)

/-- 'laws.FnRulesConflictRank', WHERE WHAT IT READS IS OF BULK AT MOST 1048576: true; the input reads as it did. -/
def fnRulesConflictRankUptoRow : OpenClaim := { program := "ytadjpmdammkfjaa", sum := "027c313f15aa8d31eafec33bca1f81561655ab0c834fc7380e3422f05efb46dc", func := "loop.example/promotionengine/laws.FnRulesConflictRank", spec := "fnRulesConflictRank", apart := false, narrowed := true }
def FnRulesConflictRankUptoSaid : Prop := fnRulesConflictRankUptoRow.holds Try.pinned (OpenSpec.upto fnRulesConflictRankSpec)

/-- 'laws.FnRulesConflict', WHERE WHAT IT READS IS OF BULK AT MOST 1048576: true; the input reads as it did. -/
def fnRulesConflictUptoRow : OpenClaim := { program := "ytadjpmdammkfjaa", sum := "027c313f15aa8d31eafec33bca1f81561655ab0c834fc7380e3422f05efb46dc", func := "loop.example/promotionengine/laws.FnRulesConflict", spec := "fnRulesConflict", apart := false, narrowed := true }
def FnRulesConflictUptoSaid : Prop := fnRulesConflictUptoRow.holds Try.pinned (OpenSpec.upto fnRulesConflictSpec)

/-- 'laws.FnExactRulesConflict', WHERE WHAT IT READS IS OF BULK AT MOST 1048576: true; the input reads as it did. -/
def fnExactRulesConflictUptoRow : OpenClaim := { program := "ytadjpmdammkfjaa", sum := "027c313f15aa8d31eafec33bca1f81561655ab0c834fc7380e3422f05efb46dc", func := "loop.example/promotionengine/laws.FnExactRulesConflict", spec := "fnExactRulesConflict", apart := false, narrowed := true }
def FnExactRulesConflictUptoSaid : Prop := fnExactRulesConflictUptoRow.holds Try.pinned (OpenSpec.upto fnExactRulesConflictSpec)

end Rows
end Go.Proofs.Ytadjpmdammkfjaa
