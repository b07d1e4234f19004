/-
  No cell of these rows narrows 'for every input' (looked for: loops, veiled, ifaces, maps, wideKeys, modest, calm, conditions, laid).
  DERIVED. THE GIVEN ROWS OF THIS SEAT. 17 by the template 'for every input the law returns true; each argument reads behind the call as it read before'; 0 by the template 'total and deterministic' (their statements: YtgklapdlambdlaaTotals.lean).
  GIVEN WITH THE SEED: the statements are not yours to turn. If you find one false, say at which input.
  Laid BY PROGRAM, IN A SANDBOX (cutbox-rows.mjs): the forced cells as the released guide's own fill.sh prints them over the translation 01b9a92c94492fc9… (all of the seat's roots in one cut). By AI agents, Wed Nov 11 2026. No macro, syntax, notation, axiom, sorry.
-/
import Derived.Test.YtgklapdlambdlaaChecked
import GoSem.Claim
import GoSem.ClaimJoined
import GoSem.ClaimMapViews
import Derived.JoinedTies
import Derived.KernelRfl
namespace Go.Proofs.Ytgklapdlambdlaa
/- THE CELL 'sum', in the pinned program and in every row, IS THE sha256 OF THE DUMP (.gsa) THAT YtgklapdlambdlaaProg.lean LOADS. Nothing in Lean hashes anything: it is a label: what it is worth is what the hold of that sum in a sandbox is worth. -/
noncomputable def Try.pinned : Pinned := { name := "ytgklapdlambdlaa", sum := "01b9a92c94492fc9719e7ccc44fbdf04e1c4bb7c972986089635607c013350d2", checked := Try.checked }
namespace Rows
def none {H : Type} : Left H := { results := [], args := [] }

/-- 'laws.FnExactTaxIn': WHATEVER THE INPUT: true; the input reads as it did. -/
def fnExactTaxInSpec : ChangeSpec := { name := "fnExactTaxIn", fn := fun _ => fun
  | [d1, d2] => { results := [.lit (.bool true)], args := [d1, d2] }
  | _ => none }
def fnExactTaxInRow : OpenClaim := { program := "ytgklapdlambdlaa", sum := "01b9a92c94492fc9719e7ccc44fbdf04e1c4bb7c972986089635607c013350d2", func := "loop.example/promotionengine/laws.FnExactTaxIn", spec := "fnExactTaxIn", apart := false }
def FnExactTaxInSaid : Prop := fnExactTaxInRow.holds Try.pinned (OpenSpec.ofChange fnExactTaxInSpec)

/-- ITS FALSE NEIGHBOUR: 'it returns false'. Refute it at one input. -/
def fnExactTaxInWrong : ChangeSpec := { name := "fnExactTaxIn", fn := fun _ => fun
  | [d1, d2] => { results := [.lit (.bool false)], args := [d1, d2] }
  | _ => none }
def FnExactTaxInWrongFalsely : Prop := fnExactTaxInRow.holds Try.pinned (OpenSpec.ofChange fnExactTaxInWrong)

/-- 'laws.FnExactGrossFor': WHATEVER THE INPUT: true; the input reads as it did. -/
def fnExactGrossForSpec : ChangeSpec := { name := "fnExactGrossFor", fn := fun _ => fun
  | [d1, d2] => { results := [.lit (.bool true)], args := [d1, d2] }
  | _ => none }
def fnExactGrossForRow : OpenClaim := { program := "ytgklapdlambdlaa", sum := "01b9a92c94492fc9719e7ccc44fbdf04e1c4bb7c972986089635607c013350d2", func := "loop.example/promotionengine/laws.FnExactGrossFor", spec := "fnExactGrossFor", apart := false }
def FnExactGrossForSaid : Prop := fnExactGrossForRow.holds Try.pinned (OpenSpec.ofChange fnExactGrossForSpec)

/-- ITS FALSE NEIGHBOUR: 'it returns false'. Refute it at one input. -/
def fnExactGrossForWrong : ChangeSpec := { name := "fnExactGrossFor", fn := fun _ => fun
  | [d1, d2] => { results := [.lit (.bool false)], args := [d1, d2] }
  | _ => none }
def FnExactGrossForWrongFalsely : Prop := fnExactGrossForRow.holds Try.pinned (OpenSpec.ofChange fnExactGrossForWrong)

/-- 'laws.FnTaxIn': WHATEVER THE INPUT: true; the input reads as it did. -/
def fnTaxInSpec : ChangeSpec := { name := "fnTaxIn", fn := fun _ => fun
  | [d] => { results := [.lit (.bool true)], args := [d] }
  | _ => none }
def fnTaxInRow : OpenClaim := { program := "ytgklapdlambdlaa", sum := "01b9a92c94492fc9719e7ccc44fbdf04e1c4bb7c972986089635607c013350d2", func := "loop.example/promotionengine/laws.FnTaxIn", spec := "fnTaxIn", apart := false }
def FnTaxInSaid : Prop := fnTaxInRow.holds Try.pinned (OpenSpec.ofChange fnTaxInSpec)

/-- ITS FALSE NEIGHBOUR: 'it returns false'. Refute it at one input. -/
def fnTaxInWrong : ChangeSpec := { name := "fnTaxIn", fn := fun _ => fun
  | [d] => { results := [.lit (.bool false)], args := [d] }
  | _ => none }
def FnTaxInWrongFalsely : Prop := fnTaxInRow.holds Try.pinned (OpenSpec.ofChange fnTaxInWrong)

/-- 'laws.FnTaxInNear': WHATEVER THE INPUT: true; the input reads as it did. -/
def fnTaxInNearSpec : ChangeSpec := { name := "fnTaxInNear", fn := fun _ => fun
  | [d] => { results := [.lit (.bool true)], args := [d] }
  | _ => none }
def fnTaxInNearRow : OpenClaim := { program := "ytgklapdlambdlaa", sum := "01b9a92c94492fc9719e7ccc44fbdf04e1c4bb7c972986089635607c013350d2", func := "loop.example/promotionengine/laws.FnTaxInNear", spec := "fnTaxInNear", apart := false }
def FnTaxInNearSaid : Prop := fnTaxInNearRow.holds Try.pinned (OpenSpec.ofChange fnTaxInNearSpec)

/-- ITS FALSE NEIGHBOUR: 'it returns false'. Refute it at one input. -/
def fnTaxInNearWrong : ChangeSpec := { name := "fnTaxInNear", fn := fun _ => fun
  | [d] => { results := [.lit (.bool false)], args := [d] }
  | _ => none }
def FnTaxInNearWrongFalsely : Prop := fnTaxInNearRow.holds Try.pinned (OpenSpec.ofChange fnTaxInNearWrong)

/-- 'laws.FnValidBook': WHATEVER THE INPUT: true; the input reads as it did. -/
def fnValidBookSpec : ChangeSpec := { name := "fnValidBook", fn := fun _ => fun
  | [d] => { results := [.lit (.bool true)], args := [d] }
  | _ => none }
def fnValidBookRow : OpenClaim := { program := "ytgklapdlambdlaa", sum := "01b9a92c94492fc9719e7ccc44fbdf04e1c4bb7c972986089635607c013350d2", func := "loop.example/promotionengine/laws.FnValidBook", spec := "fnValidBook", apart := false }
def FnValidBookSaid : Prop := fnValidBookRow.holds Try.pinned (OpenSpec.ofChange fnValidBookSpec)

/-- ITS FALSE NEIGHBOUR: 'it returns false'. Refute it at one input. -/
def fnValidBookWrong : ChangeSpec := { name := "fnValidBook", fn := fun _ => fun
  | [d] => { results := [.lit (.bool false)], args := [d] }
  | _ => none }
def FnValidBookWrongFalsely : Prop := fnValidBookRow.holds Try.pinned (OpenSpec.ofChange fnValidBookWrong)

/-- 'laws.FnExactValidBook': WHATEVER THE INPUT: true; the input reads as it did. -/
def fnExactValidBookSpec : ChangeSpec := { name := "fnExactValidBook", fn := fun _ => fun
  | [d] => { results := [.lit (.bool true)], args := [d] }
  | _ => none }
def fnExactValidBookRow : OpenClaim := { program := "ytgklapdlambdlaa", sum := "01b9a92c94492fc9719e7ccc44fbdf04e1c4bb7c972986089635607c013350d2", func := "loop.example/promotionengine/laws.FnExactValidBook", spec := "fnExactValidBook", apart := false }
def FnExactValidBookSaid : Prop := fnExactValidBookRow.holds Try.pinned (OpenSpec.ofChange fnExactValidBookSpec)

/-- ITS FALSE NEIGHBOUR: 'it returns false'. Refute it at one input. -/
def fnExactValidBookWrong : ChangeSpec := { name := "fnExactValidBook", fn := fun _ => fun
  | [d] => { results := [.lit (.bool false)], args := [d] }
  | _ => none }
def FnExactValidBookWrongFalsely : Prop := fnExactValidBookRow.holds Try.pinned (OpenSpec.ofChange fnExactValidBookWrong)

/-- 'laws.FnUsableCoupons': WHATEVER THE INPUT: true; the input reads as it did. -/
def fnUsableCouponsSpec : ChangeSpec := { name := "fnUsableCoupons", fn := fun _ => fun
  | [d] => { results := [.lit (.bool true)], args := [d] }
  | _ => none }
def fnUsableCouponsRow : OpenClaim := { program := "ytgklapdlambdlaa", sum := "01b9a92c94492fc9719e7ccc44fbdf04e1c4bb7c972986089635607c013350d2", func := "loop.example/promotionengine/laws.FnUsableCoupons", spec := "fnUsableCoupons", apart := false }
def FnUsableCouponsSaid : Prop := fnUsableCouponsRow.holds Try.pinned (OpenSpec.ofChange fnUsableCouponsSpec)

/-- ITS FALSE NEIGHBOUR: 'it returns false'. Refute it at one input. -/
def fnUsableCouponsWrong : ChangeSpec := { name := "fnUsableCoupons", fn := fun _ => fun
  | [d] => { results := [.lit (.bool false)], args := [d] }
  | _ => none }
def FnUsableCouponsWrongFalsely : Prop := fnUsableCouponsRow.holds Try.pinned (OpenSpec.ofChange fnUsableCouponsWrong)

/-- 'laws.FnUsableCouponsLater': WHATEVER THE INPUT: true; the input reads as it did. -/
def fnUsableCouponsLaterSpec : ChangeSpec := { name := "fnUsableCouponsLater", fn := fun _ => fun
  | [d] => { results := [.lit (.bool true)], args := [d] }
  | _ => none }
def fnUsableCouponsLaterRow : OpenClaim := { program := "ytgklapdlambdlaa", sum := "01b9a92c94492fc9719e7ccc44fbdf04e1c4bb7c972986089635607c013350d2", func := "loop.example/promotionengine/laws.FnUsableCouponsLater", spec := "fnUsableCouponsLater", apart := false }
def FnUsableCouponsLaterSaid : Prop := fnUsableCouponsLaterRow.holds Try.pinned (OpenSpec.ofChange fnUsableCouponsLaterSpec)

/-- ITS FALSE NEIGHBOUR: 'it returns false'. Refute it at one input. -/
def fnUsableCouponsLaterWrong : ChangeSpec := { name := "fnUsableCouponsLater", fn := fun _ => fun
  | [d] => { results := [.lit (.bool false)], args := [d] }
  | _ => none }
def FnUsableCouponsLaterWrongFalsely : Prop := fnUsableCouponsLaterRow.holds Try.pinned (OpenSpec.ofChange fnUsableCouponsLaterWrong)

/-- 'laws.FnExactUsableCoupons': WHATEVER THE INPUT: true; the input reads as it did. -/
def fnExactUsableCouponsSpec : ChangeSpec := { name := "fnExactUsableCoupons", fn := fun _ => fun
  | [d1, d2] => { results := [.lit (.bool true)], args := [d1, d2] }
  | _ => none }
def fnExactUsableCouponsRow : OpenClaim := { program := "ytgklapdlambdlaa", sum := "01b9a92c94492fc9719e7ccc44fbdf04e1c4bb7c972986089635607c013350d2", func := "loop.example/promotionengine/laws.FnExactUsableCoupons", spec := "fnExactUsableCoupons", apart := false }
def FnExactUsableCouponsSaid : Prop := fnExactUsableCouponsRow.holds Try.pinned (OpenSpec.ofChange fnExactUsableCouponsSpec)

/-- ITS FALSE NEIGHBOUR: 'it returns false'. Refute it at one input. -/
def fnExactUsableCouponsWrong : ChangeSpec := { name := "fnExactUsableCoupons", fn := fun _ => fun
  | [d1, d2] => { results := [.lit (.bool false)], args := [d1, d2] }
  | _ => none }
def FnExactUsableCouponsWrongFalsely : Prop := fnExactUsableCouponsRow.holds Try.pinned (OpenSpec.ofChange fnExactUsableCouponsWrong)

/-- 'laws.FnUsableCouponsUse': WHATEVER THE INPUT: true; the input reads as it did. -/
def fnUsableCouponsUseSpec : ChangeSpec := { name := "fnUsableCouponsUse", fn := fun _ => fun
  | [d] => { results := [.lit (.bool true)], args := [d] }
  | _ => none }
def fnUsableCouponsUseRow : OpenClaim := { program := "ytgklapdlambdlaa", sum := "01b9a92c94492fc9719e7ccc44fbdf04e1c4bb7c972986089635607c013350d2", func := "loop.example/promotionengine/laws.FnUsableCouponsUse", spec := "fnUsableCouponsUse", apart := false }
def FnUsableCouponsUseSaid : Prop := fnUsableCouponsUseRow.holds Try.pinned (OpenSpec.ofChange fnUsableCouponsUseSpec)

/-- ITS FALSE NEIGHBOUR: 'it returns false'. Refute it at one input. -/
def fnUsableCouponsUseWrong : ChangeSpec := { name := "fnUsableCouponsUse", fn := fun _ => fun
  | [d] => { results := [.lit (.bool false)], args := [d] }
  | _ => none }
def FnUsableCouponsUseWrongFalsely : Prop := fnUsableCouponsUseRow.holds Try.pinned (OpenSpec.ofChange fnUsableCouponsUseWrong)

/-- 'laws.FnReturnCoupons': WHATEVER THE INPUT: true; the input reads as it did. -/
def fnReturnCouponsSpec : ChangeSpec := { name := "fnReturnCoupons", fn := fun _ => fun
  | [d] => { results := [.lit (.bool true)], args := [d] }
  | _ => none }
def fnReturnCouponsRow : OpenClaim := { program := "ytgklapdlambdlaa", sum := "01b9a92c94492fc9719e7ccc44fbdf04e1c4bb7c972986089635607c013350d2", func := "loop.example/promotionengine/laws.FnReturnCoupons", spec := "fnReturnCoupons", apart := false }
def FnReturnCouponsSaid : Prop := fnReturnCouponsRow.holds Try.pinned (OpenSpec.ofChange fnReturnCouponsSpec)

/-- ITS FALSE NEIGHBOUR: 'it returns false'. Refute it at one input. -/
def fnReturnCouponsWrong : ChangeSpec := { name := "fnReturnCoupons", fn := fun _ => fun
  | [d] => { results := [.lit (.bool false)], args := [d] }
  | _ => none }
def FnReturnCouponsWrongFalsely : Prop := fnReturnCouponsRow.holds Try.pinned (OpenSpec.ofChange fnReturnCouponsWrong)

/-- 'laws.FnExactReturnCoupons': WHATEVER THE INPUT: true; the input reads as it did. -/
def fnExactReturnCouponsSpec : ChangeSpec := { name := "fnExactReturnCoupons", fn := fun _ => fun
  | [d1, d2] => { results := [.lit (.bool true)], args := [d1, d2] }
  | _ => none }
def fnExactReturnCouponsRow : OpenClaim := { program := "ytgklapdlambdlaa", sum := "01b9a92c94492fc9719e7ccc44fbdf04e1c4bb7c972986089635607c013350d2", func := "loop.example/promotionengine/laws.FnExactReturnCoupons", spec := "fnExactReturnCoupons", apart := false }
def FnExactReturnCouponsSaid : Prop := fnExactReturnCouponsRow.holds Try.pinned (OpenSpec.ofChange fnExactReturnCouponsSpec)

/-- ITS FALSE NEIGHBOUR: 'it returns false'. Refute it at one input. -/
def fnExactReturnCouponsWrong : ChangeSpec := { name := "fnExactReturnCoupons", fn := fun _ => fun
  | [d1, d2] => { results := [.lit (.bool false)], args := [d1, d2] }
  | _ => none }
def FnExactReturnCouponsWrongFalsely : Prop := fnExactReturnCouponsRow.holds Try.pinned (OpenSpec.ofChange fnExactReturnCouponsWrong)

/-- 'laws.FnReturnCouponsUse': WHATEVER THE INPUT: true; the input reads as it did. -/
def fnReturnCouponsUseSpec : ChangeSpec := { name := "fnReturnCouponsUse", fn := fun _ => fun
  | [d] => { results := [.lit (.bool true)], args := [d] }
  | _ => none }
def fnReturnCouponsUseRow : OpenClaim := { program := "ytgklapdlambdlaa", sum := "01b9a92c94492fc9719e7ccc44fbdf04e1c4bb7c972986089635607c013350d2", func := "loop.example/promotionengine/laws.FnReturnCouponsUse", spec := "fnReturnCouponsUse", apart := false }
def FnReturnCouponsUseSaid : Prop := fnReturnCouponsUseRow.holds Try.pinned (OpenSpec.ofChange fnReturnCouponsUseSpec)

/-- ITS FALSE NEIGHBOUR: 'it returns false'. Refute it at one input. -/
def fnReturnCouponsUseWrong : ChangeSpec := { name := "fnReturnCouponsUse", fn := fun _ => fun
  | [d] => { results := [.lit (.bool false)], args := [d] }
  | _ => none }
def FnReturnCouponsUseWrongFalsely : Prop := fnReturnCouponsUseRow.holds Try.pinned (OpenSpec.ofChange fnReturnCouponsUseWrong)

/-- 'laws.FnUseCoupons': WHATEVER THE INPUT: true; the input reads as it did. -/
def fnUseCouponsSpec : ChangeSpec := { name := "fnUseCoupons", fn := fun _ => fun
  | [d] => { results := [.lit (.bool true)], args := [d] }
  | _ => none }
def fnUseCouponsRow : OpenClaim := { program := "ytgklapdlambdlaa", sum := "01b9a92c94492fc9719e7ccc44fbdf04e1c4bb7c972986089635607c013350d2", func := "loop.example/promotionengine/laws.FnUseCoupons", spec := "fnUseCoupons", apart := false }
def FnUseCouponsSaid : Prop := fnUseCouponsRow.holds Try.pinned (OpenSpec.ofChange fnUseCouponsSpec)

/-- ITS FALSE NEIGHBOUR: 'it returns false'. Refute it at one input. -/
def fnUseCouponsWrong : ChangeSpec := { name := "fnUseCoupons", fn := fun _ => fun
  | [d] => { results := [.lit (.bool false)], args := [d] }
  | _ => none }
def FnUseCouponsWrongFalsely : Prop := fnUseCouponsRow.holds Try.pinned (OpenSpec.ofChange fnUseCouponsWrong)

/-- 'laws.FnUseCouponsUsable': WHATEVER THE INPUT: true; the input reads as it did. -/
def fnUseCouponsUsableSpec : ChangeSpec := { name := "fnUseCouponsUsable", fn := fun _ => fun
  | [d] => { results := [.lit (.bool true)], args := [d] }
  | _ => none }
def fnUseCouponsUsableRow : OpenClaim := { program := "ytgklapdlambdlaa", sum := "01b9a92c94492fc9719e7ccc44fbdf04e1c4bb7c972986089635607c013350d2", func := "loop.example/promotionengine/laws.FnUseCouponsUsable", spec := "fnUseCouponsUsable", apart := false }
def FnUseCouponsUsableSaid : Prop := fnUseCouponsUsableRow.holds Try.pinned (OpenSpec.ofChange fnUseCouponsUsableSpec)

/-- ITS FALSE NEIGHBOUR: 'it returns false'. Refute it at one input. -/
def fnUseCouponsUsableWrong : ChangeSpec := { name := "fnUseCouponsUsable", fn := fun _ => fun
  | [d] => { results := [.lit (.bool false)], args := [d] }
  | _ => none }
def FnUseCouponsUsableWrongFalsely : Prop := fnUseCouponsUsableRow.holds Try.pinned (OpenSpec.ofChange fnUseCouponsUsableWrong)

/-- 'laws.FnUseCouponsReturn': WHATEVER THE INPUT: true; the input reads as it did. -/
def fnUseCouponsReturnSpec : ChangeSpec := { name := "fnUseCouponsReturn", fn := fun _ => fun
  | [d] => { results := [.lit (.bool true)], args := [d] }
  | _ => none }
def fnUseCouponsReturnRow : OpenClaim := { program := "ytgklapdlambdlaa", sum := "01b9a92c94492fc9719e7ccc44fbdf04e1c4bb7c972986089635607c013350d2", func := "loop.example/promotionengine/laws.FnUseCouponsReturn", spec := "fnUseCouponsReturn", apart := false }
def FnUseCouponsReturnSaid : Prop := fnUseCouponsReturnRow.holds Try.pinned (OpenSpec.ofChange fnUseCouponsReturnSpec)

/-- ITS FALSE NEIGHBOUR: 'it returns false'. Refute it at one input. -/
def fnUseCouponsReturnWrong : ChangeSpec := { name := "fnUseCouponsReturn", fn := fun _ => fun
  | [d] => { results := [.lit (.bool false)], args := [d] }
  | _ => none }
def FnUseCouponsReturnWrongFalsely : Prop := fnUseCouponsReturnRow.holds Try.pinned (OpenSpec.ofChange fnUseCouponsReturnWrong)

/-- 'laws.FnExactUseCoupons': WHATEVER THE INPUT: true; the input reads as it did. -/
def fnExactUseCouponsSpec : ChangeSpec := { name := "fnExactUseCoupons", fn := fun _ => fun
  | [d1, d2, d3] => { results := [.lit (.bool true)], args := [d1, d2, d3] }
  | _ => none }
def fnExactUseCouponsRow : OpenClaim := { program := "ytgklapdlambdlaa", sum := "01b9a92c94492fc9719e7ccc44fbdf04e1c4bb7c972986089635607c013350d2", func := "loop.example/promotionengine/laws.FnExactUseCoupons", spec := "fnExactUseCoupons", apart := false }
def FnExactUseCouponsSaid : Prop := fnExactUseCouponsRow.holds Try.pinned (OpenSpec.ofChange fnExactUseCouponsSpec)

/-- ITS FALSE NEIGHBOUR: 'it returns false'. Refute it at one input. -/
def fnExactUseCouponsWrong : ChangeSpec := { name := "fnExactUseCoupons", fn := fun _ => fun
  | [d1, d2, d3] => { results := [.lit (.bool false)], args := [d1, d2, d3] }
  | _ => none }
def FnExactUseCouponsWrongFalsely : Prop := fnExactUseCouponsRow.holds Try.pinned (OpenSpec.ofChange fnExactUseCouponsWrong)

/- THE SECOND FORM. 'bulk': how many values and letters a reading holds, each counted each time it is reached (what is shared counts as often as it is met; a slice's spare places count too). A statement '..UptoSaid' is the law's where the arguments, and the package variables that the reading takes, are together of bulk at most 1048576: NARROWER than '..Said'. Prove '..Said' where nothing that the law and all that it calls make is longer than what came in: it says more and counts as full. Else prove '..UptoSaid'. A law counts once. -/
mutual
def uptoBulk {H : Type} : DataW H → Nat
  | .lit (.string bytes) => bytes.length + 1
  | .lit _ => 1
  | .nil => 1
  | .ptr d => uptoBulk d + 1
  | .slice elems spare => uptoBulkAll elems + uptoBulkAll spare + 1
  | .agg parts => uptoBulkAll parts + 1
  | .iface _ d => uptoBulk d + 1
  | .map entries => uptoBulkEntries entries + 1
  | .held _ => 1
def uptoBulkAll {H : Type} : List (DataW H) → Nat
  | [] => 0
  | d :: r => uptoBulk d + uptoBulkAll r
def uptoBulkEntries {H : Type} : List (Lit × DataW H) → Nat
  | [] => 0
  | x :: r => uptoBulkEntry x + uptoBulkEntries r
def uptoBulkEntry {H : Type} : Lit × DataW H → Nat
  | (.string bytes, d) => bytes.length + uptoBulk d + 1
  | (_, d) => uptoBulk d + 1
 end
def uptoSmall : (H : Type) → List (DataW H) → Bool := fun _ ds => decide (uptoBulkAll ds ≤ 1048576)
def OpenSpec.upto (s : _root_.Go.ChangeSpec) : _root_.Go.OpenSpec := { _root_.Go.OpenSpec.ofChange s with cond := some uptoSmall }

/-- 'laws.FnExactTaxIn', WHERE WHAT IT READS IS OF BULK AT MOST 1048576: true; the input reads as it did. -/
def fnExactTaxInUptoRow : OpenClaim := { program := "ytgklapdlambdlaa", sum := "01b9a92c94492fc9719e7ccc44fbdf04e1c4bb7c972986089635607c013350d2", func := "loop.example/promotionengine/laws.FnExactTaxIn", spec := "fnExactTaxIn", apart := false, narrowed := true }
def FnExactTaxInUptoSaid : Prop := fnExactTaxInUptoRow.holds Try.pinned (OpenSpec.upto fnExactTaxInSpec)

/-- 'laws.FnExactGrossFor', WHERE WHAT IT READS IS OF BULK AT MOST 1048576: true; the input reads as it did. -/
def fnExactGrossForUptoRow : OpenClaim := { program := "ytgklapdlambdlaa", sum := "01b9a92c94492fc9719e7ccc44fbdf04e1c4bb7c972986089635607c013350d2", func := "loop.example/promotionengine/laws.FnExactGrossFor", spec := "fnExactGrossFor", apart := false, narrowed := true }
def FnExactGrossForUptoSaid : Prop := fnExactGrossForUptoRow.holds Try.pinned (OpenSpec.upto fnExactGrossForSpec)

/-- 'laws.FnTaxIn', WHERE WHAT IT READS IS OF BULK AT MOST 1048576: true; the input reads as it did. -/
def fnTaxInUptoRow : OpenClaim := { program := "ytgklapdlambdlaa", sum := "01b9a92c94492fc9719e7ccc44fbdf04e1c4bb7c972986089635607c013350d2", func := "loop.example/promotionengine/laws.FnTaxIn", spec := "fnTaxIn", apart := false, narrowed := true }
def FnTaxInUptoSaid : Prop := fnTaxInUptoRow.holds Try.pinned (OpenSpec.upto fnTaxInSpec)

/-- 'laws.FnTaxInNear', WHERE WHAT IT READS IS OF BULK AT MOST 1048576: true; the input reads as it did. -/
def fnTaxInNearUptoRow : OpenClaim := { program := "ytgklapdlambdlaa", sum := "01b9a92c94492fc9719e7ccc44fbdf04e1c4bb7c972986089635607c013350d2", func := "loop.example/promotionengine/laws.FnTaxInNear", spec := "fnTaxInNear", apart := false, narrowed := true }
def FnTaxInNearUptoSaid : Prop := fnTaxInNearUptoRow.holds Try.pinned (OpenSpec.upto fnTaxInNearSpec)

/-- 'laws.FnValidBook', WHERE WHAT IT READS IS OF BULK AT MOST 1048576: true; the input reads as it did. -/
def fnValidBookUptoRow : OpenClaim := { program := "ytgklapdlambdlaa", sum := "01b9a92c94492fc9719e7ccc44fbdf04e1c4bb7c972986089635607c013350d2", func := "loop.example/promotionengine/laws.FnValidBook", spec := "fnValidBook", apart := false, narrowed := true }
def FnValidBookUptoSaid : Prop := fnValidBookUptoRow.holds Try.pinned (OpenSpec.upto fnValidBookSpec)

/-- 'laws.FnExactValidBook', WHERE WHAT IT READS IS OF BULK AT MOST 1048576: true; the input reads as it did. -/
def fnExactValidBookUptoRow : OpenClaim := { program := "ytgklapdlambdlaa", sum := "01b9a92c94492fc9719e7ccc44fbdf04e1c4bb7c972986089635607c013350d2", func := "loop.example/promotionengine/laws.FnExactValidBook", spec := "fnExactValidBook", apart := false, narrowed := true }
def FnExactValidBookUptoSaid : Prop := fnExactValidBookUptoRow.holds Try.pinned (OpenSpec.upto fnExactValidBookSpec)

/-- 'laws.FnUsableCoupons', WHERE WHAT IT READS IS OF BULK AT MOST 1048576: true; the input reads as it did. -/
def fnUsableCouponsUptoRow : OpenClaim := { program := "ytgklapdlambdlaa", sum := "01b9a92c94492fc9719e7ccc44fbdf04e1c4bb7c972986089635607c013350d2", func := "loop.example/promotionengine/laws.FnUsableCoupons", spec := "fnUsableCoupons", apart := false, narrowed := true }
def FnUsableCouponsUptoSaid : Prop := fnUsableCouponsUptoRow.holds Try.pinned (OpenSpec.upto fnUsableCouponsSpec)

/-- 'laws.FnUsableCouponsLater', WHERE WHAT IT READS IS OF BULK AT MOST 1048576: true; the input reads as it did. -/
def fnUsableCouponsLaterUptoRow : OpenClaim := { program := "ytgklapdlambdlaa", sum := "01b9a92c94492fc9719e7ccc44fbdf04e1c4bb7c972986089635607c013350d2", func := "loop.example/promotionengine/laws.FnUsableCouponsLater", spec := "fnUsableCouponsLater", apart := false, narrowed := true }
def FnUsableCouponsLaterUptoSaid : Prop := fnUsableCouponsLaterUptoRow.holds Try.pinned (OpenSpec.upto fnUsableCouponsLaterSpec)

/-- 'laws.FnExactUsableCoupons', WHERE WHAT IT READS IS OF BULK AT MOST 1048576: true; the input reads as it did. -/
def fnExactUsableCouponsUptoRow : OpenClaim := { program := "ytgklapdlambdlaa", sum := "01b9a92c94492fc9719e7ccc44fbdf04e1c4bb7c972986089635607c013350d2", func := "loop.example/promotionengine/laws.FnExactUsableCoupons", spec := "fnExactUsableCoupons", apart := false, narrowed := true }
def FnExactUsableCouponsUptoSaid : Prop := fnExactUsableCouponsUptoRow.holds Try.pinned (OpenSpec.upto fnExactUsableCouponsSpec)

/-- 'laws.FnUsableCouponsUse', WHERE WHAT IT READS IS OF BULK AT MOST 1048576: true; the input reads as it did. -/
def fnUsableCouponsUseUptoRow : OpenClaim := { program := "ytgklapdlambdlaa", sum := "01b9a92c94492fc9719e7ccc44fbdf04e1c4bb7c972986089635607c013350d2", func := "loop.example/promotionengine/laws.FnUsableCouponsUse", spec := "fnUsableCouponsUse", apart := false, narrowed := true }
def FnUsableCouponsUseUptoSaid : Prop := fnUsableCouponsUseUptoRow.holds Try.pinned (OpenSpec.upto fnUsableCouponsUseSpec)

/-- 'laws.FnReturnCoupons', WHERE WHAT IT READS IS OF BULK AT MOST 1048576: true; the input reads as it did. -/
def fnReturnCouponsUptoRow : OpenClaim := { program := "ytgklapdlambdlaa", sum := "01b9a92c94492fc9719e7ccc44fbdf04e1c4bb7c972986089635607c013350d2", func := "loop.example/promotionengine/laws.FnReturnCoupons", spec := "fnReturnCoupons", apart := false, narrowed := true }
def FnReturnCouponsUptoSaid : Prop := fnReturnCouponsUptoRow.holds Try.pinned (OpenSpec.upto fnReturnCouponsSpec)

/-- 'laws.FnExactReturnCoupons', WHERE WHAT IT READS IS OF BULK AT MOST 1048576: true; the input reads as it did. -/
def fnExactReturnCouponsUptoRow : OpenClaim := { program := "ytgklapdlambdlaa", sum := "01b9a92c94492fc9719e7ccc44fbdf04e1c4bb7c972986089635607c013350d2", func := "loop.example/promotionengine/laws.FnExactReturnCoupons", spec := "fnExactReturnCoupons", apart := false, narrowed := true }
def FnExactReturnCouponsUptoSaid : Prop := fnExactReturnCouponsUptoRow.holds Try.pinned (OpenSpec.upto fnExactReturnCouponsSpec)

/-- 'laws.FnReturnCouponsUse', WHERE WHAT IT READS IS OF BULK AT MOST 1048576: true; the input reads as it did. -/
def fnReturnCouponsUseUptoRow : OpenClaim := { program := "ytgklapdlambdlaa", sum := "01b9a92c94492fc9719e7ccc44fbdf04e1c4bb7c972986089635607c013350d2", func := "loop.example/promotionengine/laws.FnReturnCouponsUse", spec := "fnReturnCouponsUse", apart := false, narrowed := true }
def FnReturnCouponsUseUptoSaid : Prop := fnReturnCouponsUseUptoRow.holds Try.pinned (OpenSpec.upto fnReturnCouponsUseSpec)

/-- 'laws.FnUseCoupons', WHERE WHAT IT READS IS OF BULK AT MOST 1048576: true; the input reads as it did. -/
def fnUseCouponsUptoRow : OpenClaim := { program := "ytgklapdlambdlaa", sum := "01b9a92c94492fc9719e7ccc44fbdf04e1c4bb7c972986089635607c013350d2", func := "loop.example/promotionengine/laws.FnUseCoupons", spec := "fnUseCoupons", apart := false, narrowed := true }
def FnUseCouponsUptoSaid : Prop := fnUseCouponsUptoRow.holds Try.pinned (OpenSpec.upto fnUseCouponsSpec)

/-- 'laws.FnUseCouponsUsable', WHERE WHAT IT READS IS OF BULK AT MOST 1048576: true; the input reads as it did. -/
def fnUseCouponsUsableUptoRow : OpenClaim := { program := "ytgklapdlambdlaa", sum := "01b9a92c94492fc9719e7ccc44fbdf04e1c4bb7c972986089635607c013350d2", func := "loop.example/promotionengine/laws.FnUseCouponsUsable", spec := "fnUseCouponsUsable", apart := false, narrowed := true }
def FnUseCouponsUsableUptoSaid : Prop := fnUseCouponsUsableUptoRow.holds Try.pinned (OpenSpec.upto fnUseCouponsUsableSpec)

/-- 'laws.FnUseCouponsReturn', WHERE WHAT IT READS IS OF BULK AT MOST 1048576: true; the input reads as it did. -/
def fnUseCouponsReturnUptoRow : OpenClaim := { program := "ytgklapdlambdlaa", sum := "01b9a92c94492fc9719e7ccc44fbdf04e1c4bb7c972986089635607c013350d2", func := "loop.example/promotionengine/laws.FnUseCouponsReturn", spec := "fnUseCouponsReturn", apart := false, narrowed := true }
def FnUseCouponsReturnUptoSaid : Prop := fnUseCouponsReturnUptoRow.holds Try.pinned (OpenSpec.upto fnUseCouponsReturnSpec)

/-- 'laws.FnExactUseCoupons', WHERE WHAT IT READS IS OF BULK AT MOST 1048576: true; the input reads as it did. -/
def fnExactUseCouponsUptoRow : OpenClaim := { program := "ytgklapdlambdlaa", sum := "01b9a92c94492fc9719e7ccc44fbdf04e1c4bb7c972986089635607c013350d2", func := "loop.example/promotionengine/laws.FnExactUseCoupons", spec := "fnExactUseCoupons", apart := false, narrowed := true }
def FnExactUseCouponsUptoSaid : Prop := fnExactUseCouponsUptoRow.holds Try.pinned (OpenSpec.upto fnExactUseCouponsSpec)

end Rows
end Go.Proofs.Ytgklapdlambdlaa
