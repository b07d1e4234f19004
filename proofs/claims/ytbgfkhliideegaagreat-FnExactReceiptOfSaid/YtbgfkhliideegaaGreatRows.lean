/-
  No cell of these rows narrows 'for every input' (looked for: loops, veiled, ifaces, maps, wideKeys, modest, calm, conditions, laid).
  DERIVED. THE GIVEN ROWS OF THIS SEAT. 18 by the template 'for every input the law returns true; each argument reads behind the call as it read before'; 0 by the template 'total and deterministic' (their statements: YtbgfkhliideegaaGreatTotals.lean).
  GIVEN WITH THE SEED: the statements are not yours to turn. If you find one false, say at which input.
  Laid BY PROGRAM, IN A SANDBOX (cutbox-rows.mjs): the forced cells as the released guide's own fill.sh prints them over the translation e6bb953a807b4091… (all of the seat's roots in one cut). By AI agents, Wed Nov 11 2026. No macro, syntax, notation, axiom, sorry.
-/
import Derived.Test.YtbgfkhliideegaaGreatChecked
import GoSem.Claim
import GoSem.ClaimJoined
import GoSem.ClaimMapViews
import Derived.JoinedTies
import Derived.KernelRfl
namespace Go.Proofs.YtbgfkhliideegaaGreat
/- THE CELL 'sum', in the pinned program and in every row, IS THE sha256 OF THE DUMP (.gsa) THAT YtbgfkhliideegaaGreatProg.lean LOADS. Nothing in Lean hashes anything: it is a label: what it is worth is what the hold of that sum in a sandbox is worth. -/
noncomputable def Tryz.pinned : Pinned := { name := "ytbgfkhliideegaagreat", sum := "e6bb953a807b40917a16d44416bada67ff8b8ee0489216e29755d876326a3912", checked := Tryz.checked }
namespace Rows
def none {H : Type} : Left H := { results := [], args := [] }

/-- 'laws.FnUsefulCoupons': WHATEVER THE INPUT: true; the input reads as it did. -/
def fnUsefulCouponsSpec : ChangeSpec := { name := "fnUsefulCoupons", fn := fun _ => fun
  | [d] => { results := [.lit (.bool true)], args := [d] }
  | _ => none }
def fnUsefulCouponsRow : OpenClaim := { program := "ytbgfkhliideegaagreat", sum := "e6bb953a807b40917a16d44416bada67ff8b8ee0489216e29755d876326a3912", func := "loop.example/promotionengine/laws.FnUsefulCoupons", spec := "fnUsefulCoupons", unfollowed := true, recurses := true, apart := false }
def FnUsefulCouponsSaid : Prop := fnUsefulCouponsRow.holds Tryz.pinned (OpenSpec.ofChange fnUsefulCouponsSpec)

/-- ITS FALSE NEIGHBOUR: 'it returns false'. Refute it at one input. -/
def fnUsefulCouponsWrong : ChangeSpec := { name := "fnUsefulCoupons", fn := fun _ => fun
  | [d] => { results := [.lit (.bool false)], args := [d] }
  | _ => none }
def FnUsefulCouponsWrongFalsely : Prop := fnUsefulCouponsRow.holds Tryz.pinned (OpenSpec.ofChange fnUsefulCouponsWrong)

/-- 'laws.FnExactUsefulCoupons': WHATEVER THE INPUT: true; the input reads as it did. -/
def fnExactUsefulCouponsSpec : ChangeSpec := { name := "fnExactUsefulCoupons", fn := fun _ => fun
  | [d1, d2, d3, d4] => { results := [.lit (.bool true)], args := [d1, d2, d3, d4] }
  | _ => none }
def fnExactUsefulCouponsRow : OpenClaim := { program := "ytbgfkhliideegaagreat", sum := "e6bb953a807b40917a16d44416bada67ff8b8ee0489216e29755d876326a3912", func := "loop.example/promotionengine/laws.FnExactUsefulCoupons", spec := "fnExactUsefulCoupons", unfollowed := true, recurses := true, apart := false }
def FnExactUsefulCouponsSaid : Prop := fnExactUsefulCouponsRow.holds Tryz.pinned (OpenSpec.ofChange fnExactUsefulCouponsSpec)

/-- ITS FALSE NEIGHBOUR: 'it returns false'. Refute it at one input. -/
def fnExactUsefulCouponsWrong : ChangeSpec := { name := "fnExactUsefulCoupons", fn := fun _ => fun
  | [d1, d2, d3, d4] => { results := [.lit (.bool false)], args := [d1, d2, d3, d4] }
  | _ => none }
def FnExactUsefulCouponsWrongFalsely : Prop := fnExactUsefulCouponsRow.holds Tryz.pinned (OpenSpec.ofChange fnExactUsefulCouponsWrong)

/-- 'laws.FnExactReceiptOf': WHATEVER THE INPUT: true; the input reads as it did. -/
def fnExactReceiptOfSpec : ChangeSpec := { name := "fnExactReceiptOf", fn := fun _ => fun
  | [d1, d2, d3, d4] => { results := [.lit (.bool true)], args := [d1, d2, d3, d4] }
  | _ => none }
def fnExactReceiptOfRow : OpenClaim := { program := "ytbgfkhliideegaagreat", sum := "e6bb953a807b40917a16d44416bada67ff8b8ee0489216e29755d876326a3912", func := "loop.example/promotionengine/laws.FnExactReceiptOf", spec := "fnExactReceiptOf", unfollowed := true, recurses := true, apart := false }
def FnExactReceiptOfSaid : Prop := fnExactReceiptOfRow.holds Tryz.pinned (OpenSpec.ofChange fnExactReceiptOfSpec)

/-- ITS FALSE NEIGHBOUR: 'it returns false'. Refute it at one input. -/
def fnExactReceiptOfWrong : ChangeSpec := { name := "fnExactReceiptOf", fn := fun _ => fun
  | [d1, d2, d3, d4] => { results := [.lit (.bool false)], args := [d1, d2, d3, d4] }
  | _ => none }
def FnExactReceiptOfWrongFalsely : Prop := fnExactReceiptOfRow.holds Tryz.pinned (OpenSpec.ofChange fnExactReceiptOfWrong)

/-- 'laws.FnPayOfOne': WHATEVER THE INPUT: true; the input reads as it did. -/
def fnPayOfOneSpec : ChangeSpec := { name := "fnPayOfOne", fn := fun _ => fun
  | [d] => { results := [.lit (.bool true)], args := [d] }
  | _ => none }
def fnPayOfOneRow : OpenClaim := { program := "ytbgfkhliideegaagreat", sum := "e6bb953a807b40917a16d44416bada67ff8b8ee0489216e29755d876326a3912", func := "loop.example/promotionengine/laws.FnPayOfOne", spec := "fnPayOfOne", unfollowed := true, recurses := true, apart := false }
def FnPayOfOneSaid : Prop := fnPayOfOneRow.holds Tryz.pinned (OpenSpec.ofChange fnPayOfOneSpec)

/-- ITS FALSE NEIGHBOUR: 'it returns false'. Refute it at one input. -/
def fnPayOfOneWrong : ChangeSpec := { name := "fnPayOfOne", fn := fun _ => fun
  | [d] => { results := [.lit (.bool false)], args := [d] }
  | _ => none }
def FnPayOfOneWrongFalsely : Prop := fnPayOfOneRow.holds Tryz.pinned (OpenSpec.ofChange fnPayOfOneWrong)

/-- 'laws.FnPayOfFirst': WHATEVER THE INPUT: true; the input reads as it did. -/
def fnPayOfFirstSpec : ChangeSpec := { name := "fnPayOfFirst", fn := fun _ => fun
  | [d] => { results := [.lit (.bool true)], args := [d] }
  | _ => none }
def fnPayOfFirstRow : OpenClaim := { program := "ytbgfkhliideegaagreat", sum := "e6bb953a807b40917a16d44416bada67ff8b8ee0489216e29755d876326a3912", func := "loop.example/promotionengine/laws.FnPayOfFirst", spec := "fnPayOfFirst", unfollowed := true, recurses := true, apart := false }
def FnPayOfFirstSaid : Prop := fnPayOfFirstRow.holds Tryz.pinned (OpenSpec.ofChange fnPayOfFirstSpec)

/-- ITS FALSE NEIGHBOUR: 'it returns false'. Refute it at one input. -/
def fnPayOfFirstWrong : ChangeSpec := { name := "fnPayOfFirst", fn := fun _ => fun
  | [d] => { results := [.lit (.bool false)], args := [d] }
  | _ => none }
def FnPayOfFirstWrongFalsely : Prop := fnPayOfFirstRow.holds Tryz.pinned (OpenSpec.ofChange fnPayOfFirstWrong)

/-- 'laws.FnReceiptOf': WHATEVER THE INPUT: true; the input reads as it did. -/
def fnReceiptOfSpec : ChangeSpec := { name := "fnReceiptOf", fn := fun _ => fun
  | [d] => { results := [.lit (.bool true)], args := [d] }
  | _ => none }
def fnReceiptOfRow : OpenClaim := { program := "ytbgfkhliideegaagreat", sum := "e6bb953a807b40917a16d44416bada67ff8b8ee0489216e29755d876326a3912", func := "loop.example/promotionengine/laws.FnReceiptOf", spec := "fnReceiptOf", unfollowed := true, recurses := true, apart := false }
def FnReceiptOfSaid : Prop := fnReceiptOfRow.holds Tryz.pinned (OpenSpec.ofChange fnReceiptOfSpec)

/-- ITS FALSE NEIGHBOUR: 'it returns false'. Refute it at one input. -/
def fnReceiptOfWrong : ChangeSpec := { name := "fnReceiptOf", fn := fun _ => fun
  | [d] => { results := [.lit (.bool false)], args := [d] }
  | _ => none }
def FnReceiptOfWrongFalsely : Prop := fnReceiptOfRow.holds Tryz.pinned (OpenSpec.ofChange fnReceiptOfWrong)

/-- 'laws.FnReceiptOfCart': WHATEVER THE INPUT: true; the input reads as it did. -/
def fnReceiptOfCartSpec : ChangeSpec := { name := "fnReceiptOfCart", fn := fun _ => fun
  | [d] => { results := [.lit (.bool true)], args := [d] }
  | _ => none }
def fnReceiptOfCartRow : OpenClaim := { program := "ytbgfkhliideegaagreat", sum := "e6bb953a807b40917a16d44416bada67ff8b8ee0489216e29755d876326a3912", func := "loop.example/promotionengine/laws.FnReceiptOfCart", spec := "fnReceiptOfCart", unfollowed := true, recurses := true, apart := false }
def FnReceiptOfCartSaid : Prop := fnReceiptOfCartRow.holds Tryz.pinned (OpenSpec.ofChange fnReceiptOfCartSpec)

/-- ITS FALSE NEIGHBOUR: 'it returns false'. Refute it at one input. -/
def fnReceiptOfCartWrong : ChangeSpec := { name := "fnReceiptOfCart", fn := fun _ => fun
  | [d] => { results := [.lit (.bool false)], args := [d] }
  | _ => none }
def FnReceiptOfCartWrongFalsely : Prop := fnReceiptOfCartRow.holds Tryz.pinned (OpenSpec.ofChange fnReceiptOfCartWrong)

/-- 'laws.FnReceiptOfGuards': WHATEVER THE INPUT: true; the input reads as it did. -/
def fnReceiptOfGuardsSpec : ChangeSpec := { name := "fnReceiptOfGuards", fn := fun _ => fun
  | [d] => { results := [.lit (.bool true)], args := [d] }
  | _ => none }
def fnReceiptOfGuardsRow : OpenClaim := { program := "ytbgfkhliideegaagreat", sum := "e6bb953a807b40917a16d44416bada67ff8b8ee0489216e29755d876326a3912", func := "loop.example/promotionengine/laws.FnReceiptOfGuards", spec := "fnReceiptOfGuards", unfollowed := true, recurses := true, apart := false }
def FnReceiptOfGuardsSaid : Prop := fnReceiptOfGuardsRow.holds Tryz.pinned (OpenSpec.ofChange fnReceiptOfGuardsSpec)

/-- ITS FALSE NEIGHBOUR: 'it returns false'. Refute it at one input. -/
def fnReceiptOfGuardsWrong : ChangeSpec := { name := "fnReceiptOfGuards", fn := fun _ => fun
  | [d] => { results := [.lit (.bool false)], args := [d] }
  | _ => none }
def FnReceiptOfGuardsWrongFalsely : Prop := fnReceiptOfGuardsRow.holds Tryz.pinned (OpenSpec.ofChange fnReceiptOfGuardsWrong)

/-- 'laws.FnReceiptOfNone': WHATEVER THE INPUT: true; the input reads as it did. -/
def fnReceiptOfNoneSpec : ChangeSpec := { name := "fnReceiptOfNone", fn := fun _ => fun
  | [d] => { results := [.lit (.bool true)], args := [d] }
  | _ => none }
def fnReceiptOfNoneRow : OpenClaim := { program := "ytbgfkhliideegaagreat", sum := "e6bb953a807b40917a16d44416bada67ff8b8ee0489216e29755d876326a3912", func := "loop.example/promotionengine/laws.FnReceiptOfNone", spec := "fnReceiptOfNone", unfollowed := true, recurses := true, apart := false }
def FnReceiptOfNoneSaid : Prop := fnReceiptOfNoneRow.holds Tryz.pinned (OpenSpec.ofChange fnReceiptOfNoneSpec)

/-- ITS FALSE NEIGHBOUR: 'it returns false'. Refute it at one input. -/
def fnReceiptOfNoneWrong : ChangeSpec := { name := "fnReceiptOfNone", fn := fun _ => fun
  | [d] => { results := [.lit (.bool false)], args := [d] }
  | _ => none }
def FnReceiptOfNoneWrongFalsely : Prop := fnReceiptOfNoneRow.holds Tryz.pinned (OpenSpec.ofChange fnReceiptOfNoneWrong)

/-- 'laws.FnReceiptOfOrder': WHATEVER THE INPUT: true; the input reads as it did. -/
def fnReceiptOfOrderSpec : ChangeSpec := { name := "fnReceiptOfOrder", fn := fun _ => fun
  | [d] => { results := [.lit (.bool true)], args := [d] }
  | _ => none }
def fnReceiptOfOrderRow : OpenClaim := { program := "ytbgfkhliideegaagreat", sum := "e6bb953a807b40917a16d44416bada67ff8b8ee0489216e29755d876326a3912", func := "loop.example/promotionengine/laws.FnReceiptOfOrder", spec := "fnReceiptOfOrder", unfollowed := true, recurses := true, apart := false }
def FnReceiptOfOrderSaid : Prop := fnReceiptOfOrderRow.holds Tryz.pinned (OpenSpec.ofChange fnReceiptOfOrderSpec)

/-- ITS FALSE NEIGHBOUR: 'it returns false'. Refute it at one input. -/
def fnReceiptOfOrderWrong : ChangeSpec := { name := "fnReceiptOfOrder", fn := fun _ => fun
  | [d] => { results := [.lit (.bool false)], args := [d] }
  | _ => none }
def FnReceiptOfOrderWrongFalsely : Prop := fnReceiptOfOrderRow.holds Tryz.pinned (OpenSpec.ofChange fnReceiptOfOrderWrong)

/-- 'laws.FnPayOf': WHATEVER THE INPUT: true; the input reads as it did. -/
def fnPayOfSpec : ChangeSpec := { name := "fnPayOf", fn := fun _ => fun
  | [d] => { results := [.lit (.bool true)], args := [d] }
  | _ => none }
def fnPayOfRow : OpenClaim := { program := "ytbgfkhliideegaagreat", sum := "e6bb953a807b40917a16d44416bada67ff8b8ee0489216e29755d876326a3912", func := "loop.example/promotionengine/laws.FnPayOf", spec := "fnPayOf", unfollowed := true, recurses := true, apart := false }
def FnPayOfSaid : Prop := fnPayOfRow.holds Tryz.pinned (OpenSpec.ofChange fnPayOfSpec)

/-- ITS FALSE NEIGHBOUR: 'it returns false'. Refute it at one input. -/
def fnPayOfWrong : ChangeSpec := { name := "fnPayOf", fn := fun _ => fun
  | [d] => { results := [.lit (.bool false)], args := [d] }
  | _ => none }
def FnPayOfWrongFalsely : Prop := fnPayOfRow.holds Tryz.pinned (OpenSpec.ofChange fnPayOfWrong)

/-- 'laws.FnSavedBy': WHATEVER THE INPUT: true; the input reads as it did. -/
def fnSavedBySpec : ChangeSpec := { name := "fnSavedBy", fn := fun _ => fun
  | [d] => { results := [.lit (.bool true)], args := [d] }
  | _ => none }
def fnSavedByRow : OpenClaim := { program := "ytbgfkhliideegaagreat", sum := "e6bb953a807b40917a16d44416bada67ff8b8ee0489216e29755d876326a3912", func := "loop.example/promotionengine/laws.FnSavedBy", spec := "fnSavedBy", unfollowed := true, recurses := true, apart := false }
def FnSavedBySaid : Prop := fnSavedByRow.holds Tryz.pinned (OpenSpec.ofChange fnSavedBySpec)

/-- ITS FALSE NEIGHBOUR: 'it returns false'. Refute it at one input. -/
def fnSavedByWrong : ChangeSpec := { name := "fnSavedBy", fn := fun _ => fun
  | [d] => { results := [.lit (.bool false)], args := [d] }
  | _ => none }
def FnSavedByWrongFalsely : Prop := fnSavedByRow.holds Tryz.pinned (OpenSpec.ofChange fnSavedByWrong)

/-- 'laws.FnSavedByGuard': WHATEVER THE INPUT: true; the input reads as it did. -/
def fnSavedByGuardSpec : ChangeSpec := { name := "fnSavedByGuard", fn := fun _ => fun
  | [d] => { results := [.lit (.bool true)], args := [d] }
  | _ => none }
def fnSavedByGuardRow : OpenClaim := { program := "ytbgfkhliideegaagreat", sum := "e6bb953a807b40917a16d44416bada67ff8b8ee0489216e29755d876326a3912", func := "loop.example/promotionengine/laws.FnSavedByGuard", spec := "fnSavedByGuard", unfollowed := true, recurses := true, apart := false }
def FnSavedByGuardSaid : Prop := fnSavedByGuardRow.holds Tryz.pinned (OpenSpec.ofChange fnSavedByGuardSpec)

/-- ITS FALSE NEIGHBOUR: 'it returns false'. Refute it at one input. -/
def fnSavedByGuardWrong : ChangeSpec := { name := "fnSavedByGuard", fn := fun _ => fun
  | [d] => { results := [.lit (.bool false)], args := [d] }
  | _ => none }
def FnSavedByGuardWrongFalsely : Prop := fnSavedByGuardRow.holds Tryz.pinned (OpenSpec.ofChange fnSavedByGuardWrong)

/-- 'laws.FnReceiptOfFirst': WHATEVER THE INPUT: true; the input reads as it did. -/
def fnReceiptOfFirstSpec : ChangeSpec := { name := "fnReceiptOfFirst", fn := fun _ => fun
  | [d] => { results := [.lit (.bool true)], args := [d] }
  | _ => none }
def fnReceiptOfFirstRow : OpenClaim := { program := "ytbgfkhliideegaagreat", sum := "e6bb953a807b40917a16d44416bada67ff8b8ee0489216e29755d876326a3912", func := "loop.example/promotionengine/laws.FnReceiptOfFirst", spec := "fnReceiptOfFirst", unfollowed := true, recurses := true, apart := false }
def FnReceiptOfFirstSaid : Prop := fnReceiptOfFirstRow.holds Tryz.pinned (OpenSpec.ofChange fnReceiptOfFirstSpec)

/-- ITS FALSE NEIGHBOUR: 'it returns false'. Refute it at one input. -/
def fnReceiptOfFirstWrong : ChangeSpec := { name := "fnReceiptOfFirst", fn := fun _ => fun
  | [d] => { results := [.lit (.bool false)], args := [d] }
  | _ => none }
def FnReceiptOfFirstWrongFalsely : Prop := fnReceiptOfFirstRow.holds Tryz.pinned (OpenSpec.ofChange fnReceiptOfFirstWrong)

/-- 'laws.FnReceiptOfNotes': WHATEVER THE INPUT: true; the input reads as it did. -/
def fnReceiptOfNotesSpec : ChangeSpec := { name := "fnReceiptOfNotes", fn := fun _ => fun
  | [d] => { results := [.lit (.bool true)], args := [d] }
  | _ => none }
def fnReceiptOfNotesRow : OpenClaim := { program := "ytbgfkhliideegaagreat", sum := "e6bb953a807b40917a16d44416bada67ff8b8ee0489216e29755d876326a3912", func := "loop.example/promotionengine/laws.FnReceiptOfNotes", spec := "fnReceiptOfNotes", unfollowed := true, recurses := true, apart := false }
def FnReceiptOfNotesSaid : Prop := fnReceiptOfNotesRow.holds Tryz.pinned (OpenSpec.ofChange fnReceiptOfNotesSpec)

/-- ITS FALSE NEIGHBOUR: 'it returns false'. Refute it at one input. -/
def fnReceiptOfNotesWrong : ChangeSpec := { name := "fnReceiptOfNotes", fn := fun _ => fun
  | [d] => { results := [.lit (.bool false)], args := [d] }
  | _ => none }
def FnReceiptOfNotesWrongFalsely : Prop := fnReceiptOfNotesRow.holds Tryz.pinned (OpenSpec.ofChange fnReceiptOfNotesWrong)

/-- 'laws.FnExactPayOf': WHATEVER THE INPUT: true; the input reads as it did. -/
def fnExactPayOfSpec : ChangeSpec := { name := "fnExactPayOf", fn := fun _ => fun
  | [d1, d2, d3, d4] => { results := [.lit (.bool true)], args := [d1, d2, d3, d4] }
  | _ => none }
def fnExactPayOfRow : OpenClaim := { program := "ytbgfkhliideegaagreat", sum := "e6bb953a807b40917a16d44416bada67ff8b8ee0489216e29755d876326a3912", func := "loop.example/promotionengine/laws.FnExactPayOf", spec := "fnExactPayOf", unfollowed := true, recurses := true, apart := false }
def FnExactPayOfSaid : Prop := fnExactPayOfRow.holds Tryz.pinned (OpenSpec.ofChange fnExactPayOfSpec)

/-- ITS FALSE NEIGHBOUR: 'it returns false'. Refute it at one input. -/
def fnExactPayOfWrong : ChangeSpec := { name := "fnExactPayOf", fn := fun _ => fun
  | [d1, d2, d3, d4] => { results := [.lit (.bool false)], args := [d1, d2, d3, d4] }
  | _ => none }
def FnExactPayOfWrongFalsely : Prop := fnExactPayOfRow.holds Tryz.pinned (OpenSpec.ofChange fnExactPayOfWrong)

/-- 'laws.FnExactSavedBy': WHATEVER THE INPUT: true; the input reads as it did. -/
def fnExactSavedBySpec : ChangeSpec := { name := "fnExactSavedBy", fn := fun _ => fun
  | [d1, d2, d3, d4, d5] => { results := [.lit (.bool true)], args := [d1, d2, d3, d4, d5] }
  | _ => none }
def fnExactSavedByRow : OpenClaim := { program := "ytbgfkhliideegaagreat", sum := "e6bb953a807b40917a16d44416bada67ff8b8ee0489216e29755d876326a3912", func := "loop.example/promotionengine/laws.FnExactSavedBy", spec := "fnExactSavedBy", unfollowed := true, recurses := true, apart := false }
def FnExactSavedBySaid : Prop := fnExactSavedByRow.holds Tryz.pinned (OpenSpec.ofChange fnExactSavedBySpec)

/-- ITS FALSE NEIGHBOUR: 'it returns false'. Refute it at one input. -/
def fnExactSavedByWrong : ChangeSpec := { name := "fnExactSavedBy", fn := fun _ => fun
  | [d1, d2, d3, d4, d5] => { results := [.lit (.bool false)], args := [d1, d2, d3, d4, d5] }
  | _ => none }
def FnExactSavedByWrongFalsely : Prop := fnExactSavedByRow.holds Tryz.pinned (OpenSpec.ofChange fnExactSavedByWrong)

/-- 'laws.FnUsefulCouponsRule': WHATEVER THE INPUT: true; the input reads as it did. -/
def fnUsefulCouponsRuleSpec : ChangeSpec := { name := "fnUsefulCouponsRule", fn := fun _ => fun
  | [d] => { results := [.lit (.bool true)], args := [d] }
  | _ => none }
def fnUsefulCouponsRuleRow : OpenClaim := { program := "ytbgfkhliideegaagreat", sum := "e6bb953a807b40917a16d44416bada67ff8b8ee0489216e29755d876326a3912", func := "loop.example/promotionengine/laws.FnUsefulCouponsRule", spec := "fnUsefulCouponsRule", unfollowed := true, recurses := true, apart := false }
def FnUsefulCouponsRuleSaid : Prop := fnUsefulCouponsRuleRow.holds Tryz.pinned (OpenSpec.ofChange fnUsefulCouponsRuleSpec)

/-- ITS FALSE NEIGHBOUR: 'it returns false'. Refute it at one input. -/
def fnUsefulCouponsRuleWrong : ChangeSpec := { name := "fnUsefulCouponsRule", fn := fun _ => fun
  | [d] => { results := [.lit (.bool false)], args := [d] }
  | _ => none }
def FnUsefulCouponsRuleWrongFalsely : Prop := fnUsefulCouponsRuleRow.holds Tryz.pinned (OpenSpec.ofChange fnUsefulCouponsRuleWrong)

/- THE SECOND FORM. 'bulk': how many values and letters a reading holds, each counted each time it is reached (what is shared counts as often as it is met; a slice's spare places count too). A statement '..UptoSaid' is the law's where the arguments, and the package variables that the reading takes, are together of bulk at most 1048576: NARROWER than '..Said'. Prove '..Said' where nothing that the law and all that it calls make is longer than what came in: it says more and counts as full. Else prove '..UptoSaid'. A law counts once. -/
mutual
def uptoBulk {H : Type} : DataW H → Nat
  | .lit (.string bytes) => bytes.length + 1
  | .lit _ => 1
  | .nil => 1
  | .ptr d => uptoBulk d + 1
  | .slice elems spare => uptoBulkAll elems + uptoBulkAll spare + 1
  | .agg parts => uptoBulkAll parts + 1
  | .iface _ d => uptoBulk d + 1
  | .map entries => uptoBulkEntries entries + 1
  | .held _ => 1
def uptoBulkAll {H : Type} : List (DataW H) → Nat
  | [] => 0
  | d :: r => uptoBulk d + uptoBulkAll r
def uptoBulkEntries {H : Type} : List (Lit × DataW H) → Nat
  | [] => 0
  | x :: r => uptoBulkEntry x + uptoBulkEntries r
def uptoBulkEntry {H : Type} : Lit × DataW H → Nat
  | (.string bytes, d) => bytes.length + uptoBulk d + 1
  | (_, d) => uptoBulk d + 1
 end
def uptoSmall : (H : Type) → List (DataW H) → Bool := fun _ ds => decide (uptoBulkAll ds ≤ 1048576)
def OpenSpec.upto (s : _root_.Go.ChangeSpec) : _root_.Go.OpenSpec := { _root_.Go.OpenSpec.ofChange s with cond := some uptoSmall }

/-- 'laws.FnUsefulCoupons', WHERE WHAT IT READS IS OF BULK AT MOST 1048576: true; the input reads as it did. -/
def fnUsefulCouponsUptoRow : OpenClaim := { program := "ytbgfkhliideegaagreat", sum := "e6bb953a807b40917a16d44416bada67ff8b8ee0489216e29755d876326a3912", func := "loop.example/promotionengine/laws.FnUsefulCoupons", spec := "fnUsefulCoupons", unfollowed := true, recurses := true, apart := false, narrowed := true }
def FnUsefulCouponsUptoSaid : Prop := fnUsefulCouponsUptoRow.holds Tryz.pinned (OpenSpec.upto fnUsefulCouponsSpec)

/-- 'laws.FnExactUsefulCoupons', WHERE WHAT IT READS IS OF BULK AT MOST 1048576: true; the input reads as it did. -/
def fnExactUsefulCouponsUptoRow : OpenClaim := { program := "ytbgfkhliideegaagreat", sum := "e6bb953a807b40917a16d44416bada67ff8b8ee0489216e29755d876326a3912", func := "loop.example/promotionengine/laws.FnExactUsefulCoupons", spec := "fnExactUsefulCoupons", unfollowed := true, recurses := true, apart := false, narrowed := true }
def FnExactUsefulCouponsUptoSaid : Prop := fnExactUsefulCouponsUptoRow.holds Tryz.pinned (OpenSpec.upto fnExactUsefulCouponsSpec)

/-- 'laws.FnExactReceiptOf', WHERE WHAT IT READS IS OF BULK AT MOST 1048576: true; the input reads as it did. -/
def fnExactReceiptOfUptoRow : OpenClaim := { program := "ytbgfkhliideegaagreat", sum := "e6bb953a807b40917a16d44416bada67ff8b8ee0489216e29755d876326a3912", func := "loop.example/promotionengine/laws.FnExactReceiptOf", spec := "fnExactReceiptOf", unfollowed := true, recurses := true, apart := false, narrowed := true }
def FnExactReceiptOfUptoSaid : Prop := fnExactReceiptOfUptoRow.holds Tryz.pinned (OpenSpec.upto fnExactReceiptOfSpec)

/-- 'laws.FnPayOfOne', WHERE WHAT IT READS IS OF BULK AT MOST 1048576: true; the input reads as it did. -/
def fnPayOfOneUptoRow : OpenClaim := { program := "ytbgfkhliideegaagreat", sum := "e6bb953a807b40917a16d44416bada67ff8b8ee0489216e29755d876326a3912", func := "loop.example/promotionengine/laws.FnPayOfOne", spec := "fnPayOfOne", unfollowed := true, recurses := true, apart := false, narrowed := true }
def FnPayOfOneUptoSaid : Prop := fnPayOfOneUptoRow.holds Tryz.pinned (OpenSpec.upto fnPayOfOneSpec)

/-- 'laws.FnPayOfFirst', WHERE WHAT IT READS IS OF BULK AT MOST 1048576: true; the input reads as it did. -/
def fnPayOfFirstUptoRow : OpenClaim := { program := "ytbgfkhliideegaagreat", sum := "e6bb953a807b40917a16d44416bada67ff8b8ee0489216e29755d876326a3912", func := "loop.example/promotionengine/laws.FnPayOfFirst", spec := "fnPayOfFirst", unfollowed := true, recurses := true, apart := false, narrowed := true }
def FnPayOfFirstUptoSaid : Prop := fnPayOfFirstUptoRow.holds Tryz.pinned (OpenSpec.upto fnPayOfFirstSpec)

/-- 'laws.FnReceiptOf', WHERE WHAT IT READS IS OF BULK AT MOST 1048576: true; the input reads as it did. -/
def fnReceiptOfUptoRow : OpenClaim := { program := "ytbgfkhliideegaagreat", sum := "e6bb953a807b40917a16d44416bada67ff8b8ee0489216e29755d876326a3912", func := "loop.example/promotionengine/laws.FnReceiptOf", spec := "fnReceiptOf", unfollowed := true, recurses := true, apart := false, narrowed := true }
def FnReceiptOfUptoSaid : Prop := fnReceiptOfUptoRow.holds Tryz.pinned (OpenSpec.upto fnReceiptOfSpec)

/-- 'laws.FnReceiptOfCart', WHERE WHAT IT READS IS OF BULK AT MOST 1048576: true; the input reads as it did. -/
def fnReceiptOfCartUptoRow : OpenClaim := { program := "ytbgfkhliideegaagreat", sum := "e6bb953a807b40917a16d44416bada67ff8b8ee0489216e29755d876326a3912", func := "loop.example/promotionengine/laws.FnReceiptOfCart", spec := "fnReceiptOfCart", unfollowed := true, recurses := true, apart := false, narrowed := true }
def FnReceiptOfCartUptoSaid : Prop := fnReceiptOfCartUptoRow.holds Tryz.pinned (OpenSpec.upto fnReceiptOfCartSpec)

/-- 'laws.FnReceiptOfGuards', WHERE WHAT IT READS IS OF BULK AT MOST 1048576: true; the input reads as it did. -/
def fnReceiptOfGuardsUptoRow : OpenClaim := { program := "ytbgfkhliideegaagreat", sum := "e6bb953a807b40917a16d44416bada67ff8b8ee0489216e29755d876326a3912", func := "loop.example/promotionengine/laws.FnReceiptOfGuards", spec := "fnReceiptOfGuards", unfollowed := true, recurses := true, apart := false, narrowed := true }
def FnReceiptOfGuardsUptoSaid : Prop := fnReceiptOfGuardsUptoRow.holds Tryz.pinned (OpenSpec.upto fnReceiptOfGuardsSpec)

/-- 'laws.FnReceiptOfNone', WHERE WHAT IT READS IS OF BULK AT MOST 1048576: true; the input reads as it did. -/
def fnReceiptOfNoneUptoRow : OpenClaim := { program := "ytbgfkhliideegaagreat", sum := "e6bb953a807b40917a16d44416bada67ff8b8ee0489216e29755d876326a3912", func := "loop.example/promotionengine/laws.FnReceiptOfNone", spec := "fnReceiptOfNone", unfollowed := true, recurses := true, apart := false, narrowed := true }
def FnReceiptOfNoneUptoSaid : Prop := fnReceiptOfNoneUptoRow.holds Tryz.pinned (OpenSpec.upto fnReceiptOfNoneSpec)

/-- 'laws.FnReceiptOfOrder', WHERE WHAT IT READS IS OF BULK AT MOST 1048576: true; the input reads as it did. -/
def fnReceiptOfOrderUptoRow : OpenClaim := { program := "ytbgfkhliideegaagreat", sum := "e6bb953a807b40917a16d44416bada67ff8b8ee0489216e29755d876326a3912", func := "loop.example/promotionengine/laws.FnReceiptOfOrder", spec := "fnReceiptOfOrder", unfollowed := true, recurses := true, apart := false, narrowed := true }
def FnReceiptOfOrderUptoSaid : Prop := fnReceiptOfOrderUptoRow.holds Tryz.pinned (OpenSpec.upto fnReceiptOfOrderSpec)

/-- 'laws.FnPayOf', WHERE WHAT IT READS IS OF BULK AT MOST 1048576: true; the input reads as it did. -/
def fnPayOfUptoRow : OpenClaim := { program := "ytbgfkhliideegaagreat", sum := "e6bb953a807b40917a16d44416bada67ff8b8ee0489216e29755d876326a3912", func := "loop.example/promotionengine/laws.FnPayOf", spec := "fnPayOf", unfollowed := true, recurses := true, apart := false, narrowed := true }
def FnPayOfUptoSaid : Prop := fnPayOfUptoRow.holds Tryz.pinned (OpenSpec.upto fnPayOfSpec)

/-- 'laws.FnSavedBy', WHERE WHAT IT READS IS OF BULK AT MOST 1048576: true; the input reads as it did. -/
def fnSavedByUptoRow : OpenClaim := { program := "ytbgfkhliideegaagreat", sum := "e6bb953a807b40917a16d44416bada67ff8b8ee0489216e29755d876326a3912", func := "loop.example/promotionengine/laws.FnSavedBy", spec := "fnSavedBy", unfollowed := true, recurses := true, apart := false, narrowed := true }
def FnSavedByUptoSaid : Prop := fnSavedByUptoRow.holds Tryz.pinned (OpenSpec.upto fnSavedBySpec)

/-- 'laws.FnSavedByGuard', WHERE WHAT IT READS IS OF BULK AT MOST 1048576: true; the input reads as it did. -/
def fnSavedByGuardUptoRow : OpenClaim := { program := "ytbgfkhliideegaagreat", sum := "e6bb953a807b40917a16d44416bada67ff8b8ee0489216e29755d876326a3912", func := "loop.example/promotionengine/laws.FnSavedByGuard", spec := "fnSavedByGuard", unfollowed := true, recurses := true, apart := false, narrowed := true }
def FnSavedByGuardUptoSaid : Prop := fnSavedByGuardUptoRow.holds Tryz.pinned (OpenSpec.upto fnSavedByGuardSpec)

/-- 'laws.FnReceiptOfFirst', WHERE WHAT IT READS IS OF BULK AT MOST 1048576: true; the input reads as it did. -/
def fnReceiptOfFirstUptoRow : OpenClaim := { program := "ytbgfkhliideegaagreat", sum := "e6bb953a807b40917a16d44416bada67ff8b8ee0489216e29755d876326a3912", func := "loop.example/promotionengine/laws.FnReceiptOfFirst", spec := "fnReceiptOfFirst", unfollowed := true, recurses := true, apart := false, narrowed := true }
def FnReceiptOfFirstUptoSaid : Prop := fnReceiptOfFirstUptoRow.holds Tryz.pinned (OpenSpec.upto fnReceiptOfFirstSpec)

/-- 'laws.FnReceiptOfNotes', WHERE WHAT IT READS IS OF BULK AT MOST 1048576: true; the input reads as it did. -/
def fnReceiptOfNotesUptoRow : OpenClaim := { program := "ytbgfkhliideegaagreat", sum := "e6bb953a807b40917a16d44416bada67ff8b8ee0489216e29755d876326a3912", func := "loop.example/promotionengine/laws.FnReceiptOfNotes", spec := "fnReceiptOfNotes", unfollowed := true, recurses := true, apart := false, narrowed := true }
def FnReceiptOfNotesUptoSaid : Prop := fnReceiptOfNotesUptoRow.holds Tryz.pinned (OpenSpec.upto fnReceiptOfNotesSpec)

/-- 'laws.FnExactPayOf', WHERE WHAT IT READS IS OF BULK AT MOST 1048576: true; the input reads as it did. -/
def fnExactPayOfUptoRow : OpenClaim := { program := "ytbgfkhliideegaagreat", sum := "e6bb953a807b40917a16d44416bada67ff8b8ee0489216e29755d876326a3912", func := "loop.example/promotionengine/laws.FnExactPayOf", spec := "fnExactPayOf", unfollowed := true, recurses := true, apart := false, narrowed := true }
def FnExactPayOfUptoSaid : Prop := fnExactPayOfUptoRow.holds Tryz.pinned (OpenSpec.upto fnExactPayOfSpec)

/-- 'laws.FnExactSavedBy', WHERE WHAT IT READS IS OF BULK AT MOST 1048576: true; the input reads as it did. -/
def fnExactSavedByUptoRow : OpenClaim := { program := "ytbgfkhliideegaagreat", sum := "e6bb953a807b40917a16d44416bada67ff8b8ee0489216e29755d876326a3912", func := "loop.example/promotionengine/laws.FnExactSavedBy", spec := "fnExactSavedBy", unfollowed := true, recurses := true, apart := false, narrowed := true }
def FnExactSavedByUptoSaid : Prop := fnExactSavedByUptoRow.holds Tryz.pinned (OpenSpec.upto fnExactSavedBySpec)

/-- 'laws.FnUsefulCouponsRule', WHERE WHAT IT READS IS OF BULK AT MOST 1048576: true; the input reads as it did. -/
def fnUsefulCouponsRuleUptoRow : OpenClaim := { program := "ytbgfkhliideegaagreat", sum := "e6bb953a807b40917a16d44416bada67ff8b8ee0489216e29755d876326a3912", func := "loop.example/promotionengine/laws.FnUsefulCouponsRule", spec := "fnUsefulCouponsRule", unfollowed := true, recurses := true, apart := false, narrowed := true }
def FnUsefulCouponsRuleUptoSaid : Prop := fnUsefulCouponsRuleUptoRow.holds Tryz.pinned (OpenSpec.upto fnUsefulCouponsRuleSpec)

end Rows
end Go.Proofs.YtbgfkhliideegaaGreat
