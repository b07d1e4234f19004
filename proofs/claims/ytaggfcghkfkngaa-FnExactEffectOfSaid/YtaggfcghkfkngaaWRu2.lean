/- The walks of the checks of lists of rules. No condition beyond those that each theorem states. -/
import Derived.Test.YtaggfcghkfkngaaWRu1
namespace Go.Proofs.Ytaggfcghkfkngaa
open Go.RowKit
attribute [local irreducible] Calls
/-- each rule's counts read as they should -/
abbrev ROks (w : World) (l : List Ru) : Prop := ∀ r ∈ l, ROk w r
end Go.Proofs.Ytaggfcghkfkngaa
