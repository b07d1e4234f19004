/- A slice of bytes that came in, opened to a list of bytes. No condition beyond those that each theorem states. -/
import Derived.Test.YtbgfkhliideegaaGreatWRead
import Derived.Test.YtbgfkhliideegaaGreatFin
namespace Go.Proofs.YtbgfkhliideegaaGreat
open Go.RowKit Go.Deep
theorem open_by {H : Type} {enc : TypeId × Value → H} {P : Program} {W : World} {e : TypeId} (ht : P.underlying e = some (.int .u8)) :
    ∀ n cs y, cs.length = Enc.k By → DataW.trod enc P W 0 (fun _ => true) true n e cs = some y → ∃ r : By, cs = Enc.enc r ∧ 0 ≤ r.n ∧ r.n ≤ 255 := by
  intro n cs y _ h
  obtain ⟨z, rfl, _, hw⟩ := DataW.trod_int ht h
  refine ⟨⟨z⟩, rfl, ?_⟩
  simp only [Lit.wf, Bool.and_eq_true, decide_eq_true_eq] at hw
  exact hw
end Go.Proofs.YtbgfkhliideegaaGreat
