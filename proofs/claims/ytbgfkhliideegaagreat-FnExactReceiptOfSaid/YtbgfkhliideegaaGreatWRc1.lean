/- The effect of a rule at every cart. No condition beyond those that each theorem states. -/
import Derived.Test.YtbgfkhliideegaaGreatWNl
import Derived.Test.YtbgfkhliideegaaGreatWEf3
namespace Go.Proofs.YtbgfkhliideegaaGreat
open Go.RowKit
attribute [local irreducible] Calls
theorem seffect_g (v0 : Value) (s : List Ar) (v : Value) (c : List Ln) (r : Ru) (v2 : Value) (f : List Int) (w : World) (hs0 : Sl w v0 s) (hs : Sl w v c) (hg : ROk w r) (hs2 : Sl w v2 f) (hsc : VSC s c) (hr : VR r) (hl : VL s c f) : Calls Tryz.prog 115 #[v0, v, ruV r, v2] w
    (fun x w' => ∃ i : Nat, True ∧ x = .returned (.slice (some ⟨i, 0, none⟩) c.length c.length) ∧ Wd w [intE i c.length (effL s c r f)] w') := by
  by_cases hc : c = []
  · subst hc
    rw [effL_nil]
    exact seffect_nil v0 v r v2 w hs
  · have hne : 1 ≤ c.length := by
      rcases c with _ | ⟨a, c⟩
      · exact absurd rfl hc
      · simp
    exact seffect_ok v0 s v c r v2 f w hs0 hs hg hs2 ⟨hsc, hne, hr, hl⟩
theorem iEffectOf_g (v0 : Value) (s : List Ar) (v : Value) (c : List Ln) (r : Ru) (v2 : Value) (f : List Int) (w : World) (hs0 : Sl w v0 s) (hs : Sl w v c) (hg : ROk w r) (hs2 : Sl w v2 f) (hsc : VSC s c) (hr : VR r) (hl : VL s c f) : Calls Tryz.prog 54 #[v0, v, ruV r, v2] w
    (fun x w' => ∃ i : Nat, True ∧ x = .returned (.slice (some ⟨i, 0, none⟩) c.length c.length) ∧ Wd w [intE i c.length (effL s c r f)] w') := by
  by_cases hc : c = []
  · subst hc
    rw [effL_nil]
    exact iEffectOf_no v0 s v [] r v2 f w hs0 hs hg hs2 (fun h => by have := h.ne; simp at this)
  · have hne : 1 ≤ c.length := by
      rcases c with _ | ⟨a, c⟩
      · exact absurd rfl hc
      · simp
    exact iEffectOf_ok v0 s v c r v2 f w hs0 hs hg hs2 ⟨hsc, hne, hr, hl⟩
end Go.Proofs.YtbgfkhliideegaaGreat
