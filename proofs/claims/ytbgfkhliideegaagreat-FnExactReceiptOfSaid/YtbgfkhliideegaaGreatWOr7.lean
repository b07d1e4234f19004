/- The order of rules as a call's value that reads as it should. No condition beyond those that each theorem states. -/
import Derived.Test.YtbgfkhliideegaaGreatWOr3
import Derived.Test.YtbgfkhliideegaaGreatWInt
namespace Go.Proofs.YtbgfkhliideegaaGreat
open Go.RowKit
attribute [local irreducible] Calls
theorem Wd.thn {a b c : World} {h h' : List Ent} (k1 : Wd a h b) (k2 : Wd b h' c) : Wd a [] c := ⟨k1.below.trans (k2.below.mono k1.size), fun _ h => (by cases h), List.Pairwise.nil⟩
/-- the order of rules, or nothing where they are not valid -/
def OrdX (l : List Ru) (xs : List Int) : Prop := (VRs l → xs = ordL l) ∧ (¬ VRs l → xs = [])
theorem OrdX.same {l : List Ru} {xs ys : List Int} (h : OrdX l xs) (h' : OrdX l ys) : xs = ys := by
  by_cases hV : VRs l
  · rw [h.1 hV, h'.1 hV]
  · rw [h.2 hV, h'.2 hV]
theorem iRuleOrder_r (v : Value) (l : List Ru) (w : World) (hs : Sl w v l) (hg : ROks w l) : Calls Tryz.prog 61 #[v] w
    (fun x w' => ∃ i : Value × List Int, (Sl w' i.1 i.2 ∧ OrdX l i.2) ∧ x = .returned i.1 ∧ Wd w [] w') := by
  by_cases hV : VRs l
  · exact (iRuleOrder_ok v l w hs hg hV).mono fun x w' ⟨⟨g, c⟩, ⟨h1, h2⟩, he, hw⟩ => ⟨(_, ordL l), ⟨own_sl 0 hw rfl rfl rfl h1 h2, fun _ => rfl, fun h => absurd hV h⟩, he, hw.nil⟩
  · exact (iRuleOrder_no v l w hs hg hV).mono fun x w' ⟨g, _, he, hw⟩ => ⟨(_, []), ⟨own_sl 0 hw rfl rfl rfl (Nat.le_refl _) (by simp [maxLen]), fun h => absurd h hV, fun _ => rfl⟩, he, hw.nil⟩
end Go.Proofs.YtbgfkhliideegaaGreat
