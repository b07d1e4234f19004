/- The walks of the points of carts, of the program and of the reference. No condition beyond those that each theorem states. -/
import Derived.Test.YtbgfkhliideegaaGreatWCa2
import Derived.Test.YtbgfkhliideegaaGreatPPt
namespace Go.Proofs.YtbgfkhliideegaaGreat
open Go.RowKit
attribute [local irreducible] Calls
/-- what spec.validPoint asks of a point -/
def VPt (t : Int) (l1 l2 : List Int) : Prop := (0 ≤ t ∧ t ≤ 1000000) ∧ l1.length = 3 ∧ AllIn l1 0 1000000 ∧ CO l2
theorem iPointOf_ok (v0 : Value) (s : List Ar) (v : Value) (c : List Ln) (v2 : Value) (cp : List Int) (w : World) (hs0 : Sl w v0 s) (hs : Sl w v c) (hs2 : Sl w v2 cp) (h : VSC s c) (hc : CO cp) : Calls Tryz.prog 51 #[v0, v, v2] w
    (fun x w' => ∃ i : PtG, (i.c1 = 3 ∧ cp.length ≤ i.c2 ∧ i.c2 ≤ maxLen) ∧ x = .returned (.tuple #[ptV (amts s c).sum 3 cp.length i, .bool true]) ∧ Wd w [intE i.g1 i.c1 (gcs s c), intE i.g2 i.c2 cp] w') := by
  have hml : maxLen = 9223372036854775807 := rfl
  have hc3 := hc.1
  have hv : VSC s c ↔ true = true := by simp [h]
  have hco : CO cp ↔ true = true := by simp [hc]
  refine enter (vs := [v0, v, v2]) Tryz.func51 rfl Tryz.ntmps51 rfl ?_
  repeat' first | ((with_reducible apply (LR_call (f := 86))); exact rfl; exact rfl; exact rfl; exact fun w hw => iValidCart_ok v0 s v c w _ (hs0.mono hw) (hs.mono hw) hv) | ((with_reducible apply (LR_call (f := 87))); exact rfl; exact rfl; exact rfl; exact fun w hw => couponsOk_ok v2 cp w _ (hs2.mono hw) hco) | ((with_reducible apply (LR_call (f := 50))); exact rfl; exact rfl; exact rfl; exact fun w hw => iTotalOf_ok v0 s v c w (hs0.mono hw) (hs.mono hw) h) | ((with_reducible apply (LS_callx (f := 88))); exact rfl; exact rfl; exact rfl; exact fun w hw => iGroupCounts_ok v0 s v c w (hs0.mono hw) (hs.mono hw) h; rintro g1 _) | ((with_reducible apply (LS_append_sl 0 ([] : List Int) cp)); exact rfl; exact rfl; exact rfl; exact rfl; exact rfl; exact rfl; exact rfl; exact rfl; exact rfl; omega; exact fun w hw => hs2.mono hw; (simp only [List.length_nil]; omega); (simp only [List.length_nil]; omega); intro gp cc b1 b2) | ((with_reducible apply CS_seq)) | ((with_reducible apply CS_region)) | ((with_reducible apply RR_end)) | ((with_reducible apply LR_pure); exact rfl; exact rfl; exact rfl) | ((with_reducible apply LS_alloc); exact rfl; exact rfl; exact rfl; intro _) | ((with_reducible apply LS_store_agg 2); exact rfl; exact rfl; exact rfl; exact rfl; exact rfl; exact rfl; exact rfl; exact rfl) | ((with_reducible apply LS_buildSlice); exact rfl; exact rfl; exact rfl; exact rfl; exact rfl; exact rfl; exact rfl; intro _) | ((with_reducible apply LR_build); exact rfl; exact rfl; exact rfl; exact rfl) | ((with_reducible apply post_seq)) | ((with_reducible apply CS_skip)) | ((with_reducible apply CS_ret)) | ((with_reducible apply CS_cond_f); exact rfl)
  all_goals first | (exfalso; contradiction) | (exfalso; omega) | (exfalso; simp at hb <;> omega) | skip
  simp only [List.length_nil, Nat.zero_add] at b1
  refine post_ret_ct 0 rfl rfl rfl rfl rfl fun w' hw' => ?_
  exact ⟨⟨g1, 3, gp, cc⟩, ⟨rfl, b1, b2⟩, by first | rfl | simp only [List.length_nil, Nat.zero_add], by first | exact hw'.picks [2, 1] rfl | exact hw'.picks [1, 1] rfl⟩
theorem iPointOf_no (v0 : Value) (s : List Ar) (v : Value) (c : List Ln) (v2 : Value) (cp : List Int) (w : World) (hs0 : Sl w v0 s) (hs : Sl w v c) (hs2 : Sl w v2 cp) (h : ¬ (VSC s c ∧ CO cp)) : Calls Tryz.prog 51 #[v0, v, v2] w (Gives (.tuple #[ptV0, .bool false]) w) := by
  by_cases h1 : VSC s c
  · have hv : VSC s c ↔ true = true := by simp [h1]
    have hco : CO cp ↔ false = true := by simp; exact fun h' => h ⟨h1, h'⟩
    refine enter (vs := [v0, v, v2]) Tryz.func51 rfl Tryz.ntmps51 rfl ?_
    repeat' first | ((with_reducible apply (LR_call (f := 86))); exact rfl; exact rfl; exact rfl; exact fun w hw => iValidCart_ok v0 s v c w _ (hs0.mono hw) (hs.mono hw) hv) | ((with_reducible apply (LR_call (f := 87))); exact rfl; exact rfl; exact rfl; exact fun w hw => couponsOk_ok v2 cp w _ (hs2.mono hw) hco) | ((with_reducible apply CS_seq)) | ((with_reducible apply CS_region)) | ((with_reducible apply RR_end)) | ((with_reducible apply LR_pure); exact rfl; exact rfl; exact rfl) | ((with_reducible apply LS_alloc); exact rfl; exact rfl; exact rfl; intro _) | ((with_reducible apply LS_store_agg 0); exact rfl; exact rfl; exact rfl; exact rfl; exact rfl; exact rfl; exact rfl; exact rfl) | ((with_reducible apply LR_build); exact rfl; exact rfl; exact rfl; exact rfl) | ((with_reducible apply post_seq)) | ((with_reducible apply post_then_ret)) | ((with_reducible apply CS_ret)) | ((with_reducible apply CS_cond_t); exact rfl)
    all_goals first | (exfalso; contradiction) | (exfalso; omega) | (exfalso; simp at hb <;> omega) | skip
    refine post_ret_ct 0 rfl rfl rfl rfl rfl fun w' hw' => ?_
    exact ⟨rfl, hw'.below⟩
  · have hv : VSC s c ↔ false = true := by simp [h1]
    refine enter (vs := [v0, v, v2]) Tryz.func51 rfl Tryz.ntmps51 rfl ?_
    repeat' first | ((with_reducible apply (LR_call (f := 86))); exact rfl; exact rfl; exact rfl; exact fun w hw => iValidCart_ok v0 s v c w _ (hs0.mono hw) (hs.mono hw) hv) | ((with_reducible apply CS_seq)) | ((with_reducible apply CS_region)) | ((with_reducible apply RR_end)) | ((with_reducible apply LR_pure); exact rfl; exact rfl; exact rfl) | ((with_reducible apply LR_skip); exact rfl; exact rfl) | ((with_reducible apply LS_alloc); exact rfl; exact rfl; exact rfl; intro _) | ((with_reducible apply LS_store_agg 0); exact rfl; exact rfl; exact rfl; exact rfl; exact rfl; exact rfl; exact rfl; exact rfl) | ((with_reducible apply LR_build); exact rfl; exact rfl; exact rfl; exact rfl) | ((with_reducible apply post_seq)) | ((with_reducible apply post_then_ret)) | ((with_reducible apply CS_ret)) | ((with_reducible apply CS_cond_t); exact rfl)
    all_goals first | (exfalso; contradiction) | (exfalso; omega) | (exfalso; simp at hb <;> omega) | skip
    refine post_ret_ct 0 rfl rfl rfl rfl rfl fun w' hw' => ?_
    exact ⟨rfl, hw'.below⟩
end Go.Proofs.YtbgfkhliideegaaGreat
