/- The walks of RulesConflict, of the program and of the reference. No condition beyond those that each theorem states. -/
import Derived.Test.YtpflkichnjfgkaaWRu4
namespace Go.Proofs.Ytpflkichnjfgkaa
open Go.RowKit
attribute [local irreducible] Calls zS
theorem iGM_no (a b : Gd) (w : World) (ha : GOk w a) (hb' : GOk w b) (va : VG a) (vb : VG b) (hM : ¬ Meets a b) : Calls Try.prog 56 #[gdV a, gdV b] w (Gives (.tuple #[ptV0, .bool false]) w) :=
  (iGuardsMeet_ok a b w ha hb' va vb false (by simp [hM])).mono fun x w' h => by
    rcases h with ⟨_, h1, h2⟩ | ⟨h, _⟩
    · exact ⟨h1, h2.below⟩
    · cases h
theorem iGM_yes (a b : Gd) (w : World) (ha : GOk w a) (hb' : GOk w b) (va : VG a) (vb : VG b) (hM : Meets a b) : Calls Try.prog 56 #[gdV a, gdV b] w
    (fun x w' => ∃ i : PtG, (3 ≤ i.c1 ∧ i.c1 ≤ maxLen ∧ (cps a.cp b.cp 9).length ≤ i.c2 ∧ i.c2 ≤ maxLen) ∧ x = .returned (.tuple #[ptV (mx a.tot b.tot) 3 (cps a.cp b.cp 9).length i, .bool true]) ∧ Wd w [intE i.g1 i.c1 (lows a.cs b.cs), intE i.g2 i.c2 (cps a.cp b.cp 9)] w') :=
  (iGuardsMeet_ok a b w ha hb' va vb true (by simp [hM])).mono fun x w' h => by
    rcases h with ⟨h, _⟩ | ⟨_, h⟩
    · cases h
    · exact h
theorem iCf_yes (a b : Ru) (w : World) (ha : ROk w a) (hb' : ROk w b) (hC : Cf a b) : Calls Try.prog 35 #[ruV a, ruV b] w
    (fun x w' => ∃ i : PtG, (3 ≤ i.c1 ∧ i.c1 ≤ maxLen ∧ (cps a.g.cp b.g.cp 9).length ≤ i.c2 ∧ i.c2 ≤ maxLen) ∧ x = .returned (.tuple #[ptV (mx a.g.tot b.g.tot) 3 (cps a.g.cp b.g.cp 9).length i, .bool true]) ∧ Wd w [intE i.g1 i.c1 (lows a.g.cs b.g.cs), intE i.g2 i.c2 (cps a.g.cp b.g.cp 9)] w') := by
  obtain ⟨va, vb, h1, h2, h3, h4, hM⟩ := hC
  have ga := va.2.2.2.1
  have gb := vb.2.2.2.1
  have hva : VR a ↔ true = true := by simp [va]
  have hvb : VR b ↔ true = true := by simp [vb]
  refine enter (vs := [ruV a, ruV b]) Try.func35 rfl Try.ntmps35 rfl ?_
  repeat' first
    | ((with_reducible apply (LR_call (f := 44))); exact rfl; exact rfl; exact rfl; exact fun w hw => iValidRule_ok a w true (ha.mono hw) hva)
    | ((with_reducible apply (LR_call (f := 44))); exact rfl; exact rfl; exact rfl; exact fun w hw => iValidRule_ok b w true (hb'.mono hw) hvb)
    | ((with_reducible apply (LS_callx (f := 56))); exact rfl; exact rfl; exact rfl; exact fun w hw => iGM_yes a.g b.g w (ha.mono hw) (hb'.mono hw) va.2.2.2.2.2.1 vb.2.2.2.2.2.1 hM; rintro ⟨g1, c1, g2, c2⟩ ⟨q1, q2, q3, q4⟩)
    | ((with_reducible apply CS_seq))
    | ((with_reducible apply CS_region))
    | ((with_reducible apply RR_end))
    | ((with_reducible apply LR_pure); exact rfl; exact rfl; exact rfl)
    | ((with_reducible apply LR_skip); exact rfl; exact rfl)
    | ((with_reducible apply LR_field_own); exact rfl; exact rfl; exact rfl)
    | ((with_reducible apply LR_load_own 1); exact rfl; exact rfl; exact rfl; exact rfl; exact rfl)
    | ((with_reducible apply LR_load_own 2); exact rfl; exact rfl; exact rfl; exact rfl; exact rfl)
    | ((with_reducible apply LR_load_own_agg 1); exact rfl; exact rfl; exact rfl; exact rfl; exact rfl)
    | ((with_reducible apply LR_load_own_agg 2); exact rfl; exact rfl; exact rfl; exact rfl; exact rfl)
    | ((with_reducible apply LS_alloc); exact rfl; exact rfl; exact rfl; intro _)
    | ((with_reducible apply LS_box); exact rfl; exact rfl; exact rfl; exact rfl; intro _)
    | ((with_reducible apply LS_store_agg 2); exact rfl; exact rfl; exact rfl; exact rfl; exact rfl; exact rfl; exact rfl; exact rfl)
    | ((with_reducible apply post_seq))
    | ((with_reducible apply CS_skip))
    | ((with_reducible apply CS_ret))
    | ((with_reducible apply CS_cond_f); exact rfl)
    | ((with_reducible apply CS_cond_nd); exact rfl; all_goals intro hb; all_goals try (exfalso; omega))
    | ((with_reducible apply LR_caseg_nd); exact rfl; exact rfl; all_goals intro hb; all_goals try (exfalso; omega))
    | ((with_reducible apply LR_caseg_d); exact rfl; exact rfl; all_goals intro hb; all_goals try (exfalso; omega))
  all_goals first | (exfalso; contradiction) | (exfalso; omega) | (exfalso; simp at hb <;> omega) | skip
  all_goals (refine post_ret_ct 0 rfl rfl rfl rfl rfl fun w' hw' => ?_; exact ⟨⟨g1, c1, g2, c2⟩, ⟨q1, q2, q3, q4⟩, rfl, hw'.picks [1, 1] rfl⟩)
theorem iCf_no (a b : Ru) (w : World) (ha : ROk w a) (hb' : ROk w b) (hC : ¬ Cf a b) : Calls Try.prog 35 #[ruV a, ruV b] w (Gives (.tuple #[ptV0, .bool false]) w) := by
  obtain ⟨ba, hva⟩ := bex (VR a)
  obtain ⟨bb, hvb⟩ := bex (VR b)
  by_cases hp : ba = true ∧ bb = true ∧ a.num ≠ b.num ∧ a.lev = b.lev ∧ a.rank = b.rank ∧ (a.grp = b.grp ∨ a.grp = -1 ∨ b.grp = -1)
  · obtain ⟨rfl, rfl, h1, h2, h3, h4⟩ := hp
    have va := hva.2 rfl
    have vb := hvb.2 rfl
    have hM : ¬ Meets a.g b.g := fun h => hC ⟨va, vb, h1, h2, h3, h4, h⟩
    refine enter (vs := [ruV a, ruV b]) Try.func35 rfl Try.ntmps35 rfl ?_
    repeat' first
      | ((with_reducible apply (LR_call (f := 44))); exact rfl; exact rfl; exact rfl; exact fun w hw => iValidRule_ok a w true (ha.mono hw) hva)
      | ((with_reducible apply (LR_call (f := 44))); exact rfl; exact rfl; exact rfl; exact fun w hw => iValidRule_ok b w true (hb'.mono hw) hvb)
      | ((with_reducible apply (LR_call (f := 56))); exact rfl; exact rfl; exact rfl; exact fun w hw => iGM_no a.g b.g w (ha.mono hw) (hb'.mono hw) va.2.2.2.2.2.1 vb.2.2.2.2.2.1 hM)
      | ((with_reducible apply CS_seq))
      | ((with_reducible apply CS_region))
      | ((with_reducible apply RR_end))
      | ((with_reducible apply LR_pure); exact rfl; exact rfl; exact rfl)
      | ((with_reducible apply LR_skip); exact rfl; exact rfl)
      | ((with_reducible apply LR_field_own); exact rfl; exact rfl; exact rfl)
      | ((with_reducible apply LR_load_own 1); exact rfl; exact rfl; exact rfl; exact rfl; exact rfl)
      | ((with_reducible apply LR_load_own 2); exact rfl; exact rfl; exact rfl; exact rfl; exact rfl)
      | ((with_reducible apply LR_load_own_agg 1); exact rfl; exact rfl; exact rfl; exact rfl; exact rfl)
      | ((with_reducible apply LR_load_own_agg 2); exact rfl; exact rfl; exact rfl; exact rfl; exact rfl)
      | ((with_reducible apply LS_alloc); exact rfl; exact rfl; exact rfl; intro _)
      | ((with_reducible apply LS_box); exact rfl; exact rfl; exact rfl; exact rfl; intro _)
      | ((with_reducible apply LS_store_agg 0); exact rfl; exact rfl; exact rfl; exact rfl; exact rfl; exact rfl; exact rfl; exact rfl)
      | ((with_reducible apply post_seq))
      | ((with_reducible apply CS_skip))
      | ((with_reducible apply CS_ret))
      | ((with_reducible apply CS_cond_f); exact rfl)
      | ((with_reducible apply CS_cond_nd); exact rfl; all_goals intro hb; all_goals try (exfalso; omega))
      | ((with_reducible apply LR_caseg_nd); exact rfl; exact rfl; all_goals intro hb; all_goals try (exfalso; omega))
      | ((with_reducible apply LR_caseg_d); exact rfl; exact rfl; all_goals intro hb; all_goals try (exfalso; omega))
    all_goals first | (exfalso; contradiction) | (exfalso; omega) | (exfalso; simp at hb <;> omega) | skip
    all_goals (refine post_ret_ct 0 rfl rfl rfl rfl rfl fun w' hw' => ?_; exact ⟨rfl, hw'.below⟩)
  · cases ba
    all_goals cases bb
    all_goals simp only [Bool.false_eq_true, false_and, and_false, true_and, not_false_eq_true] at hp
    all_goals
      refine enter (vs := [ruV a, ruV b]) Try.func35 rfl Try.ntmps35 rfl ?_
      repeat' first
        | ((with_reducible apply (LR_call (f := 44))); exact rfl; exact rfl; exact rfl; exact fun w hw => iValidRule_ok a w _ (ha.mono hw) hva)
        | ((with_reducible apply (LR_call (f := 44))); exact rfl; exact rfl; exact rfl; exact fun w hw => iValidRule_ok b w _ (hb'.mono hw) hvb)
        | ((with_reducible apply CS_seq))
        | ((with_reducible apply CS_region))
        | ((with_reducible apply RR_end))
        | ((with_reducible apply LR_pure); exact rfl; exact rfl; exact rfl)
        | ((with_reducible apply LR_skip); exact rfl; exact rfl)
        | ((with_reducible apply LR_field_own); exact rfl; exact rfl; exact rfl)
        | ((with_reducible apply LR_load_own 1); exact rfl; exact rfl; exact rfl; exact rfl; exact rfl)
        | ((with_reducible apply LR_load_own 2); exact rfl; exact rfl; exact rfl; exact rfl; exact rfl)
        | ((with_reducible apply LR_load_own_agg 1); exact rfl; exact rfl; exact rfl; exact rfl; exact rfl)
        | ((with_reducible apply LR_load_own_agg 2); exact rfl; exact rfl; exact rfl; exact rfl; exact rfl)
        | ((with_reducible apply LS_alloc); exact rfl; exact rfl; exact rfl; intro _)
        | ((with_reducible apply LS_box); exact rfl; exact rfl; exact rfl; exact rfl; intro _)
        | ((with_reducible apply LS_store_agg 0); exact rfl; exact rfl; exact rfl; exact rfl; exact rfl; exact rfl; exact rfl; exact rfl)
        | ((with_reducible apply LR_build); exact rfl; exact rfl; exact rfl; exact rfl)
        | ((with_reducible apply post_seq))
        | ((with_reducible apply post_then_ret))
        | ((with_reducible apply CS_skip))
        | ((with_reducible apply CS_ret))
        | ((with_reducible apply CS_cond_t); exact rfl)
        | ((with_reducible apply CS_cond_nd); exact rfl; all_goals intro hb; all_goals try (exfalso; omega))
        | ((with_reducible apply LR_caseg_nd); exact rfl; exact rfl; all_goals intro hb; all_goals try (exfalso; omega))
        | ((with_reducible apply LR_caseg_d); exact rfl; exact rfl; all_goals intro hb; all_goals try (exfalso; omega))
      all_goals first | (exfalso; contradiction) | (exfalso; omega) | (exfalso; simp at hb <;> omega) | skip
      all_goals (refine post_ret_ct 0 rfl rfl rfl rfl rfl fun w' hw' => ?_; exact ⟨rfl, hw'.below⟩)
theorem together_ok (a b : Ru) (w : World) (bb : Bool) (hB : (a.grp < 0 ∨ b.grp < 0 ∨ a.grp = b.grp) ↔ bb = true) : Calls Try.prog 82 #[ruV a, ruV b] w (Gives (.bool bb) w) := by
  cases bb
  all_goals simp only [Bool.false_eq_true, iff_false, iff_true] at hB
  all_goals
    refine enter (vs := [ruV a, ruV b]) Try.func82 rfl Try.ntmps82 rfl ?_
    repeat' first
      | ((with_reducible apply CS_seq))
      | ((with_reducible apply CS_region))
      | ((with_reducible apply RR_end))
      | ((with_reducible apply LR_pure); exact rfl; exact rfl; exact rfl)
      | ((with_reducible apply LR_skip); exact rfl; exact rfl)
      | ((with_reducible apply LR_field_own); exact rfl; exact rfl; exact rfl)
      | ((with_reducible apply LR_load_own 0); exact rfl; exact rfl; exact rfl; exact rfl; exact rfl)
      | ((with_reducible apply LR_load_own 1); exact rfl; exact rfl; exact rfl; exact rfl; exact rfl)
      | ((with_reducible apply LS_box); exact rfl; exact rfl; exact rfl; exact rfl; intro _)
      | ((with_reducible apply post_seq))
      | ((with_reducible apply CS_ret))
      | ((with_reducible apply LR_caseg_d); exact rfl; exact rfl; all_goals intro hb; all_goals try (exfalso; omega))
    all_goals first | (exfalso; contradiction) | (exfalso; omega) | (exfalso; simp at hb <;> omega) | skip
    all_goals (apply ret_bool; exact rfl; exact rfl; first | rfl | (simp; omega))
theorem conflict_yes (a b : Ru) (w : World) (ha : ROk w a) (hb' : ROk w b) (la : a.g.cs.length = 3) (lb : b.g.cs.length = 3) (h2 : a.lev = b.lev) (h3 : a.rank = b.rank) (h4 : a.grp < 0 ∨ b.grp < 0 ∨ a.grp = b.grp) (hM : Meets a.g b.g) : Calls Try.prog 67 #[ruV a, ruV b] w
    (fun x w' => ∃ i : PtG, (3 ≤ i.c1 ∧ i.c1 ≤ maxLen ∧ (cps a.g.cp b.g.cp 9).length ≤ i.c2 ∧ i.c2 ≤ maxLen) ∧ x = .returned (.tuple #[ptV (mx a.g.tot b.g.tot) 3 (cps a.g.cp b.g.cp 9).length i, .bool true]) ∧ Wd w [intE i.g1 i.c1 (lows a.g.cs b.g.cs), intE i.g2 i.c2 (cps a.g.cp b.g.cp 9)] w') := by
  have hT : (a.grp < 0 ∨ b.grp < 0 ∨ a.grp = b.grp) ↔ true = true := by simp [h4]
  have hM' : Meets a.g b.g ↔ true = true := by simp [hM]
  refine enter (vs := [ruV a, ruV b]) Try.func67 rfl Try.ntmps67 rfl ?_
  repeat' first
    | ((with_reducible apply (LR_call (f := 82))); exact rfl; exact rfl; exact rfl; exact fun w hw => together_ok a b w true hT)
    | ((with_reducible apply (LS_callx (f := 83))); exact rfl; exact rfl; exact rfl; exact fun w hw => both_ok a.g b.g w (ha.mono hw) (hb'.mono hw) la lb true hM'; rintro ⟨g1, c1, g2, c2⟩ ⟨q1, q2, q3, q4⟩)
    | ((with_reducible apply CS_seq))
    | ((with_reducible apply CS_region))
    | ((with_reducible apply RR_end))
    | ((with_reducible apply LR_pure); exact rfl; exact rfl; exact rfl)
    | ((with_reducible apply LR_field_own); exact rfl; exact rfl; exact rfl)
    | ((with_reducible apply LR_load_own 1); exact rfl; exact rfl; exact rfl; exact rfl; exact rfl)
    | ((with_reducible apply LR_load_own 2); exact rfl; exact rfl; exact rfl; exact rfl; exact rfl)
    | ((with_reducible apply LR_load_own_agg 0); exact rfl; exact rfl; exact rfl; exact rfl; exact rfl)
    | ((with_reducible apply LR_load_own_agg 1); exact rfl; exact rfl; exact rfl; exact rfl; exact rfl)
    | ((with_reducible apply LR_load_own_agg 2); exact rfl; exact rfl; exact rfl; exact rfl; exact rfl)
    | ((with_reducible apply LS_alloc); exact rfl; exact rfl; exact rfl; intro _)
    | ((with_reducible apply LS_box); exact rfl; exact rfl; exact rfl; exact rfl; intro _)
    | ((with_reducible apply LS_store_agg 0); exact rfl; exact rfl; exact rfl; exact rfl; exact rfl; exact rfl; exact rfl; exact rfl)
    | ((with_reducible apply LS_store_agg 3); exact rfl; exact rfl; exact rfl; exact rfl; exact rfl; exact rfl; exact rfl; exact rfl)
    | ((with_reducible apply post_seq))
    | ((with_reducible apply CS_skip))
    | ((with_reducible apply CS_ret))
    | ((with_reducible apply CS_cond_f); exact rfl)
    | ((with_reducible apply LR_caseg_nd); exact rfl; exact rfl; all_goals intro hb; all_goals try (exfalso; omega))
  all_goals first | (exfalso; contradiction) | (exfalso; omega) | (exfalso; simp at hb <;> omega) | skip
  all_goals (refine post_ret_ct 0 rfl rfl rfl rfl rfl fun w' hw' => ?_; exact ⟨⟨g1, c1, g2, c2⟩, ⟨q1, q2, q3, q4⟩, rfl, by first | exact hw'.picks [2, 2] rfl | exact hw'.picks [1, 1] rfl⟩)
theorem conflict_no (a b : Ru) (w : World) (ha : ROk w a) (hb' : ROk w b) (la : a.g.cs.length = 3) (lb : b.g.cs.length = 3) (hC : ¬ (a.lev = b.lev ∧ a.rank = b.rank ∧ (a.grp < 0 ∨ b.grp < 0 ∨ a.grp = b.grp) ∧ Meets a.g b.g)) : Calls Try.prog 67 #[ruV a, ruV b] w (Gives (.tuple #[ptV0, .bool false]) w) := by
  obtain ⟨bt, hT⟩ := bex (a.grp < 0 ∨ b.grp < 0 ∨ a.grp = b.grp)
  by_cases hp : a.lev = b.lev ∧ a.rank = b.rank ∧ bt = true
  · obtain ⟨h1, h2, rfl⟩ := hp
    have hM' : Meets a.g b.g ↔ false = true := by
      simp only [Bool.false_eq_true, iff_false]; exact fun h => hC ⟨h1, h2, hT.2 rfl, h⟩
    refine enter (vs := [ruV a, ruV b]) Try.func67 rfl Try.ntmps67 rfl ?_
    repeat' first
      | ((with_reducible apply (LR_call (f := 82))); exact rfl; exact rfl; exact rfl; exact fun w hw => together_ok a b w true hT)
      | ((with_reducible apply (LS_callx (f := 83))); exact rfl; exact rfl; exact rfl; exact fun w hw => both_ok a.g b.g w (ha.mono hw) (hb'.mono hw) la lb false hM'; rintro ⟨g1, c1, g2, c2⟩ ⟨q1, q2, q3, q4⟩)
      | ((with_reducible apply CS_seq))
      | ((with_reducible apply CS_region))
      | ((with_reducible apply RR_end))
      | ((with_reducible apply LR_pure); exact rfl; exact rfl; exact rfl)
      | ((with_reducible apply LR_field_own); exact rfl; exact rfl; exact rfl)
      | ((with_reducible apply LR_load_own 1); exact rfl; exact rfl; exact rfl; exact rfl; exact rfl)
      | ((with_reducible apply LR_load_own 2); exact rfl; exact rfl; exact rfl; exact rfl; exact rfl)
      | ((with_reducible apply LR_load_own_agg 1); exact rfl; exact rfl; exact rfl; exact rfl; exact rfl)
      | ((with_reducible apply LR_load_own_agg 2); exact rfl; exact rfl; exact rfl; exact rfl; exact rfl)
      | ((with_reducible apply LS_alloc); exact rfl; exact rfl; exact rfl; intro _)
      | ((with_reducible apply LS_box); exact rfl; exact rfl; exact rfl; exact rfl; intro _)
      | ((with_reducible apply LS_store_agg 0); exact rfl; exact rfl; exact rfl; exact rfl; exact rfl; exact rfl; exact rfl; exact rfl)
      | ((with_reducible apply LS_store_agg 3); exact rfl; exact rfl; exact rfl; exact rfl; exact rfl; exact rfl; exact rfl; exact rfl)
      | ((with_reducible apply LR_build); exact rfl; exact rfl; exact rfl; exact rfl)
      | ((with_reducible apply post_seq))
      | ((with_reducible apply post_then_ret))
      | ((with_reducible apply CS_skip))
      | ((with_reducible apply CS_ret))
      | ((with_reducible apply CS_cond_t); exact rfl)
      | ((with_reducible apply CS_cond_f); exact rfl)
      | ((with_reducible apply LR_caseg_nd); exact rfl; exact rfl; all_goals intro hb; all_goals try (exfalso; omega))
    all_goals first | (exfalso; contradiction) | (exfalso; omega) | (exfalso; simp at hb <;> omega) | skip
    all_goals (refine post_ret_ct 0 rfl rfl rfl rfl rfl fun w' hw' => ?_; exact ⟨rfl, hw'.below⟩)
  · cases bt
    all_goals simp only [Bool.false_eq_true, and_false, and_true] at hp
    all_goals
      refine enter (vs := [ruV a, ruV b]) Try.func67 rfl Try.ntmps67 rfl ?_
      repeat' first
        | ((with_reducible apply (LR_call (f := 82))); exact rfl; exact rfl; exact rfl; exact fun w hw => together_ok a b w _ hT)
        | ((with_reducible apply CS_seq))
        | ((with_reducible apply CS_region))
        | ((with_reducible apply RR_end))
        | ((with_reducible apply LR_pure); exact rfl; exact rfl; exact rfl)
        | ((with_reducible apply LR_skip); exact rfl; exact rfl)
        | ((with_reducible apply LR_field_own); exact rfl; exact rfl; exact rfl)
        | ((with_reducible apply LR_load_own 1); exact rfl; exact rfl; exact rfl; exact rfl; exact rfl)
        | ((with_reducible apply LR_load_own 2); exact rfl; exact rfl; exact rfl; exact rfl; exact rfl)
        | ((with_reducible apply LR_load_own_agg 1); exact rfl; exact rfl; exact rfl; exact rfl; exact rfl)
        | ((with_reducible apply LR_load_own_agg 2); exact rfl; exact rfl; exact rfl; exact rfl; exact rfl)
        | ((with_reducible apply LS_alloc); exact rfl; exact rfl; exact rfl; intro _)
        | ((with_reducible apply LS_box); exact rfl; exact rfl; exact rfl; exact rfl; intro _)
        | ((with_reducible apply LS_store_agg 0); exact rfl; exact rfl; exact rfl; exact rfl; exact rfl; exact rfl; exact rfl; exact rfl)
        | ((with_reducible apply LR_build); exact rfl; exact rfl; exact rfl; exact rfl)
        | ((with_reducible apply post_seq))
        | ((with_reducible apply post_then_ret))
        | ((with_reducible apply CS_ret))
        | ((with_reducible apply CS_cond_t); exact rfl)
        | ((with_reducible apply LR_caseg_nd); exact rfl; exact rfl; all_goals intro hb; all_goals try (exfalso; omega))
      all_goals first | (exfalso; contradiction) | (exfalso; omega) | (exfalso; simp at hb <;> omega) | skip
      all_goals (refine post_ret_ct 0 rfl rfl rfl rfl rfl fun w' hw' => ?_; exact ⟨rfl, hw'.below⟩)
theorem Cf_grp {a b : Ru} (va : VR a) (vb : VR b) : (a.grp = b.grp ∨ a.grp = -1 ∨ b.grp = -1) ↔ (a.grp < 0 ∨ b.grp < 0 ∨ a.grp = b.grp) := by
  have := va.2.2.2.1
  have := vb.2.2.2.1
  omega
end Go.Proofs.Ytpflkichnjfgkaa
