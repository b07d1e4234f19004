/- The walks of the laws on clear lists of rules. No condition beyond those that each theorem states. -/
import Derived.Test.YtpflkichnjfgkaaWOr6
import Derived.Test.YtpflkichnjfgkaaWOr7
import Derived.Test.YtpflkichnjfgkaaWDrO
import Derived.Test.YtpflkichnjfgkaaReg
namespace Go.Proofs.Ytpflkichnjfgkaa
open Go.RowKit
attribute [local irreducible] Calls
theorem clear_len {l : List Ru} {ps : List Pp} (hV : VRs l) (h : IsPairs l (ps.map pPr)) : Clear l ↔ ps.length = 0 := by
  rw [Clear_pairs hV h]
  constructor
  · intro h
    have := congrArg List.length h
    simpa using this
  · intro h
    rw [List.length_eq_zero_iff.1 h]; rfl
set_option maxHeartbeats 4000000 in
theorem FnIsClear_ok (v : Value) (l : List By) (w : World) (hs : Sl w v l) (hby : BytesOk l) : Calls Try.prog 6 #[v] w (Gives (.bool true) w) := by
  have hlen := hs.len
  have hml : maxLen = 9223372036854775807 := rfl
  simp only [maxLen] at hlen
  refine enter (vs := [v]) Try.func6 rfl Try.ntmps6 rfl ?_
  repeat' first
    | ((with_reducible apply LR_len_sl); exact rfl; exact rfl; exact rfl; exact hs)
    | ((with_reducible apply (LS_callr (f := 21))); exact rfl; exact rfl; exact rfl; exact fun w hw => DrawIsClear_ok v l w (hs.mono hw) hby; rintro ⟨v1, rs⟩ w1 k1 ⟨z1, z2, z3⟩; dsimp only at z1 z2 z3 ⊢)
    | ((with_reducible apply CS_seq))
    | ((with_reducible apply CS_region))
    | ((with_reducible apply RR_end))
    | ((with_reducible apply LR_pure); exact rfl; exact rfl; exact rfl)
    | ((with_reducible apply post_seq))
    | ((with_reducible apply post_then_ret))
    | ((with_reducible apply CS_skip))
    | ((with_reducible apply CS_ret))
    | ((with_reducible apply CS_cond_d); exact rfl; all_goals intro hb; all_goals try (exfalso; omega))
  · apply ret_bool; exact rfl; exact rfl; rfl
  obtain ⟨b, hC⟩ := bex (Clear rs)
  by_cases hV : VRs rs
  · have hB : VRs rs ↔ true = true := by simp [hV]
    cases b
    all_goals
      repeat' first
        | ((with_reducible apply (LR_call (f := 22))); exact rfl; exact rfl; exact rfl; exact fun w hw => iIsClear_ok v1 rs w _ (z1.mono hw) (fun r hr => (z2 r hr).mono hw) hC)
        | ((with_reducible apply (LR_call (f := 23))); exact rfl; exact rfl; exact rfl; exact fun w hw => sIsClear_ok v1 rs w _ (z1.mono hw) (fun r hr => (z2 r hr).mono hw) hC)
        | ((with_reducible apply (LR_call (f := 19))); exact rfl; exact rfl; exact rfl; exact fun w hw => iValidRules_ok v1 rs w _ (z1.mono hw) (fun r hr => (z2 r hr).mono hw) hB)
        | ((with_reducible apply (LS_callx (f := 24))); exact rfl; exact rfl; exact rfl; exact fun w hw => iAllConflicts_ok v1 rs w (z1.mono hw) (fun r hr => (z2 r hr).mono hw) hV; rintro ⟨g1, c1, ps⟩ ⟨q1, q2, q3, q4, q5⟩; dsimp only at q1 q2 q3 q4 q5 ⊢; (have hcl := clear_len hV q1))
        | ((with_reducible apply CS_seq))
        | ((with_reducible apply CS_region))
        | ((with_reducible apply RR_end))
        | ((with_reducible apply LR_pure); exact rfl; exact rfl; exact rfl)
        | ((with_reducible apply LR_neqb); exact rfl; exact rfl; exact rfl; exact rfl)
        | ((with_reducible apply LR_eqb); exact rfl; exact rfl; exact rfl; exact rfl)
        | ((with_reducible apply LR_len); exact rfl; exact rfl; exact rfl)
        | ((with_reducible apply post_seq))
        | ((with_reducible apply CS_skip))
        | ((with_reducible apply CS_ret))
        | ((with_reducible apply CS_cond_f); exact rfl)
      all_goals first | (exfalso; contradiction) | (exfalso; omega) | (exfalso; simp at hb <;> omega) | skip
      all_goals (apply ret_boolr k1; exact rfl; exact rfl; first | rfl | (rw [hC] at hcl; simp at hcl ⊢; omega) | (rw [hC] at hcl; simp at hcl ⊢; first | exact hcl | simp [hcl]))
  · have hB : VRs rs ↔ false = true := by simp [hV]
    have hbf : b = false := by
      cases b
      · rfl
      · exact absurd (hC.2 rfl).1 hV
    subst hbf
    repeat' first
      | ((with_reducible apply (LR_call (f := 22))); exact rfl; exact rfl; exact rfl; exact fun w hw => iIsClear_ok v1 rs w _ (z1.mono hw) (fun r hr => (z2 r hr).mono hw) hC)
      | ((with_reducible apply (LR_call (f := 23))); exact rfl; exact rfl; exact rfl; exact fun w hw => sIsClear_ok v1 rs w _ (z1.mono hw) (fun r hr => (z2 r hr).mono hw) hC)
      | ((with_reducible apply (LR_call (f := 19))); exact rfl; exact rfl; exact rfl; exact fun w hw => iValidRules_ok v1 rs w _ (z1.mono hw) (fun r hr => (z2 r hr).mono hw) hB)
      | ((with_reducible apply CS_seq))
      | ((with_reducible apply CS_region))
      | ((with_reducible apply RR_end))
      | ((with_reducible apply LR_pure); exact rfl; exact rfl; exact rfl)
      | ((with_reducible apply LR_skip); exact rfl; exact rfl)
      | ((with_reducible apply LR_neqb); exact rfl; exact rfl; exact rfl; exact rfl)
      | ((with_reducible apply LR_eqb); exact rfl; exact rfl; exact rfl; exact rfl)
      | ((with_reducible apply post_seq))
      | ((with_reducible apply CS_skip))
      | ((with_reducible apply CS_ret))
      | ((with_reducible apply CS_cond_f); exact rfl)
    all_goals first | (exfalso; contradiction) | (exfalso; omega) | (exfalso; simp at hb <;> omega) | skip
    all_goals (apply ret_boolr k1; exact rfl; exact rfl; rfl)
set_option maxHeartbeats 8000000 in
theorem FnIsClearLess_ok (v : Value) (l : List By) (w : World) (hs : Sl w v l) (hby : BytesOk l) : Calls Try.prog 7 #[v] w (Gives (.bool true) w) := by
  have hlen := hs.len
  have hml : maxLen = 9223372036854775807 := rfl
  simp only [maxLen] at hlen
  refine enter (vs := [v]) Try.func7 rfl Try.ntmps7 rfl ?_
  repeat' first
    | ((with_reducible apply LR_len_sl); exact rfl; exact rfl; exact rfl; exact hs)
    | ((with_reducible apply (LS_callr (f := 21))); exact rfl; exact rfl; exact rfl; exact fun w hw => DrawIsClear_ok v l w (hs.mono hw) hby; rintro ⟨v1, rs⟩ w1 k1 ⟨z1, z2, z3⟩; dsimp only at z1 z2 z3 ⊢)
    | ((with_reducible apply CS_seq))
    | ((with_reducible apply CS_region))
    | ((with_reducible apply RR_end))
    | ((with_reducible apply LR_pure); exact rfl; exact rfl; exact rfl)
    | ((with_reducible apply post_seq))
    | ((with_reducible apply post_then_ret))
    | ((with_reducible apply CS_skip))
    | ((with_reducible apply CS_ret))
    | ((with_reducible apply CS_cond_d); exact rfl; all_goals intro hb; all_goals try (exfalso; omega))
  · apply ret_bool; exact rfl; exact rfl; rfl
  obtain ⟨b, hC⟩ := bex (Clear rs)
  obtain ⟨k, hk⟩ : ∃ k : Nat, k = l.length % rs.length := ⟨_, rfl⟩
  by_cases h0 : rs.length = 0
  · cases b
    all_goals
      repeat' first
        | ((with_reducible apply LR_len_sl); exact rfl; exact rfl; exact rfl; exact z1)
        | ((with_reducible apply (LR_call (f := 22))); exact rfl; exact rfl; exact rfl; exact fun w hw => iIsClear_ok v1 rs w _ (z1.mono hw) (fun r hr => (z2 r hr).mono hw) hC)
        | ((with_reducible apply (LR_call (f := 23))); exact rfl; exact rfl; exact rfl; exact fun w hw => sIsClear_ok v1 rs w _ (z1.mono hw) (fun r hr => (z2 r hr).mono hw) hC)
        | ((with_reducible apply CS_seq))
        | ((with_reducible apply CS_region))
        | ((with_reducible apply RR_end))
        | ((with_reducible apply LR_pure); exact rfl; exact rfl; exact rfl)
        | ((with_reducible apply LR_skip); exact rfl; exact rfl)
        | ((with_reducible apply LR_neqb); exact rfl; exact rfl; exact rfl; exact rfl)
        | ((with_reducible apply LR_eqb); exact rfl; exact rfl; exact rfl; exact rfl)
        | ((with_reducible apply post_seq))
        | ((with_reducible apply post_then_ret))
        | ((with_reducible apply CS_ret))
        | ((with_reducible apply CS_cond_t); exact rfl)
        | ((with_reducible apply CS_cond_d); exact rfl; all_goals intro hb; all_goals try (exfalso; omega))
      all_goals first | (exfalso; contradiction) | (exfalso; omega) | (exfalso; simp at hb <;> omega) | skip
      all_goals (apply ret_boolr k1; exact rfl; exact rfl; rfl)
  · have hkl : k < rs.length := by rw [hk]; exact Nat.mod_lt _ (by omega)
    have hkt : (l.length : Int) % (rs.length : Int) = (k : Int) := by rw [hk]; rfl
    cases b
    · skip
      repeat' first
        | ((with_reducible apply (LR_call (f := 22))); exact rfl; exact rfl; exact rfl; exact fun w hw => iIsClear_ok v1 rs w _ (z1.mono hw) (fun r hr => (z2 r hr).mono hw) hC)
        | ((with_reducible apply (LR_call (f := 23))); exact rfl; exact rfl; exact rfl; exact fun w hw => sIsClear_ok v1 rs w _ (z1.mono hw) (fun r hr => (z2 r hr).mono hw) hC)
        | ((with_reducible apply CS_seq))
        | ((with_reducible apply CS_region))
        | ((with_reducible apply RR_end))
        | ((with_reducible apply LR_pure); exact rfl; exact rfl; exact rfl)
        | ((with_reducible apply LR_skip); exact rfl; exact rfl)
        | ((with_reducible apply LR_neqb); exact rfl; exact rfl; exact rfl; exact rfl)
        | ((with_reducible apply LR_eqb); exact rfl; exact rfl; exact rfl; exact rfl)
        | ((with_reducible apply post_seq))
        | ((with_reducible apply post_then_ret))
        | ((with_reducible apply CS_ret))
        | ((with_reducible apply CS_cond_t); exact rfl)
      all_goals first | (exfalso; contradiction) | (exfalso; omega) | (exfalso; simp at hb <;> omega) | skip
      all_goals (apply ret_boolr k1; exact rfl; exact rfl; rfl)
    · have hLL : ((rs.take k).drop 0 ++ (rs.take rs.length).drop (k + 1)).Sublist rs := by rw [List.drop_zero, List.take_length]; exact drop_one_sub rs k
      have hV : Clear ((rs.take k).drop 0 ++ (rs.take rs.length).drop (k + 1)) ↔ true = true := ⟨fun _ => rfl, fun _ => Clear_sub (hC.2 rfl) hLL⟩
      repeat' first
        | ((with_reducible apply LR_len_sl); exact rfl; exact rfl; exact rfl; exact z1)
        | ((with_reducible apply LR_len_sl); exact rfl; exact rfl; exact rfl; exact hs)
        | ((with_reducible apply (LR_call (f := 22))); exact rfl; exact rfl; exact rfl; exact fun w hw => iIsClear_ok v1 rs w _ (z1.mono hw) (fun r hr => (z2 r hr).mono hw) hC)
        | ((with_reducible apply (LR_call (f := 23))); exact rfl; exact rfl; exact rfl; exact fun w hw => sIsClear_ok v1 rs w _ (z1.mono hw) (fun r hr => (z2 r hr).mono hw) hC)
        | ((with_reducible apply CS_seq))
        | ((with_reducible apply CS_region))
        | ((with_reducible apply RR_end))
        | ((with_reducible apply LR_pure); exact rfl; exact rfl; exact rfl)
        | ((with_reducible apply LR_rem); exact rfl; exact rfl; exact rfl; exact rfl; omega; omega)
        | ((with_reducible apply LR_neqb); exact rfl; exact rfl; exact rfl; exact rfl)
        | ((with_reducible apply post_seq))
        | ((with_reducible apply CS_skip))
        | ((with_reducible apply CS_cond_d); exact rfl; all_goals intro hb; all_goals try (exfalso; omega))
      all_goals first | (exfalso; contradiction) | (exfalso; omega) | (exfalso; simp at hb <;> omega) | skip
      have hdt : (rs.take k).length = k := by rw [List.length_take]; omega
      have hdd : ((rs.take rs.length).drop (k + 1)).length = rs.length - (k + 1) := by rw [List.length_drop, List.length_take]; omega
      have hd0 : ((rs.take k).drop 0).length = k := by rw [List.drop_zero]; exact hdt
      refine CS_regionHi (id := 8) 12 [] (fun _ : Unit => [(2, .bool true)]) (fun _ => Wd w1 []) (fun _ => True) (by kernel_rfl) rfl (by rfl) ?_ ?_
      · skip
        repeat' first
          | ((with_reducible apply (RH_take 1)); exact rfl; kernel_rfl; decide +kernel; decide +kernel; (first | exact fun _ hw => hw | exact fun _ hw => hw.sub (by repeat (first | exact List.Sublist.refl _ | exact List.nil_sublist _ | apply List.Sublist.cons_cons | apply List.Sublist.cons)) | exact fun _ hw => (hw.perm (pull_perm 1 _ _ _ rfl)).sub (by repeat (first | exact List.Sublist.refl _ | exact List.nil_sublist _ | apply List.Sublist.cons_cons | apply List.Sublist.cons)) | exact fun _ hw => (hw.perm (pull_perm 2 _ _ _ rfl)).sub (by repeat (first | exact List.Sublist.refl _ | exact List.nil_sublist _ | apply List.Sublist.cons_cons | apply List.Sublist.cons)) | exact fun _ hw => (hw.perm (pull_perm 3 _ _ _ rfl)).sub (by repeat (first | exact List.Sublist.refl _ | exact List.nil_sublist _ | apply List.Sublist.cons_cons | apply List.Sublist.cons)) | exact fun _ hw => (hw.perm (pull_perm 4 _ _ _ rfl)).sub (by repeat (first | exact List.Sublist.refl _ | exact List.nil_sublist _ | apply List.Sublist.cons_cons | apply List.Sublist.cons))))
          | ((with_reducible apply (RH_take 2)); exact rfl; kernel_rfl; decide +kernel; decide +kernel; (first | exact fun _ hw => hw | exact fun _ hw => hw.sub (by repeat (first | exact List.Sublist.refl _ | exact List.nil_sublist _ | apply List.Sublist.cons_cons | apply List.Sublist.cons)) | exact fun _ hw => (hw.perm (pull_perm 1 _ _ _ rfl)).sub (by repeat (first | exact List.Sublist.refl _ | exact List.nil_sublist _ | apply List.Sublist.cons_cons | apply List.Sublist.cons)) | exact fun _ hw => (hw.perm (pull_perm 2 _ _ _ rfl)).sub (by repeat (first | exact List.Sublist.refl _ | exact List.nil_sublist _ | apply List.Sublist.cons_cons | apply List.Sublist.cons)) | exact fun _ hw => (hw.perm (pull_perm 3 _ _ _ rfl)).sub (by repeat (first | exact List.Sublist.refl _ | exact List.nil_sublist _ | apply List.Sublist.cons_cons | apply List.Sublist.cons)) | exact fun _ hw => (hw.perm (pull_perm 4 _ _ _ rfl)).sub (by repeat (first | exact List.Sublist.refl _ | exact List.nil_sublist _ | apply List.Sublist.cons_cons | apply List.Sublist.cons))))
          | ((with_reducible apply (RH_take 3)); exact rfl; kernel_rfl; decide +kernel; decide +kernel; (first | exact fun _ hw => hw | exact fun _ hw => hw.sub (by repeat (first | exact List.Sublist.refl _ | exact List.nil_sublist _ | apply List.Sublist.cons_cons | apply List.Sublist.cons)) | exact fun _ hw => (hw.perm (pull_perm 1 _ _ _ rfl)).sub (by repeat (first | exact List.Sublist.refl _ | exact List.nil_sublist _ | apply List.Sublist.cons_cons | apply List.Sublist.cons)) | exact fun _ hw => (hw.perm (pull_perm 2 _ _ _ rfl)).sub (by repeat (first | exact List.Sublist.refl _ | exact List.nil_sublist _ | apply List.Sublist.cons_cons | apply List.Sublist.cons)) | exact fun _ hw => (hw.perm (pull_perm 3 _ _ _ rfl)).sub (by repeat (first | exact List.Sublist.refl _ | exact List.nil_sublist _ | apply List.Sublist.cons_cons | apply List.Sublist.cons)) | exact fun _ hw => (hw.perm (pull_perm 4 _ _ _ rfl)).sub (by repeat (first | exact List.Sublist.refl _ | exact List.nil_sublist _ | apply List.Sublist.cons_cons | apply List.Sublist.cons))))
          | ((with_reducible apply (RH_take 5)); exact rfl; kernel_rfl; decide +kernel; decide +kernel; (first | exact fun _ hw => hw | exact fun _ hw => hw.sub (by repeat (first | exact List.Sublist.refl _ | exact List.nil_sublist _ | apply List.Sublist.cons_cons | apply List.Sublist.cons)) | exact fun _ hw => (hw.perm (pull_perm 1 _ _ _ rfl)).sub (by repeat (first | exact List.Sublist.refl _ | exact List.nil_sublist _ | apply List.Sublist.cons_cons | apply List.Sublist.cons)) | exact fun _ hw => (hw.perm (pull_perm 2 _ _ _ rfl)).sub (by repeat (first | exact List.Sublist.refl _ | exact List.nil_sublist _ | apply List.Sublist.cons_cons | apply List.Sublist.cons)) | exact fun _ hw => (hw.perm (pull_perm 3 _ _ _ rfl)).sub (by repeat (first | exact List.Sublist.refl _ | exact List.nil_sublist _ | apply List.Sublist.cons_cons | apply List.Sublist.cons)) | exact fun _ hw => (hw.perm (pull_perm 4 _ _ _ rfl)).sub (by repeat (first | exact List.Sublist.refl _ | exact List.nil_sublist _ | apply List.Sublist.cons_cons | apply List.Sublist.cons))))
          | ((with_reducible apply (RH_take 6)); exact rfl; kernel_rfl; decide +kernel; decide +kernel; (first | exact fun _ hw => hw | exact fun _ hw => hw.sub (by repeat (first | exact List.Sublist.refl _ | exact List.nil_sublist _ | apply List.Sublist.cons_cons | apply List.Sublist.cons)) | exact fun _ hw => (hw.perm (pull_perm 1 _ _ _ rfl)).sub (by repeat (first | exact List.Sublist.refl _ | exact List.nil_sublist _ | apply List.Sublist.cons_cons | apply List.Sublist.cons)) | exact fun _ hw => (hw.perm (pull_perm 2 _ _ _ rfl)).sub (by repeat (first | exact List.Sublist.refl _ | exact List.nil_sublist _ | apply List.Sublist.cons_cons | apply List.Sublist.cons)) | exact fun _ hw => (hw.perm (pull_perm 3 _ _ _ rfl)).sub (by repeat (first | exact List.Sublist.refl _ | exact List.nil_sublist _ | apply List.Sublist.cons_cons | apply List.Sublist.cons)) | exact fun _ hw => (hw.perm (pull_perm 4 _ _ _ rfl)).sub (by repeat (first | exact List.Sublist.refl _ | exact List.nil_sublist _ | apply List.Sublist.cons_cons | apply List.Sublist.cons))))
          | ((with_reducible apply (RH_take 7)); exact rfl; kernel_rfl; decide +kernel; decide +kernel; (first | exact fun _ hw => hw | exact fun _ hw => hw.sub (by repeat (first | exact List.Sublist.refl _ | exact List.nil_sublist _ | apply List.Sublist.cons_cons | apply List.Sublist.cons)) | exact fun _ hw => (hw.perm (pull_perm 1 _ _ _ rfl)).sub (by repeat (first | exact List.Sublist.refl _ | exact List.nil_sublist _ | apply List.Sublist.cons_cons | apply List.Sublist.cons)) | exact fun _ hw => (hw.perm (pull_perm 2 _ _ _ rfl)).sub (by repeat (first | exact List.Sublist.refl _ | exact List.nil_sublist _ | apply List.Sublist.cons_cons | apply List.Sublist.cons)) | exact fun _ hw => (hw.perm (pull_perm 3 _ _ _ rfl)).sub (by repeat (first | exact List.Sublist.refl _ | exact List.nil_sublist _ | apply List.Sublist.cons_cons | apply List.Sublist.cons)) | exact fun _ hw => (hw.perm (pull_perm 4 _ _ _ rfl)).sub (by repeat (first | exact List.Sublist.refl _ | exact List.nil_sublist _ | apply List.Sublist.cons_cons | apply List.Sublist.cons))))
          | ((with_reducible apply (RH_take 8)); exact rfl; kernel_rfl; decide +kernel; decide +kernel; (first | exact fun _ hw => hw | exact fun _ hw => hw.sub (by repeat (first | exact List.Sublist.refl _ | exact List.nil_sublist _ | apply List.Sublist.cons_cons | apply List.Sublist.cons)) | exact fun _ hw => (hw.perm (pull_perm 1 _ _ _ rfl)).sub (by repeat (first | exact List.Sublist.refl _ | exact List.nil_sublist _ | apply List.Sublist.cons_cons | apply List.Sublist.cons)) | exact fun _ hw => (hw.perm (pull_perm 2 _ _ _ rfl)).sub (by repeat (first | exact List.Sublist.refl _ | exact List.nil_sublist _ | apply List.Sublist.cons_cons | apply List.Sublist.cons)) | exact fun _ hw => (hw.perm (pull_perm 3 _ _ _ rfl)).sub (by repeat (first | exact List.Sublist.refl _ | exact List.nil_sublist _ | apply List.Sublist.cons_cons | apply List.Sublist.cons)) | exact fun _ hw => (hw.perm (pull_perm 4 _ _ _ rfl)).sub (by repeat (first | exact List.Sublist.refl _ | exact List.nil_sublist _ | apply List.Sublist.cons_cons | apply List.Sublist.cons))))
          | ((with_reducible apply (RH_take 11)); exact rfl; kernel_rfl; decide +kernel; decide +kernel; (first | exact fun _ hw => hw | exact fun _ hw => hw.sub (by repeat (first | exact List.Sublist.refl _ | exact List.nil_sublist _ | apply List.Sublist.cons_cons | apply List.Sublist.cons)) | exact fun _ hw => (hw.perm (pull_perm 1 _ _ _ rfl)).sub (by repeat (first | exact List.Sublist.refl _ | exact List.nil_sublist _ | apply List.Sublist.cons_cons | apply List.Sublist.cons)) | exact fun _ hw => (hw.perm (pull_perm 2 _ _ _ rfl)).sub (by repeat (first | exact List.Sublist.refl _ | exact List.nil_sublist _ | apply List.Sublist.cons_cons | apply List.Sublist.cons)) | exact fun _ hw => (hw.perm (pull_perm 3 _ _ _ rfl)).sub (by repeat (first | exact List.Sublist.refl _ | exact List.nil_sublist _ | apply List.Sublist.cons_cons | apply List.Sublist.cons)) | exact fun _ hw => (hw.perm (pull_perm 4 _ _ _ rfl)).sub (by repeat (first | exact List.Sublist.refl _ | exact List.nil_sublist _ | apply List.Sublist.cons_cons | apply List.Sublist.cons))))
          | ((with_reducible apply (RH_step 0)); decide +kernel; exact rfl)
          | ((with_reducible apply (RH_step 4)); decide +kernel; exact rfl)
          | ((with_reducible apply (RH_step 9)); decide +kernel; exact rfl)
          | ((with_reducible apply (RH_step 10)); decide +kernel; exact rfl)
          | ((with_reducible apply RH_done); decide +kernel)
          | ((with_reducible apply post_take))
          | ((with_reducible apply post_step); (first | exact fun _ hw => hw | exact fun _ hw => hw.sub (by repeat (first | exact List.Sublist.refl _ | exact List.nil_sublist _ | apply List.Sublist.cons_cons | apply List.Sublist.cons)) | exact fun _ hw => (hw.perm (pull_perm 1 _ _ _ rfl)).sub (by repeat (first | exact List.Sublist.refl _ | exact List.nil_sublist _ | apply List.Sublist.cons_cons | apply List.Sublist.cons)) | exact fun _ hw => (hw.perm (pull_perm 2 _ _ _ rfl)).sub (by repeat (first | exact List.Sublist.refl _ | exact List.nil_sublist _ | apply List.Sublist.cons_cons | apply List.Sublist.cons)) | exact fun _ hw => (hw.perm (pull_perm 3 _ _ _ rfl)).sub (by repeat (first | exact List.Sublist.refl _ | exact List.nil_sublist _ | apply List.Sublist.cons_cons | apply List.Sublist.cons)) | exact fun _ hw => (hw.perm (pull_perm 4 _ _ _ rfl)).sub (by repeat (first | exact List.Sublist.refl _ | exact List.nil_sublist _ | apply List.Sublist.cons_cons | apply List.Sublist.cons))))
          | ((with_reducible apply (LR_slice_old 0 k)); exact rfl; exact rfl; exact rfl; exact rfl; exact rfl; exact z1; exact rfl; exact .inl ⟨rfl, rfl⟩; exact .inr (by rw [hkt]); omega; omega; intro A5 n5 c5 s5)
          | ((with_reducible apply (LR_slice_old (k + 1) rs.length)); exact rfl; exact rfl; exact rfl; exact rfl; exact rfl; exact z1; exact rfl; exact .inr (by first | (rw [hkt]; rfl) | rw [hkt]); exact .inl ⟨rfl, rfl⟩; omega; omega; intro A6 n6 c6 s6)
          | ((have _t := b1); (with_reducible apply (LS_append_sl 0 ((rs.take k).drop 0) ((rs.take rs.length).drop (k + 1)))); exact rfl; exact rfl; exact rfl; exact rfl; exact rfl; exact rfl; exact rfl; exact rfl; exact rfl; omega; exact fun w hw => s6.mono hw; omega; omega; intro g8 c8 b3 b4)
          | ((with_reducible apply (LS_append_sl 0 ([] : List Ru) ((rs.take k).drop 0))); exact rfl; exact rfl; exact rfl; exact rfl; exact rfl; exact rfl; exact rfl; exact rfl; exact rfl; omega; exact fun w hw => s5.mono hw; (simp only [List.length_nil]; omega); (simp only [List.length_nil]; omega); intro g7 c7 b1 b2)
          | ((with_reducible apply (LR_call (f := 22))); exact rfl; exact rfl; exact rfl; exact fun w hw => iIsClear_ok _ _ w true (own_sl 0 hw rfl rfl rfl (by rw [List.length_append]; exact b3) b4) (fun r hr => (z2 r (hLL.subset hr)).mono hw) hV)
          | ((with_reducible apply RR_end))
          | ((with_reducible apply LR_pure); exact rfl; exact rfl; exact rfl)
          | ((with_reducible apply LR_add); exact rfl; exact rfl; exact rfl; exact rfl; omega; omega)
          | ((with_reducible apply LS_buildSlice); exact rfl; exact rfl; exact rfl; exact rfl; exact rfl; exact rfl; exact rfl; intro _)
        all_goals exact post_cut () trivial ⟨rfl, trivial⟩ (fun _ hw => hw.nil)
      · rintro _ _
        repeat' first
          | ((with_reducible apply post_seq))
          | ((with_reducible apply CS_ret))
        all_goals first | (exfalso; contradiction) | (exfalso; omega) | (exfalso; simp at hb <;> omega) | skip
        all_goals (apply ret_boolr k1; exact rfl; exact rfl; rfl)
/-- rules whose ranks are their places -/
def rkd (rs : List Ru) : List Ru := rs.mapIdx fun i r => ⟨r.num, r.lev, (i : Int), r.grp, r.kind, r.val, r.cap, r.g⟩
theorem rkd_len (rs : List Ru) : (rkd rs).length = rs.length := by simp [rkd]
theorem rkd_at {rs : List Ru} {k : Nat} {r : Ru} (h : rs[k]? = some r) : (rkd rs)[k]? = some ⟨r.num, r.lev, (k : Int), r.grp, r.kind, r.val, r.cap, r.g⟩ := by simp [rkd, h]
theorem rkd_of {rs : List Ru} {k : Nat} {x : Ru} (h : (rkd rs)[k]? = some x) : ∃ r, rs[k]? = some r ∧ x = ⟨r.num, r.lev, (k : Int), r.grp, r.kind, r.val, r.cap, r.g⟩ := by
  have hk := (List.getElem?_eq_some_iff.1 h).1
  rw [rkd_len] at hk
  refine ⟨rs[k], List.getElem?_eq_getElem hk, ?_⟩
  rw [rkd_at (List.getElem?_eq_getElem hk)] at h
  cases h; rfl
theorem rkd_ok {w : World} {rs : List Ru} (h : ROks w rs) : ROks w (rkd rs) := fun x hx => by
  obtain ⟨k, hk⟩ := List.mem_iff_getElem?.1 hx
  obtain ⟨r, hr, rfl⟩ := rkd_of hk
  exact h r (List.mem_of_getElem? hr)
theorem rkd_VRs {rs : List Ru} (h : VRs rs) : VRs (rkd rs) := by
  refine ⟨by rw [rkd_len]; exact h.1, fun k hk x hx => ?_⟩
  obtain ⟨r, hr, rfl⟩ := rkd_of hx
  rw [rkd_len] at hk
  have hlen := h.1
  have h1 := h.2 k hk r hr
  refine ⟨⟨h1.1.1, h1.1.2.1, by dsimp only; omega, h1.1.2.2.2⟩, fun j hj y hy => ?_⟩
  obtain ⟨r', hr', rfl⟩ := rkd_of hy
  exact h1.2 j hj r' hr'
theorem rkd_clear {rs : List Ru} (h : VRs rs) : Clear (rkd rs) := by
  rw [Clear_at (rkd_VRs h)]
  intro i j x y hij hx hy hC
  obtain ⟨r, hr, rfl⟩ := rkd_of hx
  obtain ⟨r', hr', rfl⟩ := rkd_of hy
  have := hC.2.1
  dsimp only at this
  omega
theorem putF_rnk' {rs : List Ru} {k : Nat} {r : Ru} (a : Int) (hr : rs[k]? = some r) : putF (flat rs) (k * Enc.k Ru + 2) [.int .i64 a] = some (flat (rs.set k ⟨r.num, r.lev, a, r.grp, r.kind, r.val, r.cap, r.g⟩)) := putF_fld _ k r _ 2 _ hr (by decide) rfl
set_option maxHeartbeats 8000000 in
theorem FnIsClearRanks_ok (v : Value) (l : List By) (w : World) (hs : Sl w v l) (hby : BytesOk l) : Calls Try.prog 8 #[v] w (Gives (.bool true) w) := by
  have hlen := hs.len
  have hml : maxLen = 9223372036854775807 := rfl
  simp only [maxLen] at hlen
  refine enter (vs := [v]) Try.func8 rfl Try.ntmps8 rfl ?_
  repeat' first
    | ((with_reducible apply LR_len_sl); exact rfl; exact rfl; exact rfl; exact hs)
    | ((with_reducible apply (LS_callr (f := 21))); exact rfl; exact rfl; exact rfl; exact fun w hw => DrawIsClear_ok v l w (hs.mono hw) hby; rintro ⟨v1, rs⟩ w1 k1 ⟨z1, z2, z3⟩; dsimp only at z1 z2 z3 ⊢)
    | ((with_reducible apply CS_seq))
    | ((with_reducible apply CS_region))
    | ((with_reducible apply RR_end))
    | ((with_reducible apply LR_pure); exact rfl; exact rfl; exact rfl)
    | ((with_reducible apply post_seq))
    | ((with_reducible apply post_then_ret))
    | ((with_reducible apply CS_skip))
    | ((with_reducible apply CS_ret))
    | ((with_reducible apply CS_cond_d); exact rfl; all_goals intro hb; all_goals try (exfalso; omega))
  · apply ret_bool; exact rfl; exact rfl; rfl
  obtain ⟨b, hC⟩ := bex (Clear rs)
  by_cases hV : VRs rs
  · have hB : VRs rs ↔ true = true := by simp [hV]
    have hml2 := rkd_len rs
    have hlen3 := z1.len
    cases b
    all_goals
      repeat' first
        | ((with_reducible apply (LR_call (f := 22))); exact rfl; exact rfl; exact rfl; exact fun w hw => iIsClear_ok v1 rs w _ (z1.mono hw) (fun r hr => (z2 r hr).mono hw) hC)
        | ((with_reducible apply (LR_call (f := 23))); exact rfl; exact rfl; exact rfl; exact fun w hw => sIsClear_ok v1 rs w _ (z1.mono hw) (fun r hr => (z2 r hr).mono hw) hC)
        | ((with_reducible apply (LR_call (f := 19))); exact rfl; exact rfl; exact rfl; exact fun w hw => iValidRules_ok v1 rs w _ (z1.mono hw) (fun r hr => (z2 r hr).mono hw) hB)
        | ((with_reducible apply (LS_append_sl 0 ([] : List Ru) rs)); exact rfl; exact rfl; exact rfl; exact rfl; exact rfl; exact rfl; exact rfl; exact rfl; exact rfl; omega; exact fun w hw => z1.mono hw; (simp only [List.length_nil]; omega); (simp only [List.length_nil]; omega); intro g7 c7 b1 b2)
        | ((with_reducible apply CS_seq))
        | ((with_reducible apply CS_block))
        | ((with_reducible apply CS_region))
        | ((with_reducible apply RR_end))
        | ((with_reducible apply LR_pure); exact rfl; exact rfl; exact rfl)
        | ((with_reducible apply LR_neqb); exact rfl; exact rfl; exact rfl; exact rfl)
        | ((with_reducible apply LS_buildSlice); exact rfl; exact rfl; exact rfl; exact rfl; exact rfl; exact rfl; exact rfl; intro _)
        | ((with_reducible apply post_seq))
        | ((with_reducible apply CS_skip))
        | ((with_reducible apply CS_cond_f); exact rfl)
      all_goals first | (exfalso; contradiction) | (exfalso; omega) | (exfalso; simp at hb <;> omega) | skip
      simp only [List.length_nil, Nat.zero_add] at b1
      refine CS_loop (ι := Nat) (fun i => [(5, .slice (some ⟨g7, 0, none⟩) rs.length c7), (6, .int .i64 (i : Int))]) (fun i => Wd w1 [ruE g7 c7 (mix (rkd rs) rs i)]) (fun i => i ≤ rs.length) (fun i => rs.length - i) 0 (by omega) ⟨by first | rfl | (simp only [List.length_nil, Nat.zero_add]; rfl), rfl, trivial⟩ (fun _ hw => by rw [mix_zero]; exact hw.picks [0] rfl) ?_
      intro k hkl
      by_cases hk : k < rs.length
      · obtain ⟨r, hr⟩ : ∃ y, rs[k]? = some y := ⟨_, List.getElem?_eq_getElem hk⟩
        have hat : (mix (rkd rs) rs k)[k]? = some r := by
          unfold mix
          rw [List.getElem?_append_right (by rw [List.length_take]; omega), List.length_take, show k - min k (rkd rs).length = 0 by omega, List.getElem?_drop]
          simpa using hr
        have hst := mix_set hml2 (rkd_at hr)
        repeat' first
          | ((with_reducible apply (LR_index_own (k))); exact rfl; exact rfl; exact rfl; exact rfl; omega; omega)
          | ((with_reducible apply (LS_store1 0)); exact rfl; exact rfl; exact rfl; exact rfl; exact rfl; exact putF_rnk' _ hat)
          | ((with_reducible apply CS_seq))
          | ((with_reducible apply CS_block))
          | ((with_reducible apply CS_region))
          | ((with_reducible apply RR_end))
          | ((with_reducible apply LR_pure); exact rfl; exact rfl; exact rfl)
          | ((with_reducible apply LR_add); exact rfl; exact rfl; exact rfl; exact rfl; omega; omega)
          | ((with_reducible apply LR_field_own); exact rfl; exact rfl; exact rfl)
          | ((with_reducible apply LR_len); exact rfl; exact rfl; exact rfl)
          | ((with_reducible apply post_seq))
          | ((with_reducible apply post_block_n))
          | ((with_reducible apply CS_skip))
          | ((with_reducible apply CS_cond_d); exact rfl; all_goals intro hb; all_goals try (exfalso; omega))
        all_goals first | (exfalso; contradiction) | (exfalso; omega) | (exfalso; simp at hb <;> omega) | skip
        exact post_round (i := k) (k + 1) (by omega) (by omega) ⟨rfl, rfl, trivial⟩ (fun _ hw => by rw [← hst]; exact hw)
      · have hke : k = rs.length := by omega
        subst hke
        rw [mix_end hml2]
        have hcl : Clear (rkd rs) ↔ true = true := by simp [rkd_clear hV]
        repeat' first
          | ((with_reducible apply (LR_call (f := 22))); exact rfl; exact rfl; exact rfl; exact fun w hw => iIsClear_ok _ (rkd rs) w true (own_sl 0 hw rfl rfl hml2.symm (by omega) b2) (fun r hr => (rkd_ok z2 r hr).mono hw) hcl)
          | ((with_reducible apply CS_seq))
          | ((with_reducible apply CS_region))
          | ((with_reducible apply RR_end))
          | ((with_reducible apply LR_pure); exact rfl; exact rfl; exact rfl)
          | ((with_reducible apply LR_len); exact rfl; exact rfl; exact rfl)
          | ((with_reducible apply post_seq))
          | ((with_reducible apply post_then_exit))
          | ((with_reducible apply post_block_eq))
          | ((with_reducible apply CS_ret))
          | ((with_reducible apply CS_exit))
          | ((with_reducible apply CS_cond_d); exact rfl; all_goals intro hb; all_goals try (exfalso; omega))
        all_goals first | (exfalso; contradiction) | (exfalso; omega) | (exfalso; simp at hb <;> omega) | skip
        apply ret_boolr k1; exact rfl; exact rfl; rfl
  · have hB : VRs rs ↔ false = true := by simp [hV]
    have hbf : b = false := by
      cases b
      · rfl
      · exact absurd (hC.2 rfl).1 hV
    subst hbf
    repeat' first
      | ((with_reducible apply (LR_call (f := 22))); exact rfl; exact rfl; exact rfl; exact fun w hw => iIsClear_ok v1 rs w _ (z1.mono hw) (fun r hr => (z2 r hr).mono hw) hC)
      | ((with_reducible apply (LR_call (f := 23))); exact rfl; exact rfl; exact rfl; exact fun w hw => sIsClear_ok v1 rs w _ (z1.mono hw) (fun r hr => (z2 r hr).mono hw) hC)
      | ((with_reducible apply (LR_call (f := 19))); exact rfl; exact rfl; exact rfl; exact fun w hw => iValidRules_ok v1 rs w _ (z1.mono hw) (fun r hr => (z2 r hr).mono hw) hB)
      | ((with_reducible apply CS_seq))
      | ((with_reducible apply CS_region))
      | ((with_reducible apply RR_end))
      | ((with_reducible apply LR_pure); exact rfl; exact rfl; exact rfl)
      | ((with_reducible apply LR_neqb); exact rfl; exact rfl; exact rfl; exact rfl)
      | ((with_reducible apply LR_eqb); exact rfl; exact rfl; exact rfl; exact rfl)
      | ((with_reducible apply post_seq))
      | ((with_reducible apply post_then_ret))
      | ((with_reducible apply CS_ret))
      | ((with_reducible apply CS_cond_t); exact rfl)
    all_goals first | (exfalso; contradiction) | (exfalso; omega) | (exfalso; simp at hb <;> omega) | skip
    all_goals (apply ret_boolr k1; exact rfl; exact rfl; rfl)
end Go.Proofs.Ytpflkichnjfgkaa
