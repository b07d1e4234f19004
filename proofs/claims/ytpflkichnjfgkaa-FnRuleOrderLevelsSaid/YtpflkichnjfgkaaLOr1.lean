/- The walks of the laws on the order of rules. No condition beyond those that each theorem states. -/
import Derived.Test.YtpflkichnjfgkaaWOr7
import Derived.Test.YtpflkichnjfgkaaWOr4
import Derived.Test.YtpflkichnjfgkaaWDrO
import Derived.Test.YtpflkichnjfgkaaReg
namespace Go.Proofs.Ytpflkichnjfgkaa
open Go.RowKit
attribute [local irreducible] Calls
theorem ordL_one (r : Ru) : ordL [r] = [r.num] := by
  have h : srt [r] = [r] := by
    have hp := srt_perm [r]
    exact List.perm_singleton.1 hp
  simp [ordL, h]
theorem ordL_mem {l : List Ru} {r : Ru} (h : r ∈ l) : r.num ∈ ordL l := List.mem_map.2 ⟨r, (srt_perm l).mem_iff.2 h, rfl⟩
theorem ordL_perm {l s : List Ru} (hV : VRs l) (hp : s.Perm l) : ordL s = ordL l := by
  unfold ordL; rw [srt_same hV hp.symm]
set_option maxHeartbeats 4000000 in
theorem FnRuleOrder_ok (v : Value) (l : List By) (w : World) (hs : Sl w v l) (hby : BytesOk l) : Calls Try.prog 5 #[v] w (Gives (.bool true) w) := by
  have hlen := hs.len
  have hml : maxLen = 9223372036854775807 := rfl
  simp only [maxLen] at hlen
  refine enter (vs := [v]) Try.func5 rfl Try.ntmps5 rfl ?_
  repeat' first
    | ((with_reducible apply LR_len_sl); exact rfl; exact rfl; exact rfl; exact hs)
    | ((with_reducible apply (LS_callr (f := 15))); exact rfl; exact rfl; exact rfl; exact fun w hw => DrawRuleOrder_ok v l w (hs.mono hw) hby; rintro ⟨v1, rs⟩ w1 k1 ⟨z1, z2, z3⟩; dsimp only at z1 z2 z3 ⊢)
    | ((with_reducible apply (LS_callr (f := 16))); exact rfl; exact rfl; exact rfl; exact fun w hw => iRuleOrder_r v1 rs _ (z1.mono hw) (fun r hr => (z2 r hr).mono hw); rintro ⟨v2, xs⟩ w2 k2 ⟨y1, y2⟩; dsimp only at y1 y2 ⊢)
    | ((with_reducible apply CS_seq))
    | ((with_reducible apply CS_region))
    | ((with_reducible apply RR_end))
    | ((with_reducible apply LR_pure); exact rfl; exact rfl; exact rfl)
    | ((with_reducible apply post_seq))
    | ((with_reducible apply post_then_ret))
    | ((with_reducible apply CS_skip))
    | ((with_reducible apply CS_ret))
    | ((with_reducible apply CS_cond_d); exact rfl; all_goals intro hb; all_goals try (exfalso; omega))
  · apply ret_bool; exact rfl; exact rfl; rfl
  have z1 := z1.mono k2
  have z2 : ROks w2 rs := fun r hr => (z2 r hr).mono k2
  have k2 := k1.thn k2
  by_cases hV : VRs rs
  · have hB : VRs rs ↔ true = true := by simp [hV]
    have hxs := y2.1 hV
    subst hxs
    have hol := ordL_len rs
    repeat' first
      | ((with_reducible apply (LS_callx (f := 18))); exact rfl; exact rfl; exact rfl; exact fun w hw => sRuleOrder_ok v1 rs w (z1.mono hw) (fun r hr => (z2 r hr).mono hw) hV; rintro ⟨g3, c3⟩ ⟨d1, d2⟩; dsimp only at d1 d2 ⊢)
      | ((with_reducible apply (LR_call (f := 17))); exact rfl; exact rfl; exact rfl; exact fun w hw => equalInts_ok v2 _ (ordL rs) w (y1.mono hw) (own_sl 0 hw rfl rfl rfl d1 d2))
      | ((with_reducible apply (LR_call (f := 19))); exact rfl; exact rfl; exact rfl; exact fun w hw => iValidRules_ok v1 rs w _ (z1.mono hw) (fun r hr => (z2 r hr).mono hw) hB)
      | ((with_reducible apply LR_len_sl); exact rfl; exact rfl; exact rfl; exact z1)
      | ((with_reducible apply CS_seq))
      | ((with_reducible apply CS_block))
      | ((with_reducible apply CS_region))
      | ((with_reducible apply RR_end))
      | ((with_reducible apply LR_pure); exact rfl; exact rfl; exact rfl)
      | ((with_reducible apply LR_sub); exact rfl; exact rfl; exact rfl; exact rfl; omega; omega)
      | ((with_reducible apply LS_buildSlice); exact rfl; exact rfl; exact rfl; exact rfl; exact rfl; exact rfl; exact rfl; intro _)
      | ((with_reducible apply post_seq))
      | ((with_reducible apply CS_skip))
      | ((with_reducible apply CS_cond_f); exact rfl)
    all_goals first | (exfalso; contradiction) | (exfalso; omega) | (exfalso; simp at hb <;> omega) | skip
    rename_i g0
    refine CS_loop (ι := Nat × Nat × Nat × List Ru) (fun i => [(3, v1), (4, v2), (5, .slice (some ⟨i.2.1, 0, none⟩) i.2.2.2.length i.2.2.1), (6, .int .i64 ((i.1 : Int) - 1))]) (fun i => Wd w2 [ruE i.2.1 i.2.2.1 i.2.2.2]) (fun i => i.1 ≤ rs.length ∧ i.2.2.2.Perm (rs.drop i.1) ∧ i.2.2.2.length ≤ i.2.2.1 ∧ i.2.2.1 ≤ maxLen) (fun i => i.1) (rs.length, g0, 0, []) ⟨by dsimp only; omega, by simp, by simp, by simp⟩ ⟨rfl, rfl, rfl, rfl, trivial⟩ (fun _ hw => hw.picks [0] rfl) ?_
    rintro ⟨k, g1, c1, s⟩ ⟨a1, a2, a3, a4⟩
    dsimp only at a1 a2 a3 a4 ⊢
    by_cases hk : 0 < k
    · obtain ⟨x, hx⟩ : ∃ y, rs[k-1]? = some y := ⟨_, List.getElem?_eq_getElem (by omega)⟩
      have hsl := a2.length_eq
      rw [List.length_drop] at hsl
      have hin : x.num ∈ ordL rs ↔ true = true := by simp [ordL_mem (List.mem_of_getElem? hx)]
      repeat' first
        | ((with_reducible apply (LR_index_old (k-1))); exact rfl; exact rfl; exact rfl; exact rfl; exact z1; omega; exact hx; exact rfl; intro _ _)
        | ((with_reducible apply (LS_append_one 1 0 s x)); exact rfl; exact rfl; exact rfl; exact rfl; exact rfl; exact rfl; exact rfl; exact rfl; exact rfl; exact rfl; exact rfl; omega; omega; omega; intro g4 c4 e1 e2)
        | ((with_reducible apply (LR_call (f := 20))); exact rfl; exact rfl; exact rfl; exact fun w hw => isIn_ok v2 (ordL rs) x.num w true (y1.mono hw) hin)
        | ((with_reducible apply CS_seq))
        | ((with_reducible apply CS_block))
        | ((with_reducible apply CS_region))
        | ((with_reducible apply RR_end))
        | ((with_reducible apply LR_pure); exact rfl; exact rfl; exact rfl)
        | ((with_reducible apply LR_sub); exact rfl; exact rfl; exact rfl; exact rfl; omega; omega)
        | ((with_reducible apply LR_field); exact rfl; exact rfl; exact rfl)
        | ((with_reducible apply LR_load_old); exact rfl; exact rfl; exact rfl; assumption; exact rfl)
        | ((with_reducible apply LR_load_old_agg); exact rfl; exact rfl; exact rfl; assumption; exact rfl)
        | ((with_reducible apply LS_buildSlice); exact rfl; exact rfl; exact rfl; exact rfl; exact rfl; exact rfl; exact rfl; intro _)
        | ((with_reducible apply post_seq))
        | ((with_reducible apply post_block_n))
        | ((with_reducible apply CS_skip))
        | ((with_reducible apply CS_cond_f); exact rfl)
        | ((with_reducible apply CS_cond_d); exact rfl; all_goals intro hb; all_goals try (exfalso; omega))
      all_goals first | (exfalso; contradiction) | (exfalso; omega) | (exfalso; simp at hb <;> omega) | skip
      exact post_round (i := (k, g1, c1, s)) (k - 1, g4, c4, s ++ [x]) ⟨by dsimp only; omega, by
        dsimp only
        have h1 : rs.drop (k - 1) = x :: rs.drop k := by
          rw [List.drop_eq_getElem_cons (by omega), (List.getElem?_eq_some_iff.1 hx).2, show k - 1 + 1 = k by omega]
        rw [h1]
        exact (a2.append_right [x]).trans (List.perm_append_singleton x _), by simpa using e1, e2⟩ (by dsimp only; omega) ⟨rfl, rfl, by dsimp only; rw [List.length_append]; rfl, by dsimp only; rw [show (((k - 1 : Nat) : Int)) - 1 = (k : Int) - 1 - 1 by omega]; rfl, trivial⟩ (fun _ hw => hw.picks [0] rfl)
    · have hk0 : k = 0 := by omega
      subst hk0
      have hp : s.Perm rs := by simpa using a2
      have hVs := VRs_perm hV hp.symm
      have hle := hp.length_eq
      have hoe := ordL_perm hV hp
      repeat' first
        | ((with_reducible apply LR_len_sl); exact rfl; exact rfl; exact rfl; exact y1)
        | ((with_reducible apply LR_len_sl); exact rfl; exact rfl; exact rfl; exact z1)
        | ((with_reducible apply (LS_callx (f := 16))); exact rfl; exact rfl; exact rfl; exact fun w hw => iRuleOrder_ok _ s w (own_sl 0 hw rfl rfl rfl a3 a4) (fun r hr => (z2 r (hp.mem_iff.1 hr)).mono hw) hVs; rintro ⟨g5, c5⟩ ⟨d3, d4⟩; dsimp only at d3 d4 ⊢; rw [hoe] at d3 ⊢)
        | ((with_reducible apply (LR_call (f := 17))); exact rfl; exact rfl; exact rfl; exact fun w hw => equalInts_ok _ v2 (ordL rs) w (own_sl 0 hw rfl rfl rfl d3 d4) (y1.mono hw))
        | ((with_reducible apply CS_seq))
        | ((with_reducible apply CS_region))
        | ((with_reducible apply RR_end))
        | ((with_reducible apply LR_pure); exact rfl; exact rfl; exact rfl)
        | ((with_reducible apply post_seq))
        | ((with_reducible apply post_then_exit))
        | ((with_reducible apply post_block_eq))
        | ((with_reducible apply CS_ret))
        | ((with_reducible apply CS_exit))
        | ((with_reducible apply CS_cond_f); exact rfl)
        | ((with_reducible apply LR_caseg_d); exact rfl; exact rfl; all_goals intro hb; all_goals try (exfalso; omega))
      all_goals first | (exfalso; contradiction) | (exfalso; omega) | (exfalso; simp at hb <;> omega) | skip
      all_goals (apply ret_boolr k2; exact rfl; exact rfl; first | rfl | simp [hol] | (simp; omega))
  · have hB : VRs rs ↔ false = true := by simp [hV]
    have hxs := y2.2 hV
    subst hxs
    repeat' first
      | ((with_reducible apply (LR_call (f := 18))); exact rfl; exact rfl; exact rfl; exact fun w hw => sRuleOrder_no v1 rs w (z1.mono hw) (fun r hr => (z2 r hr).mono hw) hV)
      | ((with_reducible apply (LR_call (f := 17))); exact rfl; exact rfl; exact rfl; exact fun w hw => equalInts_ok v2 _ [] w (y1.mono hw) (Sl.nil w))
      | ((with_reducible apply (LR_call (f := 19))); exact rfl; exact rfl; exact rfl; exact fun w hw => iValidRules_ok v1 rs w _ (z1.mono hw) (fun r hr => (z2 r hr).mono hw) hB)
      | ((with_reducible apply CS_seq))
      | ((with_reducible apply CS_region))
      | ((with_reducible apply RR_end))
      | ((with_reducible apply LR_pure); exact rfl; exact rfl; exact rfl)
      | ((with_reducible apply post_seq))
      | ((with_reducible apply post_then_ret))
      | ((with_reducible apply CS_ret))
      | ((with_reducible apply CS_cond_t); exact rfl)
    all_goals first | (exfalso; contradiction) | (exfalso; omega) | (exfalso; simp at hb <;> omega) | skip
    all_goals (apply ret_boolr k2; exact rfl; exact rfl; rfl)
set_option maxHeartbeats 4000000 in
theorem FnRuleOrderOne_ok (v : Value) (l : List By) (w : World) (hs : Sl w v l) (hby : BytesOk l) : Calls Try.prog 4 #[v] w (Gives (.bool true) w) := by
  have hlen := hs.len
  have hml : maxLen = 9223372036854775807 := rfl
  simp only [maxLen] at hlen
  refine enter (vs := [v]) Try.func4 rfl Try.ntmps4 rfl ?_
  repeat' first
    | ((with_reducible apply LR_len_sl); exact rfl; exact rfl; exact rfl; exact hs)
    | ((with_reducible apply (LS_callr (f := 15))); exact rfl; exact rfl; exact rfl; exact fun w hw => DrawRuleOrder_ok v l w (hs.mono hw) hby; rintro ⟨v1, rs⟩ w1 k1 ⟨z1, z2, z3⟩; dsimp only at z1 z2 z3 ⊢)
    | ((with_reducible apply (LS_callr (f := 16))); exact rfl; exact rfl; exact rfl; exact fun w hw => iRuleOrder_r v1 rs _ (z1.mono hw) (fun r hr => (z2 r hr).mono hw); rintro ⟨v2, xs⟩ w2 k2 ⟨y1, y2⟩; dsimp only at y1 y2 ⊢)
    | ((with_reducible apply CS_seq))
    | ((with_reducible apply CS_region))
    | ((with_reducible apply RR_end))
    | ((with_reducible apply LR_pure); exact rfl; exact rfl; exact rfl)
    | ((with_reducible apply post_seq))
    | ((with_reducible apply post_then_ret))
    | ((with_reducible apply CS_skip))
    | ((with_reducible apply CS_ret))
    | ((with_reducible apply CS_cond_d); exact rfl; all_goals intro hb; all_goals try (exfalso; omega))
  · apply ret_bool; exact rfl; exact rfl; rfl
  have z1 := z1.mono k2
  have z2 : ROks w2 rs := fun r hr => (z2 r hr).mono k2
  have k2 := k1.thn k2
  by_cases hV : VRs rs
  · have hB : VRs rs ↔ true = true := by simp [hV]
    have hxs := y2.1 hV
    subst hxs
    have hol := ordL_len rs
    have hVn : VRs [] := ⟨by simp, fun k h => by simp at h⟩
    repeat' first
      | ((with_reducible apply (LS_callx (f := 18))); exact rfl; exact rfl; exact rfl; exact fun w hw => sRuleOrder_ok v1 rs w (z1.mono hw) (fun r hr => (z2 r hr).mono hw) hV; rintro ⟨g3, c3⟩ ⟨d1, d2⟩; dsimp only at d1 d2 ⊢)
      | ((with_reducible apply (LR_call (f := 17))); exact rfl; exact rfl; exact rfl; exact fun w hw => equalInts_ok v2 _ (ordL rs) w (y1.mono hw) (own_sl 0 hw rfl rfl rfl d1 d2))
      | ((with_reducible apply (LR_call (f := 19))); exact rfl; exact rfl; exact rfl; exact fun w hw => iValidRules_ok v1 rs w _ (z1.mono hw) (fun r hr => (z2 r hr).mono hw) hB)
      | ((with_reducible apply CS_seq))
      | ((with_reducible apply CS_block))
      | ((with_reducible apply CS_region))
      | ((with_reducible apply RR_end))
      | ((with_reducible apply LR_pure); exact rfl; exact rfl; exact rfl)
      | ((with_reducible apply post_seq))
      | ((with_reducible apply CS_skip))
      | ((with_reducible apply CS_cond_f); exact rfl)
    all_goals first | (exfalso; contradiction) | (exfalso; omega) | (exfalso; simp at hb <;> omega) | skip
    refine CS_loop (ι := Nat) (fun i => [(3, v1), (5, .int .i64 (i : Int))]) (fun i => Wd w2 []) (fun i => i ≤ rs.length) (fun i => rs.length - i) 0 (by omega) ⟨rfl, rfl, trivial⟩ (fun _ hw => hw.nil) ?_
    intro k hkl
    by_cases hk : k < rs.length
    · obtain ⟨x, hx⟩ : ∃ y, rs[k]? = some y := ⟨_, List.getElem?_eq_getElem hk⟩
      have hx1 : (rs.take (k + 1)).drop k = [x] := by
        rw [List.take_add_one, hx, List.drop_append, List.drop_eq_nil_of_le (by rw [List.length_take]; omega), List.length_take, show k - min k rs.length = 0 by omega]
        rfl
      have hV1 : VRs [x] := VRs_sub hV (by rw [← hx1]; exact (List.drop_sublist _ _).trans (List.take_sublist _ _))
      have ho1 := ordL_one x
      repeat' first
        | ((with_reducible apply LR_len_sl); exact rfl; exact rfl; exact rfl; exact z1)
        | ((with_reducible apply CS_seq))
        | ((with_reducible apply CS_block))
        | ((with_reducible apply CS_region))
        | ((with_reducible apply RR_end))
        | ((with_reducible apply LR_pure); exact rfl; exact rfl; exact rfl)
        | ((with_reducible apply post_seq))
        | ((with_reducible apply CS_skip))
        | ((with_reducible apply CS_cond_d); exact rfl; all_goals intro hb; all_goals try (exfalso; omega))
      all_goals first | (exfalso; contradiction) | (exfalso; omega) | (exfalso; simp at hb <;> omega) | skip
      refine CS_regionHi (id := 10) 14 [] (fun _ : Unit => [(3, v1), (5, .int .i64 (k : Int)), (46, .bool false)]) (fun _ => Wd w2 []) (fun _ => True) (by kernel_rfl) rfl (by rfl) ?_ ?_
      · skip
        repeat' first
          | ((with_reducible apply (RH_take 0)); exact rfl; kernel_rfl; decide +kernel; decide +kernel; (first | exact fun _ hw => hw | exact fun _ hw => hw.sub (by repeat (first | exact List.Sublist.refl _ | exact List.nil_sublist _ | apply List.Sublist.cons_cons | apply List.Sublist.cons)) | exact fun _ hw => (hw.perm (pull_perm 1 _ _ _ rfl)).sub (by repeat (first | exact List.Sublist.refl _ | exact List.nil_sublist _ | apply List.Sublist.cons_cons | apply List.Sublist.cons)) | exact fun _ hw => (hw.perm (pull_perm 2 _ _ _ rfl)).sub (by repeat (first | exact List.Sublist.refl _ | exact List.nil_sublist _ | apply List.Sublist.cons_cons | apply List.Sublist.cons)) | exact fun _ hw => (hw.perm (pull_perm 3 _ _ _ rfl)).sub (by repeat (first | exact List.Sublist.refl _ | exact List.nil_sublist _ | apply List.Sublist.cons_cons | apply List.Sublist.cons)) | exact fun _ hw => (hw.perm (pull_perm 4 _ _ _ rfl)).sub (by repeat (first | exact List.Sublist.refl _ | exact List.nil_sublist _ | apply List.Sublist.cons_cons | apply List.Sublist.cons))))
          | ((with_reducible apply (RH_take 1)); exact rfl; kernel_rfl; decide +kernel; decide +kernel; (first | exact fun _ hw => hw | exact fun _ hw => hw.sub (by repeat (first | exact List.Sublist.refl _ | exact List.nil_sublist _ | apply List.Sublist.cons_cons | apply List.Sublist.cons)) | exact fun _ hw => (hw.perm (pull_perm 1 _ _ _ rfl)).sub (by repeat (first | exact List.Sublist.refl _ | exact List.nil_sublist _ | apply List.Sublist.cons_cons | apply List.Sublist.cons)) | exact fun _ hw => (hw.perm (pull_perm 2 _ _ _ rfl)).sub (by repeat (first | exact List.Sublist.refl _ | exact List.nil_sublist _ | apply List.Sublist.cons_cons | apply List.Sublist.cons)) | exact fun _ hw => (hw.perm (pull_perm 3 _ _ _ rfl)).sub (by repeat (first | exact List.Sublist.refl _ | exact List.nil_sublist _ | apply List.Sublist.cons_cons | apply List.Sublist.cons)) | exact fun _ hw => (hw.perm (pull_perm 4 _ _ _ rfl)).sub (by repeat (first | exact List.Sublist.refl _ | exact List.nil_sublist _ | apply List.Sublist.cons_cons | apply List.Sublist.cons))))
          | ((with_reducible apply (RH_take 2)); exact rfl; kernel_rfl; decide +kernel; decide +kernel; (first | exact fun _ hw => hw | exact fun _ hw => hw.sub (by repeat (first | exact List.Sublist.refl _ | exact List.nil_sublist _ | apply List.Sublist.cons_cons | apply List.Sublist.cons)) | exact fun _ hw => (hw.perm (pull_perm 1 _ _ _ rfl)).sub (by repeat (first | exact List.Sublist.refl _ | exact List.nil_sublist _ | apply List.Sublist.cons_cons | apply List.Sublist.cons)) | exact fun _ hw => (hw.perm (pull_perm 2 _ _ _ rfl)).sub (by repeat (first | exact List.Sublist.refl _ | exact List.nil_sublist _ | apply List.Sublist.cons_cons | apply List.Sublist.cons)) | exact fun _ hw => (hw.perm (pull_perm 3 _ _ _ rfl)).sub (by repeat (first | exact List.Sublist.refl _ | exact List.nil_sublist _ | apply List.Sublist.cons_cons | apply List.Sublist.cons)) | exact fun _ hw => (hw.perm (pull_perm 4 _ _ _ rfl)).sub (by repeat (first | exact List.Sublist.refl _ | exact List.nil_sublist _ | apply List.Sublist.cons_cons | apply List.Sublist.cons))))
          | ((with_reducible apply (RH_take 3)); exact rfl; kernel_rfl; decide +kernel; decide +kernel; (first | exact fun _ hw => hw | exact fun _ hw => hw.sub (by repeat (first | exact List.Sublist.refl _ | exact List.nil_sublist _ | apply List.Sublist.cons_cons | apply List.Sublist.cons)) | exact fun _ hw => (hw.perm (pull_perm 1 _ _ _ rfl)).sub (by repeat (first | exact List.Sublist.refl _ | exact List.nil_sublist _ | apply List.Sublist.cons_cons | apply List.Sublist.cons)) | exact fun _ hw => (hw.perm (pull_perm 2 _ _ _ rfl)).sub (by repeat (first | exact List.Sublist.refl _ | exact List.nil_sublist _ | apply List.Sublist.cons_cons | apply List.Sublist.cons)) | exact fun _ hw => (hw.perm (pull_perm 3 _ _ _ rfl)).sub (by repeat (first | exact List.Sublist.refl _ | exact List.nil_sublist _ | apply List.Sublist.cons_cons | apply List.Sublist.cons)) | exact fun _ hw => (hw.perm (pull_perm 4 _ _ _ rfl)).sub (by repeat (first | exact List.Sublist.refl _ | exact List.nil_sublist _ | apply List.Sublist.cons_cons | apply List.Sublist.cons))))
          | ((with_reducible apply (RH_take 4)); exact rfl; kernel_rfl; decide +kernel; decide +kernel; (first | exact fun _ hw => hw | exact fun _ hw => hw.sub (by repeat (first | exact List.Sublist.refl _ | exact List.nil_sublist _ | apply List.Sublist.cons_cons | apply List.Sublist.cons)) | exact fun _ hw => (hw.perm (pull_perm 1 _ _ _ rfl)).sub (by repeat (first | exact List.Sublist.refl _ | exact List.nil_sublist _ | apply List.Sublist.cons_cons | apply List.Sublist.cons)) | exact fun _ hw => (hw.perm (pull_perm 2 _ _ _ rfl)).sub (by repeat (first | exact List.Sublist.refl _ | exact List.nil_sublist _ | apply List.Sublist.cons_cons | apply List.Sublist.cons)) | exact fun _ hw => (hw.perm (pull_perm 3 _ _ _ rfl)).sub (by repeat (first | exact List.Sublist.refl _ | exact List.nil_sublist _ | apply List.Sublist.cons_cons | apply List.Sublist.cons)) | exact fun _ hw => (hw.perm (pull_perm 4 _ _ _ rfl)).sub (by repeat (first | exact List.Sublist.refl _ | exact List.nil_sublist _ | apply List.Sublist.cons_cons | apply List.Sublist.cons))))
          | ((with_reducible apply (RH_take 6)); exact rfl; kernel_rfl; decide +kernel; decide +kernel; (first | exact fun _ hw => hw | exact fun _ hw => hw.sub (by repeat (first | exact List.Sublist.refl _ | exact List.nil_sublist _ | apply List.Sublist.cons_cons | apply List.Sublist.cons)) | exact fun _ hw => (hw.perm (pull_perm 1 _ _ _ rfl)).sub (by repeat (first | exact List.Sublist.refl _ | exact List.nil_sublist _ | apply List.Sublist.cons_cons | apply List.Sublist.cons)) | exact fun _ hw => (hw.perm (pull_perm 2 _ _ _ rfl)).sub (by repeat (first | exact List.Sublist.refl _ | exact List.nil_sublist _ | apply List.Sublist.cons_cons | apply List.Sublist.cons)) | exact fun _ hw => (hw.perm (pull_perm 3 _ _ _ rfl)).sub (by repeat (first | exact List.Sublist.refl _ | exact List.nil_sublist _ | apply List.Sublist.cons_cons | apply List.Sublist.cons)) | exact fun _ hw => (hw.perm (pull_perm 4 _ _ _ rfl)).sub (by repeat (first | exact List.Sublist.refl _ | exact List.nil_sublist _ | apply List.Sublist.cons_cons | apply List.Sublist.cons))))
          | ((with_reducible apply (RH_take 7)); exact rfl; kernel_rfl; decide +kernel; decide +kernel; (first | exact fun _ hw => hw | exact fun _ hw => hw.sub (by repeat (first | exact List.Sublist.refl _ | exact List.nil_sublist _ | apply List.Sublist.cons_cons | apply List.Sublist.cons)) | exact fun _ hw => (hw.perm (pull_perm 1 _ _ _ rfl)).sub (by repeat (first | exact List.Sublist.refl _ | exact List.nil_sublist _ | apply List.Sublist.cons_cons | apply List.Sublist.cons)) | exact fun _ hw => (hw.perm (pull_perm 2 _ _ _ rfl)).sub (by repeat (first | exact List.Sublist.refl _ | exact List.nil_sublist _ | apply List.Sublist.cons_cons | apply List.Sublist.cons)) | exact fun _ hw => (hw.perm (pull_perm 3 _ _ _ rfl)).sub (by repeat (first | exact List.Sublist.refl _ | exact List.nil_sublist _ | apply List.Sublist.cons_cons | apply List.Sublist.cons)) | exact fun _ hw => (hw.perm (pull_perm 4 _ _ _ rfl)).sub (by repeat (first | exact List.Sublist.refl _ | exact List.nil_sublist _ | apply List.Sublist.cons_cons | apply List.Sublist.cons))))
          | ((with_reducible apply (RH_take 8)); exact rfl; kernel_rfl; decide +kernel; decide +kernel; (first | exact fun _ hw => hw | exact fun _ hw => hw.sub (by repeat (first | exact List.Sublist.refl _ | exact List.nil_sublist _ | apply List.Sublist.cons_cons | apply List.Sublist.cons)) | exact fun _ hw => (hw.perm (pull_perm 1 _ _ _ rfl)).sub (by repeat (first | exact List.Sublist.refl _ | exact List.nil_sublist _ | apply List.Sublist.cons_cons | apply List.Sublist.cons)) | exact fun _ hw => (hw.perm (pull_perm 2 _ _ _ rfl)).sub (by repeat (first | exact List.Sublist.refl _ | exact List.nil_sublist _ | apply List.Sublist.cons_cons | apply List.Sublist.cons)) | exact fun _ hw => (hw.perm (pull_perm 3 _ _ _ rfl)).sub (by repeat (first | exact List.Sublist.refl _ | exact List.nil_sublist _ | apply List.Sublist.cons_cons | apply List.Sublist.cons)) | exact fun _ hw => (hw.perm (pull_perm 4 _ _ _ rfl)).sub (by repeat (first | exact List.Sublist.refl _ | exact List.nil_sublist _ | apply List.Sublist.cons_cons | apply List.Sublist.cons))))
          | ((with_reducible apply (RH_take 9)); exact rfl; kernel_rfl; decide +kernel; decide +kernel; (first | exact fun _ hw => hw | exact fun _ hw => hw.sub (by repeat (first | exact List.Sublist.refl _ | exact List.nil_sublist _ | apply List.Sublist.cons_cons | apply List.Sublist.cons)) | exact fun _ hw => (hw.perm (pull_perm 1 _ _ _ rfl)).sub (by repeat (first | exact List.Sublist.refl _ | exact List.nil_sublist _ | apply List.Sublist.cons_cons | apply List.Sublist.cons)) | exact fun _ hw => (hw.perm (pull_perm 2 _ _ _ rfl)).sub (by repeat (first | exact List.Sublist.refl _ | exact List.nil_sublist _ | apply List.Sublist.cons_cons | apply List.Sublist.cons)) | exact fun _ hw => (hw.perm (pull_perm 3 _ _ _ rfl)).sub (by repeat (first | exact List.Sublist.refl _ | exact List.nil_sublist _ | apply List.Sublist.cons_cons | apply List.Sublist.cons)) | exact fun _ hw => (hw.perm (pull_perm 4 _ _ _ rfl)).sub (by repeat (first | exact List.Sublist.refl _ | exact List.nil_sublist _ | apply List.Sublist.cons_cons | apply List.Sublist.cons))))
          | ((with_reducible apply (RH_take 10)); exact rfl; kernel_rfl; decide +kernel; decide +kernel; (first | exact fun _ hw => hw | exact fun _ hw => hw.sub (by repeat (first | exact List.Sublist.refl _ | exact List.nil_sublist _ | apply List.Sublist.cons_cons | apply List.Sublist.cons)) | exact fun _ hw => (hw.perm (pull_perm 1 _ _ _ rfl)).sub (by repeat (first | exact List.Sublist.refl _ | exact List.nil_sublist _ | apply List.Sublist.cons_cons | apply List.Sublist.cons)) | exact fun _ hw => (hw.perm (pull_perm 2 _ _ _ rfl)).sub (by repeat (first | exact List.Sublist.refl _ | exact List.nil_sublist _ | apply List.Sublist.cons_cons | apply List.Sublist.cons)) | exact fun _ hw => (hw.perm (pull_perm 3 _ _ _ rfl)).sub (by repeat (first | exact List.Sublist.refl _ | exact List.nil_sublist _ | apply List.Sublist.cons_cons | apply List.Sublist.cons)) | exact fun _ hw => (hw.perm (pull_perm 4 _ _ _ rfl)).sub (by repeat (first | exact List.Sublist.refl _ | exact List.nil_sublist _ | apply List.Sublist.cons_cons | apply List.Sublist.cons))))
          | ((with_reducible apply (RH_take 13)); exact rfl; kernel_rfl; decide +kernel; decide +kernel; (first | exact fun _ hw => hw | exact fun _ hw => hw.sub (by repeat (first | exact List.Sublist.refl _ | exact List.nil_sublist _ | apply List.Sublist.cons_cons | apply List.Sublist.cons)) | exact fun _ hw => (hw.perm (pull_perm 1 _ _ _ rfl)).sub (by repeat (first | exact List.Sublist.refl _ | exact List.nil_sublist _ | apply List.Sublist.cons_cons | apply List.Sublist.cons)) | exact fun _ hw => (hw.perm (pull_perm 2 _ _ _ rfl)).sub (by repeat (first | exact List.Sublist.refl _ | exact List.nil_sublist _ | apply List.Sublist.cons_cons | apply List.Sublist.cons)) | exact fun _ hw => (hw.perm (pull_perm 3 _ _ _ rfl)).sub (by repeat (first | exact List.Sublist.refl _ | exact List.nil_sublist _ | apply List.Sublist.cons_cons | apply List.Sublist.cons)) | exact fun _ hw => (hw.perm (pull_perm 4 _ _ _ rfl)).sub (by repeat (first | exact List.Sublist.refl _ | exact List.nil_sublist _ | apply List.Sublist.cons_cons | apply List.Sublist.cons))))
          | ((with_reducible apply (RH_step 5)); decide +kernel; exact rfl)
          | ((with_reducible apply (RH_step 11)); decide +kernel; exact rfl)
          | ((with_reducible apply (RH_step 12)); decide +kernel; exact rfl)
          | ((with_reducible apply (RH_step2 5 11)); decide +kernel; exact rfl; exact rfl)
          | ((with_reducible apply RH_done); decide +kernel)
          | ((with_reducible apply post_take))
          | ((with_reducible apply post_step); (first | exact fun _ hw => hw | exact fun _ hw => hw.sub (by repeat (first | exact List.Sublist.refl _ | exact List.nil_sublist _ | apply List.Sublist.cons_cons | apply List.Sublist.cons)) | exact fun _ hw => (hw.perm (pull_perm 1 _ _ _ rfl)).sub (by repeat (first | exact List.Sublist.refl _ | exact List.nil_sublist _ | apply List.Sublist.cons_cons | apply List.Sublist.cons)) | exact fun _ hw => (hw.perm (pull_perm 2 _ _ _ rfl)).sub (by repeat (first | exact List.Sublist.refl _ | exact List.nil_sublist _ | apply List.Sublist.cons_cons | apply List.Sublist.cons)) | exact fun _ hw => (hw.perm (pull_perm 3 _ _ _ rfl)).sub (by repeat (first | exact List.Sublist.refl _ | exact List.nil_sublist _ | apply List.Sublist.cons_cons | apply List.Sublist.cons)) | exact fun _ hw => (hw.perm (pull_perm 4 _ _ _ rfl)).sub (by repeat (first | exact List.Sublist.refl _ | exact List.nil_sublist _ | apply List.Sublist.cons_cons | apply List.Sublist.cons))))
          | ((with_reducible apply (LR_slice_old k (k + 1))); exact rfl; exact rfl; exact rfl; exact rfl; exact rfl; exact z1; exact rfl; exact .inr rfl; exact .inr rfl; omega; omega; intro A5 n5 c5 s5; rw [hx1] at s5)
          | ((with_reducible apply (LS_callx (f := 16))); exact rfl; exact rfl; exact rfl; exact fun w hw => iRuleOrder_ok _ [x] w (s5.mono hw) (fun r hr => by cases List.mem_singleton.1 hr; exact (z2 x (List.mem_of_getElem? hx)).mono hw) hV1; rintro ⟨g5, c5⟩ ⟨d3, d4⟩; dsimp only at d3 d4 ⊢; rw [ho1] at d3 ⊢)
          | ((with_reducible apply (LR_index_old (k))); exact rfl; exact rfl; exact rfl; exact rfl; exact z1; omega; exact hx; exact rfl; intro _ _)
          | ((with_reducible apply (LR_call (f := 17))); exact rfl; exact rfl; exact rfl; exact fun w hw => (by first | exact equalInts_ok _ _ [x.num] w (own_sl 0 hw rfl rfl rfl d3 d4) (own_sl 1 hw rfl rfl rfl (by simp) (by simp [maxLen])) | exact equalInts_ok _ _ [x.num] w (own_sl 1 hw rfl rfl rfl d3 d4) (own_sl 0 hw rfl rfl rfl (by simp) (by simp [maxLen]))))
          | ((with_reducible apply RR_end))
          | ((with_reducible apply LR_pure); exact rfl; exact rfl; exact rfl)
          | ((with_reducible apply LR_add); exact rfl; exact rfl; exact rfl; exact rfl; omega; omega)
          | ((with_reducible apply LR_field); exact rfl; exact rfl; exact rfl)
          | ((with_reducible apply LR_load_old); exact rfl; exact rfl; exact rfl; assumption; exact rfl)
          | ((with_reducible apply LS_buildSlice); exact rfl; exact rfl; exact rfl; exact rfl; exact rfl; exact rfl; exact rfl; intro _)
        all_goals exact post_cut () trivial ⟨rfl, rfl, rfl, trivial⟩ (fun _ hw => hw.nil)
      · rintro _ _
        repeat' first
          | ((with_reducible apply CS_region))
          | ((with_reducible apply RR_end))
          | ((with_reducible apply LR_pure); exact rfl; exact rfl; exact rfl)
          | ((with_reducible apply LR_add); exact rfl; exact rfl; exact rfl; exact rfl; omega; omega)
          | ((with_reducible apply post_seq))
          | ((with_reducible apply post_block_n))
          | ((with_reducible apply CS_skip))
          | ((with_reducible apply CS_cond_f); exact rfl)
        all_goals first | (exfalso; contradiction) | (exfalso; omega) | (exfalso; simp at hb <;> omega) | skip
        exact post_round (i := k) (k + 1) (by omega) (by omega) ⟨rfl, rfl, trivial⟩ (fun _ hw => hw.nil)
    · skip
      repeat' first
        | ((with_reducible apply LR_len_sl); exact rfl; exact rfl; exact rfl; exact z1)
        | ((with_reducible apply (LS_callx (f := 16))); exact rfl; exact rfl; exact rfl; exact fun w hw => iRuleOrder_ok _ [] w (Sl.nil w) (fun r hr => by cases hr) hVn; rintro ⟨g5, c5⟩ ⟨d3, d4⟩; dsimp only at d3 d4 ⊢)
        | ((with_reducible apply CS_seq))
        | ((with_reducible apply CS_region))
        | ((with_reducible apply RR_end))
        | ((with_reducible apply LR_pure); exact rfl; exact rfl; exact rfl)
        | ((with_reducible apply LR_len); exact rfl; exact rfl; exact rfl)
        | ((with_reducible apply post_seq))
        | ((with_reducible apply post_then_exit))
        | ((with_reducible apply post_block_eq))
        | ((with_reducible apply CS_ret))
        | ((with_reducible apply CS_exit))
        | ((with_reducible apply CS_cond_d); exact rfl; all_goals intro hb; all_goals try (exfalso; omega))
      all_goals first | (exfalso; contradiction) | (exfalso; omega) | (exfalso; simp at hb <;> omega) | skip
      all_goals (apply ret_boolr k2; exact rfl; exact rfl; first | rfl | simp [ordL_len])
  · have hB : VRs rs ↔ false = true := by simp [hV]
    have hxs := y2.2 hV
    subst hxs
    repeat' first
      | ((with_reducible apply (LR_call (f := 18))); exact rfl; exact rfl; exact rfl; exact fun w hw => sRuleOrder_no v1 rs w (z1.mono hw) (fun r hr => (z2 r hr).mono hw) hV)
      | ((with_reducible apply (LR_call (f := 17))); exact rfl; exact rfl; exact rfl; exact fun w hw => equalInts_ok v2 _ [] w (y1.mono hw) (Sl.nil w))
      | ((with_reducible apply (LR_call (f := 19))); exact rfl; exact rfl; exact rfl; exact fun w hw => iValidRules_ok v1 rs w _ (z1.mono hw) (fun r hr => (z2 r hr).mono hw) hB)
      | ((with_reducible apply CS_seq))
      | ((with_reducible apply CS_region))
      | ((with_reducible apply RR_end))
      | ((with_reducible apply LR_pure); exact rfl; exact rfl; exact rfl)
      | ((with_reducible apply post_seq))
      | ((with_reducible apply post_then_ret))
      | ((with_reducible apply CS_ret))
      | ((with_reducible apply CS_cond_t); exact rfl)
    all_goals first | (exfalso; contradiction) | (exfalso; omega) | (exfalso; simp at hb <;> omega) | skip
    all_goals (apply ret_boolr k2; exact rfl; exact rfl; rfl)
set_option maxHeartbeats 4000000 in
theorem FnRuleOrderLevels_ok (v : Value) (l : List By) (w : World) (hs : Sl w v l) (hby : BytesOk l) : Calls Try.prog 3 #[v] w (Gives (.bool true) w) := by
  have hlen := hs.len
  have hml : maxLen = 9223372036854775807 := rfl
  simp only [maxLen] at hlen
  refine enter (vs := [v]) Try.func3 rfl Try.ntmps3 rfl ?_
  repeat' first
    | ((with_reducible apply LR_len_sl); exact rfl; exact rfl; exact rfl; exact hs)
    | ((with_reducible apply (LS_callr (f := 15))); exact rfl; exact rfl; exact rfl; exact fun w hw => DrawRuleOrder_ok v l w (hs.mono hw) hby; rintro ⟨v1, rs⟩ w1 k1 ⟨z1, z2, z3⟩; dsimp only at z1 z2 z3 ⊢)
    | ((with_reducible apply (LS_callr (f := 16))); exact rfl; exact rfl; exact rfl; exact fun w hw => iRuleOrder_r v1 rs _ (z1.mono hw) (fun r hr => (z2 r hr).mono hw); rintro ⟨v2, xs⟩ w2 k2 ⟨y1, y2⟩; dsimp only at y1 y2 ⊢)
    | ((with_reducible apply CS_seq))
    | ((with_reducible apply CS_region))
    | ((with_reducible apply RR_end))
    | ((with_reducible apply LR_pure); exact rfl; exact rfl; exact rfl)
    | ((with_reducible apply post_seq))
    | ((with_reducible apply post_then_ret))
    | ((with_reducible apply CS_skip))
    | ((with_reducible apply CS_ret))
    | ((with_reducible apply CS_cond_d); exact rfl; all_goals intro hb; all_goals try (exfalso; omega))
  · apply ret_bool; exact rfl; exact rfl; rfl
  have z1 := z1.mono k2
  have z2 : ROks w2 rs := fun r hr => (z2 r hr).mono k2
  have k2 := k1.thn k2
  by_cases hV : VRs rs
  · have hxs := y2.1 hV
    subst hxs
    have hol := ordL_len rs
    have hsl := srt_len rs
    have hsp := srt_perm rs
    have hss := srt_sorted (VRs_nums hV)
    repeat' first
      | ((with_reducible apply (LS_callx (f := 18))); exact rfl; exact rfl; exact rfl; exact fun w hw => sRuleOrder_ok v1 rs w (z1.mono hw) (fun r hr => (z2 r hr).mono hw) hV; rintro ⟨g3, c3⟩ ⟨d1, d2⟩; dsimp only at d1 d2 ⊢)
      | ((with_reducible apply (LR_call (f := 17))); exact rfl; exact rfl; exact rfl; exact fun w hw => equalInts_ok v2 _ (ordL rs) w (y1.mono hw) (own_sl 0 hw rfl rfl rfl d1 d2))
      | ((with_reducible apply CS_seq))
      | ((with_reducible apply CS_block))
      | ((with_reducible apply CS_region))
      | ((with_reducible apply RR_end))
      | ((with_reducible apply LR_pure); exact rfl; exact rfl; exact rfl)
      | ((with_reducible apply post_seq))
      | ((with_reducible apply CS_skip))
      | ((with_reducible apply CS_cond_f); exact rfl)
    all_goals first | (exfalso; contradiction) | (exfalso; omega) | (exfalso; simp at hb <;> omega) | skip
    refine CS_loop (ι := Nat × Int × Int) (fun i => [(3, v1), (4, v2), (5, .int .i64 i.2.1), (6, .int .i64 i.2.2), (7, .int .i64 (i.1 : Int))]) (fun i => Wd w2 []) (fun i => i.1 ≤ rs.length ∧ (i.1 = 0 → i.2.1 = -1 ∧ i.2.2 = -1) ∧ (∀ y, 0 < i.1 → (srt rs)[i.1 - 1]? = some y → i.2.1 = y.lev ∧ i.2.2 = y.rank)) (fun i => rs.length - i.1) (0, -1, -1) ⟨by dsimp only; omega, fun _ => ⟨rfl, rfl⟩, fun _ h => by dsimp only at h; omega⟩ ⟨rfl, rfl, rfl, rfl, rfl, trivial⟩ (fun _ hw => hw.nil) ?_
    rintro ⟨i, lv, rk⟩ ⟨a1, a2, a3⟩
    dsimp only at a1 a2 a3 ⊢
    by_cases hi : i < rs.length
    · obtain ⟨x, hx⟩ : ∃ y, (srt rs)[i]? = some y := ⟨_, List.getElem?_eq_getElem (by omega)⟩
      have hxo : (ordL rs)[i]? = some x.num := by simp [ordL, hx]
      have hxm := hsp.mem_iff.1 (List.mem_of_getElem? hx)
      have hxv := VRs_all hV x hxm
      have hx2 := hxv.2.1
      have hx3 := hxv.2.2.1
      obtain ⟨p, hp⟩ := List.mem_iff_getElem?.1 hxm
      have hpl := (List.getElem?_eq_some_iff.1 hp).1
      have hbf : ¬ (x.lev < lv) ∧ ¬ (x.lev = lv ∧ x.rank < rk) := by
        by_cases h0 : i = 0
        · have := a2 h0; omega
        · obtain ⟨y, hy⟩ : ∃ y, (srt rs)[i-1]? = some y := ⟨_, List.getElem?_eq_getElem (by omega)⟩
          have h1 := a3 y (by omega) hy
          have h2 := List.pairwise_iff_getElem.1 hss (i-1) i (by omega) (by omega) (by omega)
          rw [(List.getElem?_eq_some_iff.1 hx).2, (List.getElem?_eq_some_iff.1 hy).2] at h2
          unfold bef at h2
          omega
      repeat' first
        | ((with_reducible apply LR_len_sl); exact rfl; exact rfl; exact rfl; exact y1)
        | ((with_reducible apply CS_seq))
        | ((with_reducible apply CS_block))
        | ((with_reducible apply CS_region))
        | ((with_reducible apply RR_end))
        | ((with_reducible apply LR_pure); exact rfl; exact rfl; exact rfl)
        | ((with_reducible apply post_seq))
        | ((with_reducible apply CS_skip))
        | ((with_reducible apply CS_cond_d); exact rfl; all_goals intro hb; all_goals try (exfalso; omega))
      all_goals first | (exfalso; contradiction) | (exfalso; omega) | (exfalso; simp at hb <;> omega) | skip
      refine CS_loop (ι := Nat × Int × Int) (fun k => [(3, v1), (4, v2), (5, .int .i64 k.2.1), (6, .int .i64 k.2.2), (7, .int .i64 (i : Int)), (8, .int .i64 (k.1 : Int))]) (fun k => Wd w2 []) (fun k => k.1 ≤ rs.length ∧ (k.1 ≤ p → k.2.1 = lv ∧ k.2.2 = rk) ∧ (p < k.1 → k.2.1 = x.lev ∧ k.2.2 = x.rank)) (fun k => rs.length - k.1) (0, lv, rk) ⟨by dsimp only; omega, fun _ => ⟨rfl, rfl⟩, fun h => by dsimp only at h; omega⟩ ⟨rfl, rfl, rfl, rfl, rfl, rfl, trivial⟩ (fun _ hw => hw) ?_
      rintro ⟨k, lu, ru⟩ ⟨b1, b2, b3⟩
      dsimp only at b1 b2 b3 ⊢
      by_cases hk : k < rs.length
      · obtain ⟨y, hy⟩ : ∃ y, rs[k]? = some y := ⟨_, List.getElem?_eq_getElem hk⟩
        by_cases hkp : k = p
        · subst hkp
          rw [hp] at hy; cases hy
          obtain ⟨rfl, rfl⟩ := b2 (by omega)
          repeat' first
            | ((with_reducible apply LR_len_sl); exact rfl; exact rfl; exact rfl; exact z1)
            | ((with_reducible apply (LR_index_old (k))); exact rfl; exact rfl; exact rfl; exact rfl; exact z1; omega; exact hp; exact rfl; intro _ _)
            | ((with_reducible apply (LR_index_old (i))); exact rfl; exact rfl; exact rfl; exact rfl; exact y1; omega; exact hxo; exact rfl; intro _ _)
            | ((with_reducible apply CS_seq))
            | ((with_reducible apply CS_block))
            | ((with_reducible apply CS_region))
            | ((with_reducible apply CS_regionq_wd); kernel_rfl; kernel_rfl)
            | ((with_reducible apply RR_end))
            | ((with_reducible apply LR_pure); exact rfl; exact rfl; exact rfl)
            | ((with_reducible apply LR_skip); exact rfl; exact rfl)
            | ((with_reducible apply LR_add); exact rfl; exact rfl; exact rfl; exact rfl; omega; omega)
            | ((with_reducible apply LR_field); exact rfl; exact rfl; exact rfl)
            | ((with_reducible apply LR_load_old); exact rfl; exact rfl; exact rfl; assumption; exact rfl)
            | ((with_reducible apply LR_load_old0); exact rfl; exact rfl; exact rfl; assumption; exact rfl)
            | ((with_reducible apply post_seq))
            | ((with_reducible apply post_block_n))
            | ((with_reducible apply CS_skip))
            | ((with_reducible apply CS_cond_f); exact rfl)
            | ((with_reducible apply CS_cond_nd); exact rfl; all_goals intro hb; all_goals try (exfalso; omega))
            | ((with_reducible apply CS_cond_d); exact rfl; all_goals intro hb; all_goals try (exfalso; omega))
            | ((with_reducible apply LR_caseg_d); exact rfl; exact rfl; all_goals intro hb; all_goals try (exfalso; omega))
          all_goals first | (exfalso; contradiction) | (exfalso; omega) | (exfalso; simp at hb <;> omega) | skip
          all_goals exact post_round (i := (k, lu, ru)) (k + 1, x.lev, x.rank) ⟨by dsimp only; omega, fun h => by dsimp only at h; omega, fun _ => ⟨rfl, rfl⟩⟩ (by dsimp only; omega) ⟨rfl, rfl, rfl, rfl, rfl, rfl, trivial⟩ (fun _ hw => hw)
        · have hne : ¬ y.num = x.num := fun h => hkp (num_inj (VRs_nums hV) hy hp h)
          repeat' first
            | ((with_reducible apply LR_len_sl); exact rfl; exact rfl; exact rfl; exact z1)
            | ((with_reducible apply (LR_index_old (k))); exact rfl; exact rfl; exact rfl; exact rfl; exact z1; omega; exact hy; exact rfl; intro _ _)
            | ((with_reducible apply (LR_index_old (i))); exact rfl; exact rfl; exact rfl; exact rfl; exact y1; omega; exact hxo; exact rfl; intro _ _)
            | ((with_reducible apply CS_seq))
            | ((with_reducible apply CS_block))
            | ((with_reducible apply CS_region))
            | ((with_reducible apply CS_regionq_wd); kernel_rfl; kernel_rfl)
            | ((with_reducible apply RR_end))
            | ((with_reducible apply LR_pure); exact rfl; exact rfl; exact rfl)
            | ((with_reducible apply LR_add); exact rfl; exact rfl; exact rfl; exact rfl; omega; omega)
            | ((with_reducible apply LR_field); exact rfl; exact rfl; exact rfl)
            | ((with_reducible apply LR_load_old); exact rfl; exact rfl; exact rfl; assumption; exact rfl)
            | ((with_reducible apply LR_load_old0); exact rfl; exact rfl; exact rfl; assumption; exact rfl)
            | ((with_reducible apply post_seq))
            | ((with_reducible apply post_then_exit))
            | ((with_reducible apply post_block_eq))
            | ((with_reducible apply CS_skip))
            | ((with_reducible apply CS_exit))
            | ((with_reducible apply CS_cond_nd); exact rfl; all_goals intro hb; all_goals try (exfalso; omega))
            | ((with_reducible apply CS_cond_d); exact rfl; all_goals intro hb; all_goals try (exfalso; omega))
          all_goals first | (exfalso; contradiction) | (exfalso; omega) | (exfalso; simp at hb <;> omega) | skip
          all_goals exact post_round (i := (k, lu, ru)) (k + 1, lu, ru) ⟨by dsimp only; omega, fun h => b2 (by dsimp only at h; omega), fun h => b3 (by dsimp only at h; omega)⟩ (by dsimp only; omega) ⟨rfl, rfl, rfl, rfl, rfl, rfl, trivial⟩ (fun _ hw => hw)
      · obtain ⟨rfl, rfl⟩ := b3 (by omega)
        repeat' first
          | ((with_reducible apply LR_len_sl); exact rfl; exact rfl; exact rfl; exact z1)
          | ((with_reducible apply CS_seq))
          | ((with_reducible apply CS_region))
          | ((with_reducible apply RR_end))
          | ((with_reducible apply LR_pure); exact rfl; exact rfl; exact rfl)
          | ((with_reducible apply LR_add); exact rfl; exact rfl; exact rfl; exact rfl; omega; omega)
          | ((with_reducible apply post_seq))
          | ((with_reducible apply post_then_exit))
          | ((with_reducible apply post_block_n))
          | ((with_reducible apply post_block_eq))
          | ((with_reducible apply CS_exit))
          | ((with_reducible apply CS_cond_d); exact rfl; all_goals intro hb; all_goals try (exfalso; omega))
        all_goals first | (exfalso; contradiction) | (exfalso; omega) | (exfalso; simp at hb <;> omega) | skip
        all_goals exact post_round (i := (i, lv, rk)) (i + 1, x.lev, x.rank) ⟨by dsimp only; omega, fun h => by dsimp only at h; omega, fun y _ hy => by dsimp only at hy; rw [show i + 1 - 1 = i by omega, hx] at hy; cases hy; exact ⟨rfl, rfl⟩⟩ (by dsimp only; omega) ⟨rfl, rfl, rfl, rfl, rfl, trivial⟩ (fun _ hw => hw)
    · skip
      repeat' first
        | ((with_reducible apply LR_len_sl); exact rfl; exact rfl; exact rfl; exact y1)
        | ((with_reducible apply CS_seq))
        | ((with_reducible apply CS_region))
        | ((with_reducible apply RR_end))
        | ((with_reducible apply LR_pure); exact rfl; exact rfl; exact rfl)
        | ((with_reducible apply post_seq))
        | ((with_reducible apply post_then_exit))
        | ((with_reducible apply post_block_eq))
        | ((with_reducible apply CS_ret))
        | ((with_reducible apply CS_exit))
        | ((with_reducible apply CS_cond_d); exact rfl; all_goals intro hb; all_goals try (exfalso; omega))
      all_goals first | (exfalso; contradiction) | (exfalso; omega) | (exfalso; simp at hb <;> omega) | skip
      all_goals (apply ret_boolr k2; exact rfl; exact rfl; rfl)
  · have hB : VRs rs ↔ false = true := by simp [hV]
    have hxs := y2.2 hV
    subst hxs
    repeat' first
      | ((with_reducible apply (LR_call (f := 18))); exact rfl; exact rfl; exact rfl; exact fun w hw => sRuleOrder_no v1 rs w (z1.mono hw) (fun r hr => (z2 r hr).mono hw) hV)
      | ((with_reducible apply (LR_call (f := 17))); exact rfl; exact rfl; exact rfl; exact fun w hw => equalInts_ok v2 _ [] w (y1.mono hw) (Sl.nil w))
      | ((with_reducible apply CS_seq))
      | ((with_reducible apply CS_block))
      | ((with_reducible apply CS_region))
      | ((with_reducible apply RR_end))
      | ((with_reducible apply LR_pure); exact rfl; exact rfl; exact rfl)
      | ((with_reducible apply post_seq))
      | ((with_reducible apply CS_skip))
      | ((with_reducible apply CS_cond_f); exact rfl)
    all_goals first | (exfalso; contradiction) | (exfalso; omega) | (exfalso; simp at hb <;> omega) | skip
    refine CS_loop (ι := Unit) (fun i => [(3, v1), (4, v2), (5, .int .i64 (-1)), (6, .int .i64 (-1)), (7, .int .i64 0)]) (fun i => Wd w2 []) (fun i => True) (fun i => 0) () trivial ⟨rfl, rfl, rfl, rfl, rfl, trivial⟩ (fun _ hw => hw) ?_
    rintro _ _
    repeat' first
      | ((with_reducible apply LR_len_sl); exact rfl; exact rfl; exact rfl; exact y1)
      | ((with_reducible apply CS_seq))
      | ((with_reducible apply CS_region))
      | ((with_reducible apply RR_end))
      | ((with_reducible apply LR_pure); exact rfl; exact rfl; exact rfl)
      | ((with_reducible apply post_seq))
      | ((with_reducible apply post_then_exit))
      | ((with_reducible apply post_block_eq))
      | ((with_reducible apply CS_ret))
      | ((with_reducible apply CS_exit))
      | ((with_reducible apply CS_cond_f); exact rfl)
    all_goals first | (exfalso; contradiction) | (exfalso; omega) | (exfalso; simp at hb <;> omega) | skip
    all_goals (apply ret_boolr k2; exact rfl; exact rfl; rfl)
end Go.Proofs.Ytpflkichnjfgkaa
