/- The walks of the laws on the discounts of a rule. No condition beyond those that each theorem states. -/
import Derived.Test.YtaggfcghkfkngaaWEf3
import Derived.Test.YtaggfcghkfkngaaWDrE
namespace Go.Proofs.Ytaggfcghkfkngaa
open Go.RowKit
attribute [local irreducible] Calls
abbrev EfA := Value × List Ar × Value × List Ln × Ru × Value × List Int
theorem eff_len8 {s : List Ar} {c : List Ln} {r : Ru} {f : List Int} (h : EfOk s c r f) : (∀ x ∈ effL s c r f, -1000000000 ≤ x ∧ x ≤ 1000000000) ∧ (effL s c r f).length ≤ 1000 := by
  refine ⟨at_all fun k x hx => ?_, by rw [effL_len h]; have := h.len; omega⟩
  have := effL_bd h hx; omega
set_option maxHeartbeats 8000000 in
theorem FnEffectOf_ok (v : Value) (l : List By) (w : World) (hs : Sl w v l) (hby : BytesOk l) : Calls Try.prog 4 #[v] w (Gives (.bool true) w) := by
  have hlen := hs.len
  have hml : maxLen = 9223372036854775807 := rfl
  simp only [maxLen] at hlen
  refine enter (vs := [v]) Try.func4 rfl Try.ntmps4 rfl ?_
  repeat' first
    | ((with_reducible apply LR_len_sl); exact rfl; exact rfl; exact rfl; exact hs)
    | ((with_reducible apply (LS_callr (f := 27))); exact rfl; exact rfl; exact rfl; exact fun w hw => DrawEffectOf_ok v l w (hs.mono hw) hby; rintro ⟨v0, s, v1, c, r, v2, f⟩ w1 k1 ⟨z1, z2, z3, z4⟩; dsimp only at z1 z2 z3 z4 ⊢)
    | ((with_reducible apply CS_seq))
    | ((with_reducible apply CS_region))
    | ((with_reducible apply RR_end))
    | ((with_reducible apply LR_pure); exact rfl; exact rfl; exact rfl)
    | ((with_reducible apply LR_load_own_agg 0); exact rfl; exact rfl; exact rfl; exact rfl; exact rfl)
    | ((with_reducible apply LS_alloc); exact rfl; exact rfl; exact rfl; intro _)
    | ((with_reducible apply LS_store_agg 0); exact rfl; exact rfl; exact rfl; exact rfl; exact rfl; exact rfl; exact rfl; exact rfl)
    | ((with_reducible apply post_seq))
    | ((with_reducible apply post_then_ret))
    | ((with_reducible apply CS_skip))
    | ((with_reducible apply CS_ret))
    | ((with_reducible apply CS_cond_d); exact rfl; all_goals intro hb; all_goals try (exfalso; omega))
  · apply ret_bool; exact rfl; exact rfl; rfl
  rename_i gr
  by_cases h : EfOk s c r f
  · have hel := effL_len h
    have h8 := h.len
    have hne := h.ne
    have hfl := h.left.1
    have hzl := z4.len
    repeat' first
      | ((with_reducible apply (LS_callx (f := 28))); exact rfl; exact rfl; exact rfl; exact fun w hw => iEffectOf_ok v0 s v1 c r v2 f w (z1.mono hw) (z2.mono hw) (z3.mono hw) (z4.mono hw) h; rintro g1 _)
      | ((with_reducible apply (LS_callx (f := 30))); exact rfl; exact rfl; exact rfl; exact fun w hw => sEffectOf_ok v0 s v1 c r v2 f w (z1.mono hw) (z2.mono hw) (z3.mono hw) (z4.mono hw) h; rintro g2 _)
      | ((with_reducible apply (LR_call (f := 29))); exact rfl; exact rfl; exact rfl; exact fun w hw => equalInts_ok _ _ (effL s c r f) w (by first | exact own_sl 0 hw rfl rfl hel.symm (by omega) (by omega) | exact own_sl 1 hw rfl rfl hel.symm (by omega) (by omega) | exact own_sl 2 hw rfl rfl hel.symm (by omega) (by omega) | exact own_sl 3 hw rfl rfl hel.symm (by omega) (by omega) | exact own_sl 4 hw rfl rfl hel.symm (by omega) (by omega)) (by first | exact own_sl 0 hw rfl rfl hel.symm (by omega) (by omega) | exact own_sl 1 hw rfl rfl hel.symm (by omega) (by omega) | exact own_sl 2 hw rfl rfl hel.symm (by omega) (by omega) | exact own_sl 3 hw rfl rfl hel.symm (by omega) (by omega) | exact own_sl 4 hw rfl rfl hel.symm (by omega) (by omega)))
      | ((with_reducible apply CS_seq))
      | ((with_reducible apply CS_block))
      | ((with_reducible apply CS_region))
      | ((with_reducible apply RR_end))
      | ((with_reducible apply LR_pure); exact rfl; exact rfl; exact rfl)
      | ((with_reducible apply LR_load_own_agg 1); exact rfl; exact rfl; exact rfl; exact rfl; exact rfl)
      | ((with_reducible apply LR_len); exact rfl; exact rfl; exact rfl)
      | ((with_reducible apply post_seq))
      | ((with_reducible apply CS_skip))
      | ((with_reducible apply CS_cond_d); exact rfl; all_goals intro hb; all_goals try (exfalso; omega))
    all_goals first | (exfalso; contradiction) | (exfalso; omega) | (exfalso; simp at hb <;> omega) | skip
    refine CS_loop (ι := Nat) (fun i => [(3, v0), (4, v1), (5, .pointer (some ⟨gr, 0, none⟩)), (6, v2), (7, .slice (some ⟨g1, 0, none⟩) c.length c.length), (8, .int .i64 (i : Int))]) (fun _ => Wd w1 [intE g1 c.length (effL s c r f), rbE gr r]) (fun i => i ≤ c.length) (fun i => c.length - i) 0 (by omega) ⟨rfl, rfl, rfl, rfl, rfl, rfl, trivial⟩ (fun _ hw => hw.picks [1, 1] rfl) ?_
    rintro k hk
    try dsimp only at hk ⊢
    by_cases hi : k < c.length
    · obtain ⟨l0, x, hl, hx⟩ := pair_at hfl hi
      obtain ⟨j, hj, hjl, ha, hok, hcnt⟩ := line_ok h.sc hl
      obtain ⟨y, hy⟩ : ∃ y, (effL s c r f)[k]? = some y := ⟨_, List.getElem?_eq_getElem (by omega)⟩
      have hyb := effL_at h hl hx hy
      have hxb := h.at_x hx
      unfold mnt at hyb
      repeat' first
        | ((with_reducible apply (LR_index_old (k))); exact rfl; exact rfl; exact rfl; exact rfl; exact z4; omega; exact hx; exact rfl; intro _ _)
        | ((with_reducible apply (LR_index_old (k))); exact rfl; exact rfl; exact rfl; exact rfl; exact z2; omega; exact hl; exact rfl; intro _ _)
        | ((with_reducible apply (LR_index_old (j))); exact rfl; exact rfl; exact rfl; exact rfl; exact z1; omega; exact ha; exact rfl; intro _ _)
        | ((with_reducible apply (LR_index_own (k))); exact rfl; exact rfl; exact rfl; exact rfl; omega; omega)
        | ((with_reducible apply (LR_load_own 0)); exact rfl; exact rfl; exact rfl; exact rfl; exact nth_fld _ (k) _ 0 _ hy rfl)
        | ((with_reducible apply CS_seq))
        | ((with_reducible apply CS_block))
        | ((with_reducible apply CS_region))
        | ((with_reducible apply CS_regionq_wd); kernel_rfl; kernel_rfl)
        | ((with_reducible apply RR_end))
        | ((with_reducible apply LR_pure); exact rfl; exact rfl; exact rfl)
        | ((with_reducible apply LR_skip); exact rfl; exact rfl)
        | ((with_reducible apply LR_add); exact rfl; exact rfl; exact rfl; exact rfl; omega; omega)
        | ((with_reducible apply LR_field_own); exact rfl; exact rfl; exact rfl)
        | ((with_reducible apply LR_field); exact rfl; exact rfl; exact rfl)
        | ((with_reducible apply LR_load_own 1); exact rfl; exact rfl; exact rfl; exact rfl; exact rfl)
        | ((with_reducible apply LR_load_old); exact rfl; exact rfl; exact rfl; assumption; exact rfl)
        | ((with_reducible apply LR_load_old0); exact rfl; exact rfl; exact rfl; assumption; exact rfl)
        | ((with_reducible apply LR_len); exact rfl; exact rfl; exact rfl)
        | ((with_reducible apply post_seq))
        | ((with_reducible apply post_block_n))
        | ((with_reducible apply CS_skip))
        | ((with_reducible apply CS_cond_f); exact rfl)
        | ((with_reducible apply CS_cond_nd); exact rfl; all_goals intro hb; all_goals try (exfalso; omega))
        | ((with_reducible apply CS_cond_d); exact rfl; all_goals intro hb; all_goals try (exfalso; omega))
        | ((with_reducible apply LR_caseg_nd); exact rfl; exact rfl; all_goals intro hb; all_goals try (exfalso; omega))
        | ((with_reducible apply LR_caseg_d); exact rfl; exact rfl; all_goals intro hb; all_goals try (exfalso; omega))
      all_goals first | (exfalso; contradiction) | (exfalso; omega) | (exfalso; simp at hb <;> omega) | skip
      all_goals exact post_round (i := k) (k + 1) (by omega) (by omega) ⟨rfl, rfl, rfl, rfl, rfl, rfl, trivial⟩ (fun _ hw => hw)
    · skip
      repeat' first
        | ((with_reducible apply LR_len_sl); exact rfl; exact rfl; exact rfl; exact z2)
        | ((with_reducible apply CS_seq))
        | ((with_reducible apply CS_region))
        | ((with_reducible apply RR_end))
        | ((with_reducible apply LR_pure); exact rfl; exact rfl; exact rfl)
        | ((with_reducible apply LR_len); exact rfl; exact rfl; exact rfl)
        | ((with_reducible apply post_seq))
        | ((with_reducible apply post_then_exit))
        | ((with_reducible apply post_block_eq))
        | ((with_reducible apply CS_ret))
        | ((with_reducible apply CS_exit))
        | ((with_reducible apply CS_cond_d); exact rfl; all_goals intro hb; all_goals try (exfalso; omega))
      all_goals first | (exfalso; contradiction) | (exfalso; omega) | (exfalso; simp at hb <;> omega) | skip
      apply ret_boolr k1; exact rfl; exact rfl; simp
  · skip
    repeat' first
      | ((with_reducible apply (LS_callx (f := 28))); exact rfl; exact rfl; exact rfl; exact fun w hw => iEffectOf_no v0 s v1 c r v2 f w (z1.mono hw) (z2.mono hw) (z3.mono hw) (z4.mono hw) h; rintro g1 _)
      | ((with_reducible apply (LR_call (f := 30))); exact rfl; exact rfl; exact rfl; exact fun w hw => sEffectOf_no v0 s v1 c r v2 f w (z1.mono hw) (z2.mono hw) (z3.mono hw) (z4.mono hw) h)
      | ((with_reducible apply (LR_call (f := 29))); exact rfl; exact rfl; exact rfl; exact fun w hw => equalInts_ok _ _ [] w (by first | exact own_sl 0 hw rfl rfl rfl (by omega) (by omega) | exact own_sl 1 hw rfl rfl rfl (by omega) (by omega) | exact own_sl 2 hw rfl rfl rfl (by omega) (by omega)) (Sl.nil w))
      | ((with_reducible apply CS_seq))
      | ((with_reducible apply CS_region))
      | ((with_reducible apply RR_end))
      | ((with_reducible apply LR_pure); exact rfl; exact rfl; exact rfl)
      | ((with_reducible apply LR_load_own_agg 1); exact rfl; exact rfl; exact rfl; exact rfl; exact rfl)
      | ((with_reducible apply LR_len); exact rfl; exact rfl; exact rfl)
      | ((with_reducible apply post_seq))
      | ((with_reducible apply post_then_ret))
      | ((with_reducible apply CS_ret))
      | ((with_reducible apply CS_cond_t); exact rfl)
    all_goals first | (exfalso; contradiction) | (exfalso; omega) | (exfalso; simp at hb <;> omega) | skip
    apply ret_boolr k1; exact rfl; exact rfl; rfl
set_option maxHeartbeats 8000000 in
theorem FnEffectOfLines_ok (v : Value) (l : List By) (w : World) (hs : Sl w v l) (hby : BytesOk l) : Calls Try.prog 5 #[v] w (Gives (.bool true) w) := by
  have hlen := hs.len
  have hml : maxLen = 9223372036854775807 := rfl
  simp only [maxLen] at hlen
  refine enter (vs := [v]) Try.func5 rfl Try.ntmps5 rfl ?_
  repeat' first
    | ((with_reducible apply LR_len_sl); exact rfl; exact rfl; exact rfl; exact hs)
    | ((with_reducible apply (LS_callr (f := 27))); exact rfl; exact rfl; exact rfl; exact fun w hw => DrawEffectOf_ok v l w (hs.mono hw) hby; rintro ⟨v0, s, v1, c, r, v2, f⟩ w1 k1 ⟨z1, z2, z3, z4⟩; dsimp only at z1 z2 z3 z4 ⊢)
    | ((with_reducible apply CS_seq))
    | ((with_reducible apply CS_region))
    | ((with_reducible apply RR_end))
    | ((with_reducible apply LR_pure); exact rfl; exact rfl; exact rfl)
    | ((with_reducible apply LR_load_own_agg 0); exact rfl; exact rfl; exact rfl; exact rfl; exact rfl)
    | ((with_reducible apply LS_alloc); exact rfl; exact rfl; exact rfl; intro _)
    | ((with_reducible apply LS_store_agg 0); exact rfl; exact rfl; exact rfl; exact rfl; exact rfl; exact rfl; exact rfl; exact rfl)
    | ((with_reducible apply post_seq))
    | ((with_reducible apply post_then_ret))
    | ((with_reducible apply CS_skip))
    | ((with_reducible apply CS_ret))
    | ((with_reducible apply CS_cond_d); exact rfl; all_goals intro hb; all_goals try (exfalso; omega))
  · apply ret_bool; exact rfl; exact rfl; rfl
  rename_i gr
  by_cases h : EfOk s c r f
  · have hel := effL_len h
    have h8 := h.len
    have hne := h.ne
    have hfl := h.left.1
    by_cases hck : r.kind = 2 ∨ 0 < r.cap
    · skip
      repeat' first
        | ((with_reducible apply (LS_callx (f := 28))); exact rfl; exact rfl; exact rfl; exact fun w hw => iEffectOf_ok v0 s v1 c r v2 f w (z1.mono hw) (z2.mono hw) (z3.mono hw) (z4.mono hw) h; rintro g1 _)
        | ((with_reducible apply (LS_callx (f := 30))); exact rfl; exact rfl; exact rfl; exact fun w hw => sEffectOf_ok v0 s v1 c r v2 f w (z1.mono hw) (z2.mono hw) (z3.mono hw) (z4.mono hw) h; rintro g2 _)
        | ((with_reducible apply (LR_call (f := 29))); exact rfl; exact rfl; exact rfl; exact fun w hw => equalInts_ok _ _ (effL s c r f) w (by first | exact own_sl 0 hw rfl rfl hel.symm (by omega) (by omega) | exact own_sl 1 hw rfl rfl hel.symm (by omega) (by omega) | exact own_sl 2 hw rfl rfl hel.symm (by omega) (by omega) | exact own_sl 3 hw rfl rfl hel.symm (by omega) (by omega) | exact own_sl 4 hw rfl rfl hel.symm (by omega) (by omega)) (by first | exact own_sl 0 hw rfl rfl hel.symm (by omega) (by omega) | exact own_sl 1 hw rfl rfl hel.symm (by omega) (by omega) | exact own_sl 2 hw rfl rfl hel.symm (by omega) (by omega) | exact own_sl 3 hw rfl rfl hel.symm (by omega) (by omega) | exact own_sl 4 hw rfl rfl hel.symm (by omega) (by omega)))
        | ((with_reducible apply CS_seq))
        | ((with_reducible apply CS_region))
        | ((with_reducible apply RR_end))
        | ((with_reducible apply LR_pure); exact rfl; exact rfl; exact rfl)
        | ((with_reducible apply LR_skip); exact rfl; exact rfl)
        | ((with_reducible apply LR_field_own); exact rfl; exact rfl; exact rfl)
        | ((with_reducible apply LR_load_own 2); exact rfl; exact rfl; exact rfl; exact rfl; exact rfl)
        | ((with_reducible apply LR_load_own_agg 1); exact rfl; exact rfl; exact rfl; exact rfl; exact rfl)
        | ((with_reducible apply LR_load_own_agg 2); exact rfl; exact rfl; exact rfl; exact rfl; exact rfl)
        | ((with_reducible apply LR_len); exact rfl; exact rfl; exact rfl)
        | ((with_reducible apply post_seq))
        | ((with_reducible apply post_then_ret))
        | ((with_reducible apply CS_ret))
        | ((with_reducible apply CS_cond_t); exact rfl)
        | ((with_reducible apply CS_cond_d); exact rfl; all_goals intro hb; all_goals try (exfalso; omega))
        | ((with_reducible apply LR_caseg_d); exact rfl; exact rfl; all_goals intro hb; all_goals try (exfalso; omega))
      all_goals first | (exfalso; contradiction) | (exfalso; omega) | (exfalso; simp at hb <;> omega) | skip
      all_goals (apply ret_boolr k1; exact rfl; exact rfl; rfl)
    · have hw2 := effL_line (s := s) (c := c) (r := r) (f := f) (by omega) (by omega)
      obtain ⟨_, _, _, hgr, _, _, hkv⟩ := id h.rule
      unfold kindOk at hkv
      repeat' first
        | ((with_reducible apply (LS_callx (f := 28))); exact rfl; exact rfl; exact rfl; exact fun w hw => iEffectOf_ok v0 s v1 c r v2 f w (z1.mono hw) (z2.mono hw) (z3.mono hw) (z4.mono hw) h; rintro g1 _)
        | ((with_reducible apply (LS_callx (f := 30))); exact rfl; exact rfl; exact rfl; exact fun w hw => sEffectOf_ok v0 s v1 c r v2 f w (z1.mono hw) (z2.mono hw) (z3.mono hw) (z4.mono hw) h; rintro g2 _)
        | ((with_reducible apply (LR_call (f := 29))); exact rfl; exact rfl; exact rfl; exact fun w hw => equalInts_ok _ _ (effL s c r f) w (by first | exact own_sl 0 hw rfl rfl hel.symm (by omega) (by omega) | exact own_sl 1 hw rfl rfl hel.symm (by omega) (by omega) | exact own_sl 2 hw rfl rfl hel.symm (by omega) (by omega) | exact own_sl 3 hw rfl rfl hel.symm (by omega) (by omega) | exact own_sl 4 hw rfl rfl hel.symm (by omega) (by omega)) (by first | exact own_sl 0 hw rfl rfl hel.symm (by omega) (by omega) | exact own_sl 1 hw rfl rfl hel.symm (by omega) (by omega) | exact own_sl 2 hw rfl rfl hel.symm (by omega) (by omega) | exact own_sl 3 hw rfl rfl hel.symm (by omega) (by omega) | exact own_sl 4 hw rfl rfl hel.symm (by omega) (by omega)))
        | ((with_reducible apply CS_seq))
        | ((with_reducible apply CS_block))
        | ((with_reducible apply CS_region))
        | ((with_reducible apply RR_end))
        | ((with_reducible apply LR_pure); exact rfl; exact rfl; exact rfl)
        | ((with_reducible apply LR_field_own); exact rfl; exact rfl; exact rfl)
        | ((with_reducible apply LR_load_own 2); exact rfl; exact rfl; exact rfl; exact rfl; exact rfl)
        | ((with_reducible apply LR_load_own_agg 1); exact rfl; exact rfl; exact rfl; exact rfl; exact rfl)
        | ((with_reducible apply LR_len); exact rfl; exact rfl; exact rfl)
        | ((with_reducible apply post_seq))
        | ((with_reducible apply CS_skip))
        | ((with_reducible apply CS_cond_d); exact rfl; all_goals intro hb; all_goals try (exfalso; omega))
        | ((with_reducible apply LR_caseg_d); exact rfl; exact rfl; all_goals intro hb; all_goals try (exfalso; omega))
      all_goals first | (exfalso; contradiction) | (exfalso; omega) | (exfalso; simp at hb <;> omega) | skip
      refine CS_loop (ι := Nat) (fun i => [(3, v0), (4, v1), (5, .pointer (some ⟨gr, 0, none⟩)), (6, v2), (7, .slice (some ⟨g1, 0, none⟩) c.length c.length), (8, .int .i64 (i : Int))]) (fun _ => Wd w1 [intE g1 c.length (effL s c r f), rbE gr r]) (fun i => i ≤ c.length) (fun i => c.length - i) 0 (by omega) ⟨rfl, rfl, rfl, rfl, rfl, rfl, trivial⟩ (fun _ hw => hw.picks [1, 1] rfl) ?_
      rintro k hk
      try dsimp only at hk ⊢
      by_cases hi : k < c.length
      · obtain ⟨l0, x, hl, hx⟩ := pair_at hfl hi
        obtain ⟨j, hj, hjl, ha, hok, hcnt⟩ := line_ok h.sc hl
        have hxb := h.at_x hx
        have hy : (effL s c r f)[k]? = some (wsF s r l0 x) := by rw [hw2]; exact wsZ_at hl hx
        by_cases hm : mnt s r l0
        · by_cases hk1 : r.kind = 1
          · rw [wsF_one hk1, mtF_yes hm] at hy
            unfold mnt at hm
            repeat' first
              | ((with_reducible apply (LR_index_old (k))); exact rfl; exact rfl; exact rfl; exact rfl; exact z4; omega; exact hx; exact rfl; intro _ _)
              | ((with_reducible apply (LR_index_old (k))); exact rfl; exact rfl; exact rfl; exact rfl; exact z2; omega; exact hl; exact rfl; intro _ _)
              | ((with_reducible apply (LR_index_old (j))); exact rfl; exact rfl; exact rfl; exact rfl; exact z1; omega; exact ha; exact rfl; intro _ _)
              | ((with_reducible apply (LR_index_own (k))); exact rfl; exact rfl; exact rfl; exact rfl; omega; omega)
              | ((with_reducible apply (LR_load_own 0)); exact rfl; exact rfl; exact rfl; exact rfl; exact nth_fld _ (k) _ 0 _ hy rfl)
              | ((with_reducible apply (LR_call (f := 31))); exact rfl; exact rfl; exact rfl; exact fun w hw => iPerMille_ok x r.val w (by omega) (by omega) (by omega) (by omega))
              | ((with_reducible apply CS_seq))
              | ((with_reducible apply CS_block))
              | ((with_reducible apply CS_region))
              | ((with_reducible apply CS_regionq_wd); kernel_rfl; kernel_rfl)
              | ((with_reducible apply RR_end))
              | ((with_reducible apply LR_pure); exact rfl; exact rfl; exact rfl)
              | ((with_reducible apply LR_skip); exact rfl; exact rfl)
              | ((with_reducible apply LR_add); exact rfl; exact rfl; exact rfl; exact rfl; omega; omega)
              | ((with_reducible apply LR_field_own); exact rfl; exact rfl; exact rfl)
              | ((with_reducible apply LR_field); exact rfl; exact rfl; exact rfl)
              | ((with_reducible apply LR_load_own 1); exact rfl; exact rfl; exact rfl; exact rfl; exact rfl)
              | ((with_reducible apply LR_load_old); exact rfl; exact rfl; exact rfl; assumption; exact rfl)
              | ((with_reducible apply LR_load_old0); exact rfl; exact rfl; exact rfl; assumption; exact rfl)
              | ((with_reducible apply LR_len); exact rfl; exact rfl; exact rfl)
              | ((with_reducible apply post_seq))
              | ((with_reducible apply post_block_n))
              | ((with_reducible apply CS_skip))
              | ((with_reducible apply CS_cond_f); exact rfl)
              | ((with_reducible apply CS_cond_nd); exact rfl; all_goals intro hb; all_goals try (exfalso; omega))
              | ((with_reducible apply CS_cond_d); exact rfl; all_goals intro hb; all_goals try (exfalso; omega))
              | ((with_reducible apply LR_caseg_d); exact rfl; exact rfl; all_goals intro hb; all_goals try (exfalso; omega))
            all_goals first | (exfalso; contradiction) | (exfalso; omega) | (exfalso; simp at hb <;> omega) | skip
            all_goals exact post_round (i := k) (k + 1) (by omega) (by omega) ⟨rfl, rfl, rfl, rfl, rfl, rfl, trivial⟩ (fun _ hw => hw)
          · have hk3 : r.kind = 3 := by omega
            have hfb := free_bd (r := r) (l := l0) (p := (arOf s l0.art).price) (by omega) hcnt.1 hcnt.2 (by unfold arOk at hok; omega) (by unfold arOk at hok; omega)
            rw [wsF_three hk3 hfb.2.2.1, mtF_yes hm] at hy
            unfold mnt at hm
            repeat' first
              | ((with_reducible apply (LR_index_old (k))); exact rfl; exact rfl; exact rfl; exact rfl; exact z4; omega; exact hx; exact rfl; intro _ _)
              | ((with_reducible apply (LR_index_old (k))); exact rfl; exact rfl; exact rfl; exact rfl; exact z2; omega; exact hl; exact rfl; intro _ _)
              | ((with_reducible apply (LR_index_old (j))); exact rfl; exact rfl; exact rfl; exact rfl; exact z1; omega; exact ha; exact rfl; intro _ _)
              | ((with_reducible apply (LR_index_own (k))); exact rfl; exact rfl; exact rfl; exact rfl; omega; omega)
              | ((with_reducible apply (LR_load_own 0)); exact rfl; exact rfl; exact rfl; exact rfl; exact nth_fld _ (k) _ 0 _ hy rfl)
              | ((with_reducible apply (LR_call (f := 31))); exact rfl; exact rfl; exact rfl; exact fun w hw => iPerMille_ok x r.val w (by omega) (by omega) (by omega) (by omega))
              | ((with_reducible apply CS_seq))
              | ((with_reducible apply CS_block))
              | ((with_reducible apply CS_region))
              | ((with_reducible apply CS_regionq_wd); kernel_rfl; kernel_rfl)
              | ((with_reducible apply RR_end))
              | ((with_reducible apply LR_pure); exact rfl; exact rfl; exact rfl)
              | ((with_reducible apply LR_skip); exact rfl; exact rfl)
              | ((with_reducible apply LR_add); exact rfl; exact rfl; exact rfl; exact rfl; omega; omega)
              | ((with_reducible apply LR_mul); exact rfl; exact rfl; exact rfl; exact rfl; omega; omega)
              | ((with_reducible apply LR_quo); exact rfl; exact rfl; exact rfl; exact rfl; omega; omega; omega)
              | ((with_reducible apply LR_min); exact rfl; exact rfl; exact rfl; exact rfl)
              | ((with_reducible apply LR_field_own); exact rfl; exact rfl; exact rfl)
              | ((with_reducible apply LR_field); exact rfl; exact rfl; exact rfl)
              | ((with_reducible apply LR_load_own 1); exact rfl; exact rfl; exact rfl; exact rfl; exact rfl)
              | ((with_reducible apply LR_load_old); exact rfl; exact rfl; exact rfl; assumption; exact rfl)
              | ((with_reducible apply LR_load_old0); exact rfl; exact rfl; exact rfl; assumption; exact rfl)
              | ((with_reducible apply LR_len); exact rfl; exact rfl; exact rfl)
              | ((with_reducible apply post_seq))
              | ((with_reducible apply post_block_n))
              | ((with_reducible apply CS_skip))
              | ((with_reducible apply CS_cond_f); exact rfl)
              | ((with_reducible apply CS_cond_nd); exact rfl; all_goals intro hb; all_goals try (exfalso; omega))
              | ((with_reducible apply CS_cond_d); exact rfl; all_goals intro hb; all_goals try (exfalso; omega))
              | ((with_reducible apply LR_caseg_d); exact rfl; exact rfl; all_goals intro hb; all_goals try (exfalso; omega))
            all_goals first | (exfalso; contradiction) | (exfalso; omega) | (exfalso; simp at hb <;> omega) | skip
            all_goals exact post_round (i := k) (k + 1) (by omega) (by omega) ⟨rfl, rfl, rfl, rfl, rfl, rfl, trivial⟩ (fun _ hw => hw)
        · unfold mnt at hm
          repeat' first
            | ((with_reducible apply (LR_index_old (k))); exact rfl; exact rfl; exact rfl; exact rfl; exact z2; omega; exact hl; exact rfl; intro _ _)
            | ((with_reducible apply (LR_index_old (j))); exact rfl; exact rfl; exact rfl; exact rfl; exact z1; omega; exact ha; exact rfl; intro _ _)
            | ((with_reducible apply CS_seq))
            | ((with_reducible apply CS_block))
            | ((with_reducible apply CS_region))
            | ((with_reducible apply CS_regionq_wd); kernel_rfl; kernel_rfl)
            | ((with_reducible apply RR_end))
            | ((with_reducible apply LR_pure); exact rfl; exact rfl; exact rfl)
            | ((with_reducible apply LR_add); exact rfl; exact rfl; exact rfl; exact rfl; omega; omega)
            | ((with_reducible apply LR_field_own); exact rfl; exact rfl; exact rfl)
            | ((with_reducible apply LR_field); exact rfl; exact rfl; exact rfl)
            | ((with_reducible apply LR_load_own 1); exact rfl; exact rfl; exact rfl; exact rfl; exact rfl)
            | ((with_reducible apply LR_load_old); exact rfl; exact rfl; exact rfl; assumption; exact rfl)
            | ((with_reducible apply LR_len); exact rfl; exact rfl; exact rfl)
            | ((with_reducible apply post_seq))
            | ((with_reducible apply post_then_exit))
            | ((with_reducible apply post_block_eq))
            | ((with_reducible apply CS_skip))
            | ((with_reducible apply CS_exit))
            | ((with_reducible apply CS_cond_nd); exact rfl; all_goals intro hb; all_goals try (exfalso; omega))
            | ((with_reducible apply CS_cond_d); exact rfl; all_goals intro hb; all_goals try (exfalso; omega))
            | ((with_reducible apply LR_caseg_d); exact rfl; exact rfl; all_goals intro hb; all_goals try (exfalso; omega))
          all_goals first | (exfalso; contradiction) | (exfalso; omega) | (exfalso; simp at hb <;> omega) | skip
          all_goals exact post_round (i := k) (k + 1) (by omega) (by omega) ⟨rfl, rfl, rfl, rfl, rfl, rfl, trivial⟩ (fun _ hw => hw)
      · skip
        repeat' first
          | ((with_reducible apply CS_seq))
          | ((with_reducible apply CS_region))
          | ((with_reducible apply RR_end))
          | ((with_reducible apply LR_pure); exact rfl; exact rfl; exact rfl)
          | ((with_reducible apply LR_len); exact rfl; exact rfl; exact rfl)
          | ((with_reducible apply post_seq))
          | ((with_reducible apply post_then_exit))
          | ((with_reducible apply post_block_eq))
          | ((with_reducible apply CS_ret))
          | ((with_reducible apply CS_exit))
          | ((with_reducible apply CS_cond_d); exact rfl; all_goals intro hb; all_goals try (exfalso; omega))
        all_goals first | (exfalso; contradiction) | (exfalso; omega) | (exfalso; simp at hb <;> omega) | skip
        apply ret_boolr k1; exact rfl; exact rfl; rfl
  · skip
    repeat' first
      | ((with_reducible apply (LS_callx (f := 28))); exact rfl; exact rfl; exact rfl; exact fun w hw => iEffectOf_no v0 s v1 c r v2 f w (z1.mono hw) (z2.mono hw) (z3.mono hw) (z4.mono hw) h; rintro g1 _)
      | ((with_reducible apply (LR_call (f := 30))); exact rfl; exact rfl; exact rfl; exact fun w hw => sEffectOf_no v0 s v1 c r v2 f w (z1.mono hw) (z2.mono hw) (z3.mono hw) (z4.mono hw) h)
      | ((with_reducible apply (LR_call (f := 29))); exact rfl; exact rfl; exact rfl; exact fun w hw => equalInts_ok _ _ [] w (by first | exact own_sl 0 hw rfl rfl rfl (by omega) (by omega) | exact own_sl 1 hw rfl rfl rfl (by omega) (by omega) | exact own_sl 2 hw rfl rfl rfl (by omega) (by omega)) (Sl.nil w))
      | ((with_reducible apply CS_seq))
      | ((with_reducible apply CS_region))
      | ((with_reducible apply RR_end))
      | ((with_reducible apply LR_pure); exact rfl; exact rfl; exact rfl)
      | ((with_reducible apply LR_skip); exact rfl; exact rfl)
      | ((with_reducible apply LR_load_own_agg 1); exact rfl; exact rfl; exact rfl; exact rfl; exact rfl)
      | ((with_reducible apply LR_len); exact rfl; exact rfl; exact rfl)
      | ((with_reducible apply post_seq))
      | ((with_reducible apply post_then_ret))
      | ((with_reducible apply CS_ret))
      | ((with_reducible apply CS_cond_t); exact rfl)
    all_goals first | (exfalso; contradiction) | (exfalso; omega) | (exfalso; simp at hb <;> omega) | skip
    apply ret_boolr k1; exact rfl; exact rfl; rfl
set_option maxHeartbeats 8000000 in
theorem FnEffectOfAmount_ok (v : Value) (l : List By) (w : World) (hs : Sl w v l) (hby : BytesOk l) : Calls Try.prog 6 #[v] w (Gives (.bool true) w) := by
  have hlen := hs.len
  have hml : maxLen = 9223372036854775807 := rfl
  simp only [maxLen] at hlen
  refine enter (vs := [v]) Try.func6 rfl Try.ntmps6 rfl ?_
  repeat' first
    | ((with_reducible apply LR_len_sl); exact rfl; exact rfl; exact rfl; exact hs)
    | ((with_reducible apply (LS_callr (f := 27))); exact rfl; exact rfl; exact rfl; exact fun w hw => DrawEffectOf_ok v l w (hs.mono hw) hby; rintro ⟨v0, s, v1, c, r, v2, f⟩ w1 k1 ⟨z1, z2, z3, z4⟩; dsimp only at z1 z2 z3 z4 ⊢)
    | ((with_reducible apply CS_seq))
    | ((with_reducible apply CS_region))
    | ((with_reducible apply RR_end))
    | ((with_reducible apply LR_pure); exact rfl; exact rfl; exact rfl)
    | ((with_reducible apply LR_load_own_agg 0); exact rfl; exact rfl; exact rfl; exact rfl; exact rfl)
    | ((with_reducible apply LS_alloc); exact rfl; exact rfl; exact rfl; intro _)
    | ((with_reducible apply LS_store_agg 0); exact rfl; exact rfl; exact rfl; exact rfl; exact rfl; exact rfl; exact rfl; exact rfl)
    | ((with_reducible apply post_seq))
    | ((with_reducible apply post_then_ret))
    | ((with_reducible apply CS_skip))
    | ((with_reducible apply CS_ret))
    | ((with_reducible apply CS_cond_d); exact rfl; all_goals intro hb; all_goals try (exfalso; omega))
  · apply ret_bool; exact rfl; exact rfl; rfl
  rename_i gr
  by_cases h : EfOk s c r f
  · have hel := effL_len h
    have h8 := h.len
    have hne := h.ne
    have hfl := h.left.1
    have hbl := eff_len8 h
    by_cases hck : r.kind ≠ 2 ∨ 0 < r.cap
    · skip
      repeat' first
        | ((with_reducible apply (LS_callx (f := 28))); exact rfl; exact rfl; exact rfl; exact fun w hw => iEffectOf_ok v0 s v1 c r v2 f w (z1.mono hw) (z2.mono hw) (z3.mono hw) (z4.mono hw) h; rintro g1 _)
        | ((with_reducible apply (LS_callx (f := 30))); exact rfl; exact rfl; exact rfl; exact fun w hw => sEffectOf_ok v0 s v1 c r v2 f w (z1.mono hw) (z2.mono hw) (z3.mono hw) (z4.mono hw) h; rintro g2 _)
        | ((with_reducible apply (LR_call (f := 29))); exact rfl; exact rfl; exact rfl; exact fun w hw => equalInts_ok _ _ (effL s c r f) w (by first | exact own_sl 0 hw rfl rfl hel.symm (by omega) (by omega) | exact own_sl 1 hw rfl rfl hel.symm (by omega) (by omega) | exact own_sl 2 hw rfl rfl hel.symm (by omega) (by omega) | exact own_sl 3 hw rfl rfl hel.symm (by omega) (by omega) | exact own_sl 4 hw rfl rfl hel.symm (by omega) (by omega)) (by first | exact own_sl 0 hw rfl rfl hel.symm (by omega) (by omega) | exact own_sl 1 hw rfl rfl hel.symm (by omega) (by omega) | exact own_sl 2 hw rfl rfl hel.symm (by omega) (by omega) | exact own_sl 3 hw rfl rfl hel.symm (by omega) (by omega) | exact own_sl 4 hw rfl rfl hel.symm (by omega) (by omega)))
        | ((with_reducible apply CS_seq))
        | ((with_reducible apply CS_region))
        | ((with_reducible apply RR_end))
        | ((with_reducible apply LR_pure); exact rfl; exact rfl; exact rfl)
        | ((with_reducible apply LR_skip); exact rfl; exact rfl)
        | ((with_reducible apply LR_field_own); exact rfl; exact rfl; exact rfl)
        | ((with_reducible apply LR_load_own 2); exact rfl; exact rfl; exact rfl; exact rfl; exact rfl)
        | ((with_reducible apply LR_load_own_agg 1); exact rfl; exact rfl; exact rfl; exact rfl; exact rfl)
        | ((with_reducible apply LR_load_own_agg 2); exact rfl; exact rfl; exact rfl; exact rfl; exact rfl)
        | ((with_reducible apply LR_len); exact rfl; exact rfl; exact rfl)
        | ((with_reducible apply post_seq))
        | ((with_reducible apply post_then_ret))
        | ((with_reducible apply CS_ret))
        | ((with_reducible apply CS_cond_t); exact rfl)
        | ((with_reducible apply CS_cond_d); exact rfl; all_goals intro hb; all_goals try (exfalso; omega))
        | ((with_reducible apply LR_caseg_nd); exact rfl; exact rfl; all_goals intro hb; all_goals try (exfalso; omega))
        | ((with_reducible apply LR_caseg_d); exact rfl; exact rfl; all_goals intro hb; all_goals try (exfalso; omega))
      all_goals first | (exfalso; contradiction) | (exfalso; omega) | (exfalso; simp at hb <;> omega) | skip
      all_goals (apply ret_boolr k1; exact rfl; exact rfl; rfl)
    · have hw2 := effL_amount h (by omega) (by omega)
      have hml1 := mts_len (s := s) (r := r) hfl
      have hmb : ∀ x ∈ mts s c r f, 0 ≤ x ∧ x ≤ 100000 := at_all fun k x hx => mts_bd h hx
      repeat' first
        | ((with_reducible apply (LS_callx (f := 28))); exact rfl; exact rfl; exact rfl; exact fun w hw => iEffectOf_ok v0 s v1 c r v2 f w (z1.mono hw) (z2.mono hw) (z3.mono hw) (z4.mono hw) h; rintro g1 _)
        | ((with_reducible apply (LS_callx (f := 30))); exact rfl; exact rfl; exact rfl; exact fun w hw => sEffectOf_ok v0 s v1 c r v2 f w (z1.mono hw) (z2.mono hw) (z3.mono hw) (z4.mono hw) h; rintro g2 _)
        | ((with_reducible apply (LR_call (f := 29))); exact rfl; exact rfl; exact rfl; exact fun w hw => equalInts_ok _ _ (effL s c r f) w (by first | exact own_sl 0 hw rfl rfl hel.symm (by omega) (by omega) | exact own_sl 1 hw rfl rfl hel.symm (by omega) (by omega) | exact own_sl 2 hw rfl rfl hel.symm (by omega) (by omega) | exact own_sl 3 hw rfl rfl hel.symm (by omega) (by omega) | exact own_sl 4 hw rfl rfl hel.symm (by omega) (by omega)) (by first | exact own_sl 0 hw rfl rfl hel.symm (by omega) (by omega) | exact own_sl 1 hw rfl rfl hel.symm (by omega) (by omega) | exact own_sl 2 hw rfl rfl hel.symm (by omega) (by omega) | exact own_sl 3 hw rfl rfl hel.symm (by omega) (by omega) | exact own_sl 4 hw rfl rfl hel.symm (by omega) (by omega)))
        | ((with_reducible apply CS_seq))
        | ((with_reducible apply CS_block))
        | ((with_reducible apply CS_region))
        | ((with_reducible apply RR_end))
        | ((with_reducible apply LR_pure); exact rfl; exact rfl; exact rfl)
        | ((with_reducible apply LR_field_own); exact rfl; exact rfl; exact rfl)
        | ((with_reducible apply LR_load_own 2); exact rfl; exact rfl; exact rfl; exact rfl; exact rfl)
        | ((with_reducible apply LR_load_own_agg 1); exact rfl; exact rfl; exact rfl; exact rfl; exact rfl)
        | ((with_reducible apply LR_len); exact rfl; exact rfl; exact rfl)
        | ((with_reducible apply post_seq))
        | ((with_reducible apply CS_skip))
        | ((with_reducible apply CS_cond_d); exact rfl; all_goals intro hb; all_goals try (exfalso; omega))
        | ((with_reducible apply LR_caseg_nd); exact rfl; exact rfl; all_goals intro hb; all_goals try (exfalso; omega))
        | ((with_reducible apply LR_caseg_d); exact rfl; exact rfl; all_goals intro hb; all_goals try (exfalso; omega))
      all_goals first | (exfalso; contradiction) | (exfalso; omega) | (exfalso; simp at hb <;> omega) | skip
      refine CS_loop (ι := Nat) (fun i => [(3, v0), (4, v1), (5, .pointer (some ⟨gr, 0, none⟩)), (6, v2), (7, .slice (some ⟨g1, 0, none⟩) c.length c.length), (8, .int .i64 ((mts s c r f).take i).sum), (9, .int .i64 (i : Int))]) (fun _ => Wd w1 [intE g1 c.length (effL s c r f), rbE gr r]) (fun i => i ≤ c.length) (fun i => c.length - i) 0 (by omega) ⟨rfl, rfl, rfl, rfl, rfl, rfl, rfl, trivial⟩ (fun _ hw => hw.picks [1, 1] rfl) ?_
      rintro k hk
      try dsimp only at hk ⊢
      by_cases hi : k < c.length
      · obtain ⟨l0, x, hl, hx⟩ := pair_at hfl hi
        obtain ⟨j, hj, hjl, ha, hok, hcnt⟩ := line_ok h.sc hl
        have hxb := h.at_x hx
        have hst := sum_take (mts_at (s := s) (r := r) hl hx)
        have htb := sum_take_bd hmb k
        have htl : ((mts s c r f).take k).length ≤ 8 := by simp [hml1]; omega
        by_cases hm : mnt s r l0
        · rw [mtF_yes hm] at hst
          unfold mnt at hm
          repeat' first
            | ((with_reducible apply LR_len_sl); exact rfl; exact rfl; exact rfl; exact z2)
            | ((with_reducible apply (LR_index_old (k))); exact rfl; exact rfl; exact rfl; exact rfl; exact z4; omega; exact hx; exact rfl; intro _ _)
            | ((with_reducible apply (LR_index_old (k))); exact rfl; exact rfl; exact rfl; exact rfl; exact z2; omega; exact hl; exact rfl; intro _ _)
            | ((with_reducible apply (LR_index_old (j))); exact rfl; exact rfl; exact rfl; exact rfl; exact z1; omega; exact ha; exact rfl; intro _ _)
            | ((with_reducible apply CS_seq))
            | ((with_reducible apply CS_block))
            | ((with_reducible apply CS_region))
            | ((with_reducible apply CS_regionq_wd); kernel_rfl; kernel_rfl)
            | ((with_reducible apply RR_end))
            | ((with_reducible apply LR_pure); exact rfl; exact rfl; exact rfl)
            | ((with_reducible apply LR_skip); exact rfl; exact rfl)
            | ((with_reducible apply LR_add); exact rfl; exact rfl; exact rfl; exact rfl; omega; omega)
            | ((with_reducible apply LR_field_own); exact rfl; exact rfl; exact rfl)
            | ((with_reducible apply LR_field); exact rfl; exact rfl; exact rfl)
            | ((with_reducible apply LR_load_own 1); exact rfl; exact rfl; exact rfl; exact rfl; exact rfl)
            | ((with_reducible apply LR_load_old); exact rfl; exact rfl; exact rfl; assumption; exact rfl)
            | ((with_reducible apply LR_load_old0); exact rfl; exact rfl; exact rfl; assumption; exact rfl)
            | ((with_reducible apply post_seq))
            | ((with_reducible apply post_block_n))
            | ((with_reducible apply CS_skip))
            | ((with_reducible apply CS_cond_t); exact rfl)
            | ((with_reducible apply CS_cond_d); exact rfl; all_goals intro hb; all_goals try (exfalso; omega))
            | ((with_reducible apply LR_caseg_d); exact rfl; exact rfl; all_goals intro hb; all_goals try (exfalso; omega))
          all_goals first | (exfalso; contradiction) | (exfalso; omega) | (exfalso; simp at hb <;> omega) | skip
          all_goals exact post_round (i := k) (k + 1) (by omega) (by omega) ⟨rfl, rfl, rfl, rfl, rfl, by rw [hst]; rfl, rfl, trivial⟩ (fun _ hw => hw)
        · rw [mtF_not hm, Int.add_zero] at hst
          unfold mnt at hm
          repeat' first
            | ((with_reducible apply LR_len_sl); exact rfl; exact rfl; exact rfl; exact z2)
            | ((with_reducible apply (LR_index_old (k))); exact rfl; exact rfl; exact rfl; exact rfl; exact z2; omega; exact hl; exact rfl; intro _ _)
            | ((with_reducible apply (LR_index_old (j))); exact rfl; exact rfl; exact rfl; exact rfl; exact z1; omega; exact ha; exact rfl; intro _ _)
            | ((with_reducible apply CS_seq))
            | ((with_reducible apply CS_block))
            | ((with_reducible apply CS_region))
            | ((with_reducible apply CS_regionq_wd); kernel_rfl; kernel_rfl)
            | ((with_reducible apply RR_end))
            | ((with_reducible apply LR_pure); exact rfl; exact rfl; exact rfl)
            | ((with_reducible apply LR_add); exact rfl; exact rfl; exact rfl; exact rfl; omega; omega)
            | ((with_reducible apply LR_field_own); exact rfl; exact rfl; exact rfl)
            | ((with_reducible apply LR_field); exact rfl; exact rfl; exact rfl)
            | ((with_reducible apply LR_load_own 1); exact rfl; exact rfl; exact rfl; exact rfl; exact rfl)
            | ((with_reducible apply LR_load_old); exact rfl; exact rfl; exact rfl; assumption; exact rfl)
            | ((with_reducible apply post_seq))
            | ((with_reducible apply post_block_n))
            | ((with_reducible apply CS_skip))
            | ((with_reducible apply CS_cond_d); exact rfl; all_goals intro hb; all_goals try (exfalso; omega))
            | ((with_reducible apply LR_caseg_d); exact rfl; exact rfl; all_goals intro hb; all_goals try (exfalso; omega))
          all_goals first | (exfalso; contradiction) | (exfalso; omega) | (exfalso; simp at hb <;> omega) | skip
          all_goals exact post_round (i := k) (k + 1) (by omega) (by omega) ⟨rfl, rfl, rfl, rfl, rfl, by rw [hst]; rfl, rfl, trivial⟩ (fun _ hw => hw)
      · have hta : (mts s c r f).take k = mts s c r f := List.take_of_length_le (by omega)
        rw [hta]
        repeat' first
          | ((with_reducible apply LR_len_sl); exact rfl; exact rfl; exact rfl; exact z2)
          | ((with_reducible apply (LR_call (f := 32))); exact rfl; exact rfl; exact rfl; exact fun w hw => lsum_ok _ (effL s c r f) w (by first | exact own_sl 0 hw rfl rfl hel.symm (by omega) (by omega) | exact own_sl 1 hw rfl rfl hel.symm (by omega) (by omega) | exact own_sl 2 hw rfl rfl hel.symm (by omega) (by omega) | exact own_sl 3 hw rfl rfl hel.symm (by omega) (by omega) | exact own_sl 4 hw rfl rfl hel.symm (by omega) (by omega)) hbl.1 hbl.2)
          | ((with_reducible apply CS_seq))
          | ((with_reducible apply CS_region))
          | ((with_reducible apply CS_regionq_wd); kernel_rfl; kernel_rfl)
          | ((with_reducible apply RR_end))
          | ((with_reducible apply LR_pure); exact rfl; exact rfl; exact rfl)
          | ((with_reducible apply LR_min); exact rfl; exact rfl; exact rfl; exact rfl)
          | ((with_reducible apply LR_field_own); exact rfl; exact rfl; exact rfl)
          | ((with_reducible apply LR_load_own 1); exact rfl; exact rfl; exact rfl; exact rfl; exact rfl)
          | ((with_reducible apply post_seq))
          | ((with_reducible apply post_then_exit))
          | ((with_reducible apply post_block_eq))
          | ((with_reducible apply CS_ret))
          | ((with_reducible apply CS_exit))
          | ((with_reducible apply CS_cond_d); exact rfl; all_goals intro hb; all_goals try (exfalso; omega))
        all_goals first | (exfalso; contradiction) | (exfalso; omega) | (exfalso; simp at hb <;> omega) | skip
        apply ret_boolr k1; exact rfl; exact rfl; simp [hw2]
  · skip
    repeat' first
      | ((with_reducible apply (LS_callx (f := 28))); exact rfl; exact rfl; exact rfl; exact fun w hw => iEffectOf_no v0 s v1 c r v2 f w (z1.mono hw) (z2.mono hw) (z3.mono hw) (z4.mono hw) h; rintro g1 _)
      | ((with_reducible apply (LR_call (f := 30))); exact rfl; exact rfl; exact rfl; exact fun w hw => sEffectOf_no v0 s v1 c r v2 f w (z1.mono hw) (z2.mono hw) (z3.mono hw) (z4.mono hw) h)
      | ((with_reducible apply (LR_call (f := 29))); exact rfl; exact rfl; exact rfl; exact fun w hw => equalInts_ok _ _ [] w (by first | exact own_sl 0 hw rfl rfl rfl (by omega) (by omega) | exact own_sl 1 hw rfl rfl rfl (by omega) (by omega) | exact own_sl 2 hw rfl rfl rfl (by omega) (by omega)) (Sl.nil w))
      | ((with_reducible apply CS_seq))
      | ((with_reducible apply CS_region))
      | ((with_reducible apply RR_end))
      | ((with_reducible apply LR_pure); exact rfl; exact rfl; exact rfl)
      | ((with_reducible apply LR_skip); exact rfl; exact rfl)
      | ((with_reducible apply LR_load_own_agg 1); exact rfl; exact rfl; exact rfl; exact rfl; exact rfl)
      | ((with_reducible apply LR_len); exact rfl; exact rfl; exact rfl)
      | ((with_reducible apply post_seq))
      | ((with_reducible apply post_then_ret))
      | ((with_reducible apply CS_ret))
      | ((with_reducible apply CS_cond_t); exact rfl)
    all_goals first | (exfalso; contradiction) | (exfalso; omega) | (exfalso; simp at hb <;> omega) | skip
    apply ret_boolr k1; exact rfl; exact rfl; rfl
theorem iEffectOf_same (v0 : Value) (s : List Ar) (v : Value) (c : List Ln) (r : Ru) (v2 : Value) (f : List Int) (w : World) (hs0 : Sl w v0 s) (hs : Sl w v c) (hg : ROk w r) (hs2 : Sl w v2 f) (h : EfOk s c r f) (h0 : (effL s c r f).sum ≠ 0) : Calls Try.prog 28 #[v0, v, ruV (capR r (effL s c r f).sum), v2] w
    (fun x w' => ∃ i : Nat, True ∧ x = .returned (.slice (some ⟨i, 0, none⟩) c.length c.length) ∧ Wd w [intE i c.length (effL s c r f)] w') := by
  have hsm := effL_sum h
  have := iEffectOf_ok v0 s v c (capR r (effL s c r f).sum) v2 f w hs0 hs hg hs2 (h.capR (by omega) (by omega))
  rw [effL_same h h0] at this
  exact this
set_option maxHeartbeats 8000000 in
theorem FnEffectOfCap_ok (v : Value) (l : List By) (w : World) (hs : Sl w v l) (hby : BytesOk l) : Calls Try.prog 7 #[v] w (Gives (.bool true) w) := by
  have hlen := hs.len
  have hml : maxLen = 9223372036854775807 := rfl
  simp only [maxLen] at hlen
  refine enter (vs := [v]) Try.func7 rfl Try.ntmps7 rfl ?_
  repeat' first
    | ((with_reducible apply LR_len_sl); exact rfl; exact rfl; exact rfl; exact hs)
    | ((with_reducible apply (LS_callr (f := 27))); exact rfl; exact rfl; exact rfl; exact fun w hw => DrawEffectOf_ok v l w (hs.mono hw) hby; rintro ⟨v0, s, v1, c, r, v2, f⟩ w1 k1 ⟨z1, z2, z3, z4⟩; dsimp only at z1 z2 z3 z4 ⊢)
    | ((with_reducible apply CS_seq))
    | ((with_reducible apply CS_region))
    | ((with_reducible apply RR_end))
    | ((with_reducible apply LR_pure); exact rfl; exact rfl; exact rfl)
    | ((with_reducible apply LR_load_own_agg 0); exact rfl; exact rfl; exact rfl; exact rfl; exact rfl)
    | ((with_reducible apply LS_alloc); exact rfl; exact rfl; exact rfl; intro _)
    | ((with_reducible apply LS_store_agg 0); exact rfl; exact rfl; exact rfl; exact rfl; exact rfl; exact rfl; exact rfl; exact rfl)
    | ((with_reducible apply post_seq))
    | ((with_reducible apply post_then_ret))
    | ((with_reducible apply CS_skip))
    | ((with_reducible apply CS_ret))
    | ((with_reducible apply CS_cond_d); exact rfl; all_goals intro hb; all_goals try (exfalso; omega))
  · apply ret_bool; exact rfl; exact rfl; rfl
  rename_i gr
  by_cases h : EfOk s c r f
  · have hel := effL_len h
    have h8 := h.len
    have hne := h.ne
    have hbl := eff_len8 h
    have hcp := effL_cap h
    have hsm := effL_sum h
    by_cases h0 : (effL s c r f).sum = 0
    · skip
      repeat' first
        | ((with_reducible apply (LS_callx (f := 28))); exact rfl; exact rfl; exact rfl; exact fun w hw => iEffectOf_ok v0 s v1 c r v2 f w (z1.mono hw) (z2.mono hw) (z3.mono hw) (z4.mono hw) h; rintro g1 _)
        | ((with_reducible apply (LS_callx (f := 30))); exact rfl; exact rfl; exact rfl; exact fun w hw => sEffectOf_ok v0 s v1 c r v2 f w (z1.mono hw) (z2.mono hw) (z3.mono hw) (z4.mono hw) h; rintro g2 _)
        | ((with_reducible apply (LR_call (f := 29))); exact rfl; exact rfl; exact rfl; exact fun w hw => equalInts_ok _ _ (effL s c r f) w (by first | exact own_sl 0 hw rfl rfl hel.symm (by omega) (by omega) | exact own_sl 1 hw rfl rfl hel.symm (by omega) (by omega) | exact own_sl 2 hw rfl rfl hel.symm (by omega) (by omega) | exact own_sl 3 hw rfl rfl hel.symm (by omega) (by omega) | exact own_sl 4 hw rfl rfl hel.symm (by omega) (by omega)) (by first | exact own_sl 0 hw rfl rfl hel.symm (by omega) (by omega) | exact own_sl 1 hw rfl rfl hel.symm (by omega) (by omega) | exact own_sl 2 hw rfl rfl hel.symm (by omega) (by omega) | exact own_sl 3 hw rfl rfl hel.symm (by omega) (by omega) | exact own_sl 4 hw rfl rfl hel.symm (by omega) (by omega)))
        | ((with_reducible apply (LR_call (f := 32))); exact rfl; exact rfl; exact rfl; exact fun w hw => lsum_ok _ (effL s c r f) w (by first | exact own_sl 0 hw rfl rfl hel.symm (by omega) (by omega) | exact own_sl 1 hw rfl rfl hel.symm (by omega) (by omega) | exact own_sl 2 hw rfl rfl hel.symm (by omega) (by omega) | exact own_sl 3 hw rfl rfl hel.symm (by omega) (by omega) | exact own_sl 4 hw rfl rfl hel.symm (by omega) (by omega)) hbl.1 hbl.2)
        | ((with_reducible apply CS_seq))
        | ((with_reducible apply CS_region))
        | ((with_reducible apply RR_end))
        | ((with_reducible apply LR_pure); exact rfl; exact rfl; exact rfl)
        | ((with_reducible apply LR_skip); exact rfl; exact rfl)
        | ((with_reducible apply LR_field_own); exact rfl; exact rfl; exact rfl)
        | ((with_reducible apply LR_load_own 3); exact rfl; exact rfl; exact rfl; exact rfl; exact rfl)
        | ((with_reducible apply LR_load_own_agg 1); exact rfl; exact rfl; exact rfl; exact rfl; exact rfl)
        | ((with_reducible apply LR_load_own_agg 2); exact rfl; exact rfl; exact rfl; exact rfl; exact rfl)
        | ((with_reducible apply LR_len); exact rfl; exact rfl; exact rfl)
        | ((with_reducible apply LS_alloc); exact rfl; exact rfl; exact rfl; intro _)
        | ((with_reducible apply LS_store1 0); exact rfl; exact rfl; exact rfl; exact rfl; exact rfl; exact rfl)
        | ((with_reducible apply LS_store_agg 0); exact rfl; exact rfl; exact rfl; exact rfl; exact rfl; exact rfl; exact rfl; exact rfl)
        | ((with_reducible apply post_seq))
        | ((with_reducible apply CS_skip))
        | ((with_reducible apply CS_ret))
        | ((with_reducible apply CS_cond_d); exact rfl; all_goals intro hb; all_goals try (exfalso; omega))
        | ((with_reducible apply LR_caseg_d); exact rfl; exact rfl; all_goals intro hb; all_goals try (exfalso; omega))
      all_goals first | (exfalso; contradiction) | (exfalso; omega) | (exfalso; simp at hb <;> omega) | skip
      all_goals (apply ret_boolr k1; exact rfl; exact rfl; first | rfl | (simp [h0]; done) | (simp; omega))
    · skip
      repeat' first
        | ((with_reducible apply (LS_callx (f := 30))); exact rfl; exact rfl; exact rfl; exact fun w hw => sEffectOf_ok v0 s v1 c r v2 f w (z1.mono hw) (z2.mono hw) (z3.mono hw) (z4.mono hw) h; rintro g2 _)
        | ((with_reducible apply (LR_call (f := 29))); exact rfl; exact rfl; exact rfl; exact fun w hw => equalInts_ok _ _ (effL s c r f) w (by first | exact own_sl 0 hw rfl rfl hel.symm (by omega) (by omega) | exact own_sl 1 hw rfl rfl hel.symm (by omega) (by omega) | exact own_sl 2 hw rfl rfl hel.symm (by omega) (by omega) | exact own_sl 3 hw rfl rfl hel.symm (by omega) (by omega) | exact own_sl 4 hw rfl rfl hel.symm (by omega) (by omega)) (by first | exact own_sl 0 hw rfl rfl hel.symm (by omega) (by omega) | exact own_sl 1 hw rfl rfl hel.symm (by omega) (by omega) | exact own_sl 2 hw rfl rfl hel.symm (by omega) (by omega) | exact own_sl 3 hw rfl rfl hel.symm (by omega) (by omega) | exact own_sl 4 hw rfl rfl hel.symm (by omega) (by omega)))
        | ((with_reducible apply (LR_call (f := 32))); exact rfl; exact rfl; exact rfl; exact fun w hw => lsum_ok _ (effL s c r f) w (by first | exact own_sl 0 hw rfl rfl hel.symm (by omega) (by omega) | exact own_sl 1 hw rfl rfl hel.symm (by omega) (by omega) | exact own_sl 2 hw rfl rfl hel.symm (by omega) (by omega) | exact own_sl 3 hw rfl rfl hel.symm (by omega) (by omega) | exact own_sl 4 hw rfl rfl hel.symm (by omega) (by omega)) hbl.1 hbl.2)
        | ((with_reducible apply (LS_callx (f := 28))); exact rfl; exact rfl; exact rfl; exact fun w hw => iEffectOf_ok v0 s v1 c r v2 f w (z1.mono hw) (z2.mono hw) (z3.mono hw) (z4.mono hw) h; rintro g1 _)
        | ((with_reducible apply (LS_callx (f := 28))); exact rfl; exact rfl; exact rfl; exact fun w hw => iEffectOf_same v0 s v1 c r v2 f w (z1.mono hw) (z2.mono hw) (z3.mono hw) (z4.mono hw) h h0; rintro g3 _)
        | ((with_reducible apply CS_seq))
        | ((with_reducible apply CS_region))
        | ((with_reducible apply RR_end))
        | ((with_reducible apply LR_pure); exact rfl; exact rfl; exact rfl)
        | ((with_reducible apply LR_skip); exact rfl; exact rfl)
        | ((with_reducible apply LR_field_own); exact rfl; exact rfl; exact rfl)
        | ((with_reducible apply LR_load_own 3); exact rfl; exact rfl; exact rfl; exact rfl; exact rfl)
        | ((with_reducible apply LR_load_own_agg 0); exact rfl; exact rfl; exact rfl; exact rfl; exact rfl)
        | ((with_reducible apply LR_load_own_agg 1); exact rfl; exact rfl; exact rfl; exact rfl; exact rfl)
        | ((with_reducible apply LR_load_own_agg 2); exact rfl; exact rfl; exact rfl; exact rfl; exact rfl)
        | ((with_reducible apply LR_len); exact rfl; exact rfl; exact rfl)
        | ((with_reducible apply LS_alloc); exact rfl; exact rfl; exact rfl; intro _)
        | ((with_reducible apply LS_store1 0); exact rfl; exact rfl; exact rfl; exact rfl; exact rfl; exact rfl)
        | ((with_reducible apply LS_store_agg 0); exact rfl; exact rfl; exact rfl; exact rfl; exact rfl; exact rfl; exact rfl; exact rfl)
        | ((with_reducible apply post_seq))
        | ((with_reducible apply CS_skip))
        | ((with_reducible apply CS_ret))
        | ((with_reducible apply CS_cond_d); exact rfl; all_goals intro hb; all_goals try (exfalso; omega))
        | ((with_reducible apply LR_caseg_d); exact rfl; exact rfl; all_goals intro hb; all_goals try (exfalso; omega))
      all_goals first | (exfalso; contradiction) | (exfalso; omega) | (exfalso; simp at hb <;> omega) | skip
      all_goals (apply ret_boolr k1; exact rfl; exact rfl; first | rfl | (simp; omega))
  · skip
    repeat' first
      | ((with_reducible apply (LS_callx (f := 28))); exact rfl; exact rfl; exact rfl; exact fun w hw => iEffectOf_no v0 s v1 c r v2 f w (z1.mono hw) (z2.mono hw) (z3.mono hw) (z4.mono hw) h; rintro g1 _)
      | ((with_reducible apply (LR_call (f := 30))); exact rfl; exact rfl; exact rfl; exact fun w hw => sEffectOf_no v0 s v1 c r v2 f w (z1.mono hw) (z2.mono hw) (z3.mono hw) (z4.mono hw) h)
      | ((with_reducible apply (LR_call (f := 29))); exact rfl; exact rfl; exact rfl; exact fun w hw => equalInts_ok _ _ [] w (by first | exact own_sl 0 hw rfl rfl rfl (by omega) (by omega) | exact own_sl 1 hw rfl rfl rfl (by omega) (by omega) | exact own_sl 2 hw rfl rfl rfl (by omega) (by omega)) (Sl.nil w))
      | ((with_reducible apply CS_seq))
      | ((with_reducible apply CS_region))
      | ((with_reducible apply RR_end))
      | ((with_reducible apply LR_pure); exact rfl; exact rfl; exact rfl)
      | ((with_reducible apply LR_load_own_agg 1); exact rfl; exact rfl; exact rfl; exact rfl; exact rfl)
      | ((with_reducible apply LR_len); exact rfl; exact rfl; exact rfl)
      | ((with_reducible apply post_seq))
      | ((with_reducible apply post_then_ret))
      | ((with_reducible apply CS_ret))
      | ((with_reducible apply CS_cond_t); exact rfl)
    all_goals first | (exfalso; contradiction) | (exfalso; omega) | (exfalso; simp at hb <;> omega) | skip
    apply ret_boolr k1; exact rfl; exact rfl; rfl
def grpSum (s : List Ar) (c : List Ln) (r : Ru) (f : List Int) : Nat → Int
  | 0 => 0
  | k + 1 => grpSum s c r f k + (effL s c (grpR r k) f).sum
theorem grpSum_bd {s : List Ar} {c : List Ln} {r : Ru} {f : List Int} (h : EfOk s c r f) : ∀ k : Nat, k ≤ 3 → 0 ≤ grpSum s c r f k ∧ grpSum s c r f k ≤ 800000 * k
  | 0, _ => by simp [grpSum]
  | k + 1, hk => by
    have h1 := grpSum_bd h k (by omega)
    have h2 := effL_sum (h.grpR (g := k) (by omega) (by omega))
    simp only [grpSum]; omega
theorem grpSum_all {s : List Ar} {c : List Ln} {r : Ru} {f : List Int} (h : EfOk s c r f) (hk : r.kind ≠ 2) : grpSum s c r f 3 = (effL s c (grpR r (-1)) f).sum := by
  have h1 := grp_sums (s := s) (r := r) c f h.groups
  simp only [grpSum, effL_grp hk]
  have e0 : ((0 : Nat) : Int) = 0 := rfl
  have e1 : ((0 + 1 : Nat) : Int) = 1 := rfl
  have e2 : ((0 + 1 + 1 : Nat) : Int) = 2 := rfl
  simp only [Nat.zero_add, Nat.reduceAdd] at *
  rw [show ((0 : Nat) : Int) = 0 from rfl, show ((1 : Nat) : Int) = 1 from rfl, show ((2 : Nat) : Int) = 2 from rfl]
  omega
set_option maxHeartbeats 8000000 in
theorem FnEffectOfGroup_ok (v : Value) (l : List By) (w : World) (hs : Sl w v l) (hby : BytesOk l) : Calls Try.prog 8 #[v] w (Gives (.bool true) w) := by
  have hlen := hs.len
  have hml : maxLen = 9223372036854775807 := rfl
  simp only [maxLen] at hlen
  refine enter (vs := [v]) Try.func8 rfl Try.ntmps8 rfl ?_
  repeat' first
    | ((with_reducible apply LR_len_sl); exact rfl; exact rfl; exact rfl; exact hs)
    | ((with_reducible apply (LS_callr (f := 27))); exact rfl; exact rfl; exact rfl; exact fun w hw => DrawEffectOf_ok v l w (hs.mono hw) hby; rintro ⟨v0, s, v1, c, r, v2, f⟩ w1 k1 ⟨z1, z2, z3, z4⟩; dsimp only at z1 z2 z3 z4 ⊢)
    | ((with_reducible apply CS_seq))
    | ((with_reducible apply CS_region))
    | ((with_reducible apply RR_end))
    | ((with_reducible apply LR_pure); exact rfl; exact rfl; exact rfl)
    | ((with_reducible apply LR_load_own_agg 0); exact rfl; exact rfl; exact rfl; exact rfl; exact rfl)
    | ((with_reducible apply LS_alloc); exact rfl; exact rfl; exact rfl; intro _)
    | ((with_reducible apply LS_store_agg 0); exact rfl; exact rfl; exact rfl; exact rfl; exact rfl; exact rfl; exact rfl; exact rfl)
    | ((with_reducible apply post_seq))
    | ((with_reducible apply post_then_ret))
    | ((with_reducible apply CS_skip))
    | ((with_reducible apply CS_ret))
    | ((with_reducible apply CS_cond_d); exact rfl; all_goals intro hb; all_goals try (exfalso; omega))
  · apply ret_bool; exact rfl; exact rfl; rfl
  rename_i gr
  by_cases h : EfOk s c r f
  · have hel := effL_len h
    have h8 := h.len
    have hne := h.ne
    by_cases hck : r.kind = 2
    · skip
      repeat' first
        | ((with_reducible apply (LS_callx (f := 28))); exact rfl; exact rfl; exact rfl; exact fun w hw => iEffectOf_ok v0 s v1 c r v2 f w (z1.mono hw) (z2.mono hw) (z3.mono hw) (z4.mono hw) h; rintro g1 _)
        | ((with_reducible apply (LS_callx (f := 30))); exact rfl; exact rfl; exact rfl; exact fun w hw => sEffectOf_ok v0 s v1 c r v2 f w (z1.mono hw) (z2.mono hw) (z3.mono hw) (z4.mono hw) h; rintro g2 _)
        | ((with_reducible apply (LR_call (f := 29))); exact rfl; exact rfl; exact rfl; exact fun w hw => equalInts_ok _ _ (effL s c r f) w (by first | exact own_sl 0 hw rfl rfl hel.symm (by omega) (by omega) | exact own_sl 1 hw rfl rfl hel.symm (by omega) (by omega) | exact own_sl 2 hw rfl rfl hel.symm (by omega) (by omega) | exact own_sl 3 hw rfl rfl hel.symm (by omega) (by omega) | exact own_sl 4 hw rfl rfl hel.symm (by omega) (by omega)) (by first | exact own_sl 0 hw rfl rfl hel.symm (by omega) (by omega) | exact own_sl 1 hw rfl rfl hel.symm (by omega) (by omega) | exact own_sl 2 hw rfl rfl hel.symm (by omega) (by omega) | exact own_sl 3 hw rfl rfl hel.symm (by omega) (by omega) | exact own_sl 4 hw rfl rfl hel.symm (by omega) (by omega)))
        | ((with_reducible apply CS_seq))
        | ((with_reducible apply CS_region))
        | ((with_reducible apply RR_end))
        | ((with_reducible apply LR_pure); exact rfl; exact rfl; exact rfl)
        | ((with_reducible apply LR_field_own); exact rfl; exact rfl; exact rfl)
        | ((with_reducible apply LR_load_own 2); exact rfl; exact rfl; exact rfl; exact rfl; exact rfl)
        | ((with_reducible apply LR_load_own_agg 1); exact rfl; exact rfl; exact rfl; exact rfl; exact rfl)
        | ((with_reducible apply LR_load_own_agg 2); exact rfl; exact rfl; exact rfl; exact rfl; exact rfl)
        | ((with_reducible apply LR_len); exact rfl; exact rfl; exact rfl)
        | ((with_reducible apply post_seq))
        | ((with_reducible apply post_then_ret))
        | ((with_reducible apply CS_ret))
        | ((with_reducible apply CS_cond_d); exact rfl; all_goals intro hb; all_goals try (exfalso; omega))
        | ((with_reducible apply LR_caseg_d); exact rfl; exact rfl; all_goals intro hb; all_goals try (exfalso; omega))
      all_goals first | (exfalso; contradiction) | (exfalso; omega) | (exfalso; simp at hb <;> omega) | skip
      all_goals (apply ret_boolr k1; exact rfl; exact rfl; rfl)
    · have hall := h.grpR (g := -1) (by omega) (by omega)
      have hbl3 := eff_len8 hall
      have hel3 := effL_len hall
      have hgs := grpSum_all h hck
      repeat' first
        | ((with_reducible apply (LS_callx (f := 28))); exact rfl; exact rfl; exact rfl; exact fun w hw => iEffectOf_ok v0 s v1 c r v2 f w (z1.mono hw) (z2.mono hw) (z3.mono hw) (z4.mono hw) h; rintro g1 _)
        | ((with_reducible apply (LS_callx (f := 30))); exact rfl; exact rfl; exact rfl; exact fun w hw => sEffectOf_ok v0 s v1 c r v2 f w (z1.mono hw) (z2.mono hw) (z3.mono hw) (z4.mono hw) h; rintro g2 _)
        | ((with_reducible apply (LR_call (f := 29))); exact rfl; exact rfl; exact rfl; exact fun w hw => equalInts_ok _ _ (effL s c r f) w (by first | exact own_sl 0 hw rfl rfl hel.symm (by omega) (by omega) | exact own_sl 1 hw rfl rfl hel.symm (by omega) (by omega) | exact own_sl 2 hw rfl rfl hel.symm (by omega) (by omega) | exact own_sl 3 hw rfl rfl hel.symm (by omega) (by omega) | exact own_sl 4 hw rfl rfl hel.symm (by omega) (by omega)) (by first | exact own_sl 0 hw rfl rfl hel.symm (by omega) (by omega) | exact own_sl 1 hw rfl rfl hel.symm (by omega) (by omega) | exact own_sl 2 hw rfl rfl hel.symm (by omega) (by omega) | exact own_sl 3 hw rfl rfl hel.symm (by omega) (by omega) | exact own_sl 4 hw rfl rfl hel.symm (by omega) (by omega)))
        | ((with_reducible apply CS_seq))
        | ((with_reducible apply CS_block))
        | ((with_reducible apply CS_region))
        | ((with_reducible apply RR_end))
        | ((with_reducible apply LR_pure); exact rfl; exact rfl; exact rfl)
        | ((with_reducible apply LR_field_own); exact rfl; exact rfl; exact rfl)
        | ((with_reducible apply LR_load_own 2); exact rfl; exact rfl; exact rfl; exact rfl; exact rfl)
        | ((with_reducible apply LR_load_own_agg 1); exact rfl; exact rfl; exact rfl; exact rfl; exact rfl)
        | ((with_reducible apply LR_load_own_agg 2); exact rfl; exact rfl; exact rfl; exact rfl; exact rfl)
        | ((with_reducible apply LR_len); exact rfl; exact rfl; exact rfl)
        | ((with_reducible apply LS_alloc); exact rfl; exact rfl; exact rfl; intro _)
        | ((with_reducible apply LS_store1 0); exact rfl; exact rfl; exact rfl; exact rfl; exact rfl; exact rfl)
        | ((with_reducible apply LS_store_agg 0); exact rfl; exact rfl; exact rfl; exact rfl; exact rfl; exact rfl; exact rfl; exact rfl)
        | ((with_reducible apply post_seq))
        | ((with_reducible apply CS_skip))
        | ((with_reducible apply CS_cond_d); exact rfl; all_goals intro hb; all_goals try (exfalso; omega))
        | ((with_reducible apply LR_caseg_d); exact rfl; exact rfl; all_goals intro hb; all_goals try (exfalso; omega))
      all_goals first | (exfalso; contradiction) | (exfalso; omega) | (exfalso; simp at hb <;> omega) | skip
      rename_i ga
      refine CS_loop (ι := Nat) (fun i => [(3, v0), (4, v1), (6, v2), (8, .pointer (some ⟨ga, 0, none⟩)), (9, .int .i64 (grpSum s c r f i)), (10, .int .i64 (i : Int))]) (fun _ => Wd w1 [rbE ga (grpR r (-1))]) (fun i => i ≤ 3) (fun i => 3 - i) 0 (by omega) ⟨rfl, rfl, rfl, rfl, rfl, rfl, trivial⟩ (fun _ hw => hw.picks [0] rfl) ?_
      rintro k hk
      try dsimp only at hk ⊢
      have hgb := grpSum_bd h k hk
      by_cases hi : k < 3
      · have hone := h.grpR (g := k) (by omega) (by omega)
        have hbl2 := eff_len8 hone
        have hel2 := effL_len hone
        have hsm2 := effL_sum hone
        repeat' first
          | ((with_reducible apply (LS_callx (f := 28))); exact rfl; exact rfl; exact rfl; exact fun w hw => iEffectOf_ok v0 s v1 c (grpR r (k : Int)) v2 f w (z1.mono hw) (z2.mono hw) (z3.mono hw) (z4.mono hw) hone; rintro g3 _)
          | ((with_reducible apply (LR_call (f := 32))); exact rfl; exact rfl; exact rfl; exact fun w hw => lsum_ok _ (effL s c (grpR r (k : Int)) f) w (own_sl 0 hw rfl rfl hel2.symm (by omega) (by omega)) hbl2.1 hbl2.2)
          | ((with_reducible apply CS_seq))
          | ((with_reducible apply CS_block))
          | ((with_reducible apply CS_region))
          | ((with_reducible apply RR_end))
          | ((with_reducible apply LR_pure); exact rfl; exact rfl; exact rfl)
          | ((with_reducible apply LR_add); exact rfl; exact rfl; exact rfl; exact rfl; omega; omega)
          | ((with_reducible apply LR_field_own); exact rfl; exact rfl; exact rfl)
          | ((with_reducible apply LR_load_own_agg 0); exact rfl; exact rfl; exact rfl; exact rfl; exact rfl)
          | ((with_reducible apply LS_alloc); exact rfl; exact rfl; exact rfl; intro _)
          | ((with_reducible apply LS_store1 0); exact rfl; exact rfl; exact rfl; exact rfl; exact rfl; exact rfl)
          | ((with_reducible apply LS_store_agg 0); exact rfl; exact rfl; exact rfl; exact rfl; exact rfl; exact rfl; exact rfl; exact rfl)
          | ((with_reducible apply post_seq))
          | ((with_reducible apply post_block_n))
          | ((with_reducible apply CS_skip))
          | ((with_reducible apply CS_cond_d); exact rfl; all_goals intro hb; all_goals try (exfalso; omega))
        all_goals first | (exfalso; contradiction) | (exfalso; omega) | (exfalso; simp at hb <;> omega) | skip
        exact post_round (i := k) (k + 1) (by omega) (by omega) ⟨rfl, rfl, rfl, rfl, rfl, rfl, trivial⟩ (fun _ hw => hw.picks [2] rfl)
      · have hk3 : k = 3 := by omega
        subst hk3
        repeat' first
          | ((with_reducible apply (LS_callx (f := 28))); exact rfl; exact rfl; exact rfl; exact fun w hw => iEffectOf_ok v0 s v1 c (grpR r (-1)) v2 f w (z1.mono hw) (z2.mono hw) (z3.mono hw) (z4.mono hw) hall; rintro g3 _)
          | ((with_reducible apply (LR_call (f := 32))); exact rfl; exact rfl; exact rfl; exact fun w hw => lsum_ok _ (effL s c (grpR r (-1)) f) w (own_sl 0 hw rfl rfl hel3.symm (by omega) (by omega)) hbl3.1 hbl3.2)
          | ((with_reducible apply CS_seq))
          | ((with_reducible apply CS_region))
          | ((with_reducible apply RR_end))
          | ((with_reducible apply LR_pure); exact rfl; exact rfl; exact rfl)
          | ((with_reducible apply LR_load_own_agg 0); exact rfl; exact rfl; exact rfl; exact rfl; exact rfl)
          | ((with_reducible apply post_seq))
          | ((with_reducible apply post_then_exit))
          | ((with_reducible apply post_block_eq))
          | ((with_reducible apply CS_ret))
          | ((with_reducible apply CS_exit))
          | ((with_reducible apply CS_cond_f); exact rfl)
        all_goals first | (exfalso; contradiction) | (exfalso; omega) | (exfalso; simp at hb <;> omega) | skip
        apply ret_boolr k1; exact rfl; exact rfl; simp [hgs]
  · skip
    repeat' first
      | ((with_reducible apply (LS_callx (f := 28))); exact rfl; exact rfl; exact rfl; exact fun w hw => iEffectOf_no v0 s v1 c r v2 f w (z1.mono hw) (z2.mono hw) (z3.mono hw) (z4.mono hw) h; rintro g1 _)
      | ((with_reducible apply (LR_call (f := 30))); exact rfl; exact rfl; exact rfl; exact fun w hw => sEffectOf_no v0 s v1 c r v2 f w (z1.mono hw) (z2.mono hw) (z3.mono hw) (z4.mono hw) h)
      | ((with_reducible apply (LR_call (f := 29))); exact rfl; exact rfl; exact rfl; exact fun w hw => equalInts_ok _ _ [] w (by first | exact own_sl 0 hw rfl rfl rfl (by omega) (by omega) | exact own_sl 1 hw rfl rfl rfl (by omega) (by omega) | exact own_sl 2 hw rfl rfl rfl (by omega) (by omega)) (Sl.nil w))
      | ((with_reducible apply CS_seq))
      | ((with_reducible apply CS_region))
      | ((with_reducible apply RR_end))
      | ((with_reducible apply LR_pure); exact rfl; exact rfl; exact rfl)
      | ((with_reducible apply LR_skip); exact rfl; exact rfl)
      | ((with_reducible apply LR_load_own_agg 1); exact rfl; exact rfl; exact rfl; exact rfl; exact rfl)
      | ((with_reducible apply LR_len); exact rfl; exact rfl; exact rfl)
      | ((with_reducible apply post_seq))
      | ((with_reducible apply post_then_ret))
      | ((with_reducible apply CS_ret))
      | ((with_reducible apply CS_cond_t); exact rfl)
    all_goals first | (exfalso; contradiction) | (exfalso; omega) | (exfalso; simp at hb <;> omega) | skip
    apply ret_boolr k1; exact rfl; exact rfl; rfl
set_option maxHeartbeats 8000000 in
theorem FnEffectOfNothing_ok (v : Value) (l : List By) (w : World) (hs : Sl w v l) (hby : BytesOk l) : Calls Try.prog 9 #[v] w (Gives (.bool true) w) := by
  have hlen := hs.len
  have hml : maxLen = 9223372036854775807 := rfl
  simp only [maxLen] at hlen
  refine enter (vs := [v]) Try.func9 rfl Try.ntmps9 rfl ?_
  repeat' first
    | ((with_reducible apply LR_len_sl); exact rfl; exact rfl; exact rfl; exact hs)
    | ((with_reducible apply (LS_callr (f := 27))); exact rfl; exact rfl; exact rfl; exact fun w hw => DrawEffectOf_ok v l w (hs.mono hw) hby; rintro ⟨v0, s, v1, c, r, v2, f⟩ w1 k1 ⟨z1, z2, z3, z4⟩; dsimp only at z1 z2 z3 z4 ⊢)
    | ((with_reducible apply CS_seq))
    | ((with_reducible apply CS_region))
    | ((with_reducible apply RR_end))
    | ((with_reducible apply LR_pure); exact rfl; exact rfl; exact rfl)
    | ((with_reducible apply LR_load_own_agg 0); exact rfl; exact rfl; exact rfl; exact rfl; exact rfl)
    | ((with_reducible apply LS_alloc); exact rfl; exact rfl; exact rfl; intro _)
    | ((with_reducible apply LS_store_agg 0); exact rfl; exact rfl; exact rfl; exact rfl; exact rfl; exact rfl; exact rfl; exact rfl)
    | ((with_reducible apply post_seq))
    | ((with_reducible apply post_then_ret))
    | ((with_reducible apply CS_skip))
    | ((with_reducible apply CS_ret))
    | ((with_reducible apply CS_cond_d); exact rfl; all_goals intro hb; all_goals try (exfalso; omega))
  · apply ret_bool; exact rfl; exact rfl; rfl
  rename_i gr
  by_cases h : EfOk s c r f
  · have hel := effL_len h
    have h8 := h.len
    have hne := h.ne
    have hfl := h.left.1
    have hz := h.zero
    have hbl := eff_len8 hz
    have hel2 := effL_len hz
    have hz0 := effL_zero h
    repeat' first
      | ((with_reducible apply (LS_callx (f := 28))); exact rfl; exact rfl; exact rfl; exact fun w hw => iEffectOf_ok v0 s v1 c r v2 f w (z1.mono hw) (z2.mono hw) (z3.mono hw) (z4.mono hw) h; rintro g1 _)
      | ((with_reducible apply (LS_callx (f := 30))); exact rfl; exact rfl; exact rfl; exact fun w hw => sEffectOf_ok v0 s v1 c r v2 f w (z1.mono hw) (z2.mono hw) (z3.mono hw) (z4.mono hw) h; rintro g2 _)
      | ((with_reducible apply (LR_call (f := 29))); exact rfl; exact rfl; exact rfl; exact fun w hw => equalInts_ok _ _ (effL s c r f) w (by first | exact own_sl 0 hw rfl rfl hel.symm (by omega) (by omega) | exact own_sl 1 hw rfl rfl hel.symm (by omega) (by omega) | exact own_sl 2 hw rfl rfl hel.symm (by omega) (by omega) | exact own_sl 3 hw rfl rfl hel.symm (by omega) (by omega) | exact own_sl 4 hw rfl rfl hel.symm (by omega) (by omega)) (by first | exact own_sl 0 hw rfl rfl hel.symm (by omega) (by omega) | exact own_sl 1 hw rfl rfl hel.symm (by omega) (by omega) | exact own_sl 2 hw rfl rfl hel.symm (by omega) (by omega) | exact own_sl 3 hw rfl rfl hel.symm (by omega) (by omega) | exact own_sl 4 hw rfl rfl hel.symm (by omega) (by omega)))
      | ((with_reducible apply CS_seq))
      | ((with_reducible apply CS_region))
      | ((with_reducible apply RR_end))
      | ((with_reducible apply LR_pure); exact rfl; exact rfl; exact rfl)
      | ((with_reducible apply LR_load_own_agg 1); exact rfl; exact rfl; exact rfl; exact rfl; exact rfl)
      | ((with_reducible apply LR_len); exact rfl; exact rfl; exact rfl)
      | ((with_reducible apply post_seq))
      | ((with_reducible apply CS_skip))
      | ((with_reducible apply CS_cond_d); exact rfl; all_goals intro hb; all_goals try (exfalso; omega))
    all_goals first | (exfalso; contradiction) | (exfalso; omega) | (exfalso; simp at hb <;> omega) | skip
    refine CS_regionHi (id := 7) 10 [0, 0, 0] (fun _ : Unit => [(2, .bool (decide ((effL s c r (List.replicate f.length 0)).sum = 0)))]) (fun _ => Wd w1 []) (fun _ => True) (by kernel_rfl) rfl (by rfl) ?_ ?_
    · skip
      repeat' first
        | ((with_reducible apply (RH_take 0)); exact rfl; kernel_rfl; decide +kernel; decide +kernel; (first | exact fun _ hw => hw | exact fun _ hw => hw.sub (by repeat (first | exact List.Sublist.refl _ | exact List.nil_sublist _ | apply List.Sublist.cons_cons | apply List.Sublist.cons)) | exact fun _ hw => (hw.perm (pull_perm 1 _ _ _ rfl)).sub (by repeat (first | exact List.Sublist.refl _ | exact List.nil_sublist _ | apply List.Sublist.cons_cons | apply List.Sublist.cons)) | exact fun _ hw => (hw.perm (pull_perm 2 _ _ _ rfl)).sub (by repeat (first | exact List.Sublist.refl _ | exact List.nil_sublist _ | apply List.Sublist.cons_cons | apply List.Sublist.cons)) | exact fun _ hw => (hw.perm (pull_perm 3 _ _ _ rfl)).sub (by repeat (first | exact List.Sublist.refl _ | exact List.nil_sublist _ | apply List.Sublist.cons_cons | apply List.Sublist.cons)) | exact fun _ hw => (hw.perm (pull_perm 4 _ _ _ rfl)).sub (by repeat (first | exact List.Sublist.refl _ | exact List.nil_sublist _ | apply List.Sublist.cons_cons | apply List.Sublist.cons))))
        | ((with_reducible apply (RH_take 1)); exact rfl; kernel_rfl; decide +kernel; decide +kernel; (first | exact fun _ hw => hw | exact fun _ hw => hw.sub (by repeat (first | exact List.Sublist.refl _ | exact List.nil_sublist _ | apply List.Sublist.cons_cons | apply List.Sublist.cons)) | exact fun _ hw => (hw.perm (pull_perm 1 _ _ _ rfl)).sub (by repeat (first | exact List.Sublist.refl _ | exact List.nil_sublist _ | apply List.Sublist.cons_cons | apply List.Sublist.cons)) | exact fun _ hw => (hw.perm (pull_perm 2 _ _ _ rfl)).sub (by repeat (first | exact List.Sublist.refl _ | exact List.nil_sublist _ | apply List.Sublist.cons_cons | apply List.Sublist.cons)) | exact fun _ hw => (hw.perm (pull_perm 3 _ _ _ rfl)).sub (by repeat (first | exact List.Sublist.refl _ | exact List.nil_sublist _ | apply List.Sublist.cons_cons | apply List.Sublist.cons)) | exact fun _ hw => (hw.perm (pull_perm 4 _ _ _ rfl)).sub (by repeat (first | exact List.Sublist.refl _ | exact List.nil_sublist _ | apply List.Sublist.cons_cons | apply List.Sublist.cons))))
        | ((with_reducible apply (RH_take 2)); exact rfl; kernel_rfl; decide +kernel; decide +kernel; (first | exact fun _ hw => hw | exact fun _ hw => hw.sub (by repeat (first | exact List.Sublist.refl _ | exact List.nil_sublist _ | apply List.Sublist.cons_cons | apply List.Sublist.cons)) | exact fun _ hw => (hw.perm (pull_perm 1 _ _ _ rfl)).sub (by repeat (first | exact List.Sublist.refl _ | exact List.nil_sublist _ | apply List.Sublist.cons_cons | apply List.Sublist.cons)) | exact fun _ hw => (hw.perm (pull_perm 2 _ _ _ rfl)).sub (by repeat (first | exact List.Sublist.refl _ | exact List.nil_sublist _ | apply List.Sublist.cons_cons | apply List.Sublist.cons)) | exact fun _ hw => (hw.perm (pull_perm 3 _ _ _ rfl)).sub (by repeat (first | exact List.Sublist.refl _ | exact List.nil_sublist _ | apply List.Sublist.cons_cons | apply List.Sublist.cons)) | exact fun _ hw => (hw.perm (pull_perm 4 _ _ _ rfl)).sub (by repeat (first | exact List.Sublist.refl _ | exact List.nil_sublist _ | apply List.Sublist.cons_cons | apply List.Sublist.cons))))
        | ((with_reducible apply (RH_take 3)); exact rfl; kernel_rfl; decide +kernel; decide +kernel; (first | exact fun _ hw => hw | exact fun _ hw => hw.sub (by repeat (first | exact List.Sublist.refl _ | exact List.nil_sublist _ | apply List.Sublist.cons_cons | apply List.Sublist.cons)) | exact fun _ hw => (hw.perm (pull_perm 1 _ _ _ rfl)).sub (by repeat (first | exact List.Sublist.refl _ | exact List.nil_sublist _ | apply List.Sublist.cons_cons | apply List.Sublist.cons)) | exact fun _ hw => (hw.perm (pull_perm 2 _ _ _ rfl)).sub (by repeat (first | exact List.Sublist.refl _ | exact List.nil_sublist _ | apply List.Sublist.cons_cons | apply List.Sublist.cons)) | exact fun _ hw => (hw.perm (pull_perm 3 _ _ _ rfl)).sub (by repeat (first | exact List.Sublist.refl _ | exact List.nil_sublist _ | apply List.Sublist.cons_cons | apply List.Sublist.cons)) | exact fun _ hw => (hw.perm (pull_perm 4 _ _ _ rfl)).sub (by repeat (first | exact List.Sublist.refl _ | exact List.nil_sublist _ | apply List.Sublist.cons_cons | apply List.Sublist.cons))))
        | ((with_reducible apply (RH_take 4)); exact rfl; kernel_rfl; decide +kernel; decide +kernel; (first | exact fun _ hw => hw | exact fun _ hw => hw.sub (by repeat (first | exact List.Sublist.refl _ | exact List.nil_sublist _ | apply List.Sublist.cons_cons | apply List.Sublist.cons)) | exact fun _ hw => (hw.perm (pull_perm 1 _ _ _ rfl)).sub (by repeat (first | exact List.Sublist.refl _ | exact List.nil_sublist _ | apply List.Sublist.cons_cons | apply List.Sublist.cons)) | exact fun _ hw => (hw.perm (pull_perm 2 _ _ _ rfl)).sub (by repeat (first | exact List.Sublist.refl _ | exact List.nil_sublist _ | apply List.Sublist.cons_cons | apply List.Sublist.cons)) | exact fun _ hw => (hw.perm (pull_perm 3 _ _ _ rfl)).sub (by repeat (first | exact List.Sublist.refl _ | exact List.nil_sublist _ | apply List.Sublist.cons_cons | apply List.Sublist.cons)) | exact fun _ hw => (hw.perm (pull_perm 4 _ _ _ rfl)).sub (by repeat (first | exact List.Sublist.refl _ | exact List.nil_sublist _ | apply List.Sublist.cons_cons | apply List.Sublist.cons))))
        | ((with_reducible apply (RH_take 8)); exact rfl; kernel_rfl; decide +kernel; decide +kernel; (first | exact fun _ hw => hw | exact fun _ hw => hw.sub (by repeat (first | exact List.Sublist.refl _ | exact List.nil_sublist _ | apply List.Sublist.cons_cons | apply List.Sublist.cons)) | exact fun _ hw => (hw.perm (pull_perm 1 _ _ _ rfl)).sub (by repeat (first | exact List.Sublist.refl _ | exact List.nil_sublist _ | apply List.Sublist.cons_cons | apply List.Sublist.cons)) | exact fun _ hw => (hw.perm (pull_perm 2 _ _ _ rfl)).sub (by repeat (first | exact List.Sublist.refl _ | exact List.nil_sublist _ | apply List.Sublist.cons_cons | apply List.Sublist.cons)) | exact fun _ hw => (hw.perm (pull_perm 3 _ _ _ rfl)).sub (by repeat (first | exact List.Sublist.refl _ | exact List.nil_sublist _ | apply List.Sublist.cons_cons | apply List.Sublist.cons)) | exact fun _ hw => (hw.perm (pull_perm 4 _ _ _ rfl)).sub (by repeat (first | exact List.Sublist.refl _ | exact List.nil_sublist _ | apply List.Sublist.cons_cons | apply List.Sublist.cons))))
        | ((with_reducible apply (RH_take 9)); exact rfl; kernel_rfl; decide +kernel; decide +kernel; (first | exact fun _ hw => hw | exact fun _ hw => hw.sub (by repeat (first | exact List.Sublist.refl _ | exact List.nil_sublist _ | apply List.Sublist.cons_cons | apply List.Sublist.cons)) | exact fun _ hw => (hw.perm (pull_perm 1 _ _ _ rfl)).sub (by repeat (first | exact List.Sublist.refl _ | exact List.nil_sublist _ | apply List.Sublist.cons_cons | apply List.Sublist.cons)) | exact fun _ hw => (hw.perm (pull_perm 2 _ _ _ rfl)).sub (by repeat (first | exact List.Sublist.refl _ | exact List.nil_sublist _ | apply List.Sublist.cons_cons | apply List.Sublist.cons)) | exact fun _ hw => (hw.perm (pull_perm 3 _ _ _ rfl)).sub (by repeat (first | exact List.Sublist.refl _ | exact List.nil_sublist _ | apply List.Sublist.cons_cons | apply List.Sublist.cons)) | exact fun _ hw => (hw.perm (pull_perm 4 _ _ _ rfl)).sub (by repeat (first | exact List.Sublist.refl _ | exact List.nil_sublist _ | apply List.Sublist.cons_cons | apply List.Sublist.cons))))
        | ((with_reducible apply (RH_step 5)); decide +kernel; exact rfl)
        | ((with_reducible apply (RH_step 6)); decide +kernel; exact rfl)
        | ((with_reducible apply (RH_step 7)); decide +kernel; exact rfl)
        | ((with_reducible apply RH_done); decide +kernel)
        | ((with_reducible apply post_take))
        | ((with_reducible apply post_step); (first | exact fun _ hw => hw | exact fun _ hw => hw.sub (by repeat (first | exact List.Sublist.refl _ | exact List.nil_sublist _ | apply List.Sublist.cons_cons | apply List.Sublist.cons)) | exact fun _ hw => (hw.perm (pull_perm 1 _ _ _ rfl)).sub (by repeat (first | exact List.Sublist.refl _ | exact List.nil_sublist _ | apply List.Sublist.cons_cons | apply List.Sublist.cons)) | exact fun _ hw => (hw.perm (pull_perm 2 _ _ _ rfl)).sub (by repeat (first | exact List.Sublist.refl _ | exact List.nil_sublist _ | apply List.Sublist.cons_cons | apply List.Sublist.cons)) | exact fun _ hw => (hw.perm (pull_perm 3 _ _ _ rfl)).sub (by repeat (first | exact List.Sublist.refl _ | exact List.nil_sublist _ | apply List.Sublist.cons_cons | apply List.Sublist.cons)) | exact fun _ hw => (hw.perm (pull_perm 4 _ _ _ rfl)).sub (by repeat (first | exact List.Sublist.refl _ | exact List.nil_sublist _ | apply List.Sublist.cons_cons | apply List.Sublist.cons))))
        | ((with_reducible apply LR_len_sl); exact rfl; exact rfl; exact rfl; exact z4)
        | ((with_reducible apply (LS_make f.length (0 : Int))); exact rfl; exact rfl; exact rfl; exact rfl; exact rfl; exact rfl; exact rfl; omega; (unfold maxLen; omega); intro gz)
        | ((with_reducible apply (LS_callx (f := 28))); exact rfl; exact rfl; exact rfl; exact fun w hw => iEffectOf_ok v0 s v1 c r _ (List.replicate f.length 0) w (z1.mono hw) (z2.mono hw) (z3.mono hw) (own_sl 0 hw rfl rfl (by simp) (by omega) (by omega)) hz; rintro g3 _)
        | ((with_reducible apply (LR_call (f := 32))); exact rfl; exact rfl; exact rfl; exact fun w hw => lsum_ok _ (effL s c r (List.replicate f.length 0)) w (own_sl 0 hw rfl rfl hel2.symm (by omega) (by omega)) hbl.1 hbl.2)
        | ((with_reducible apply RR_end))
        | ((with_reducible apply LR_pure); exact rfl; exact rfl; exact rfl)
        | ((with_reducible apply LR_load_own_agg 2); exact rfl; exact rfl; exact rfl; exact rfl; exact rfl)
      all_goals exact post_cut () trivial ⟨rfl, trivial⟩ (fun _ hw => hw.nil)
    · rintro _ _
      rw [hz0]
      repeat' first
        | ((with_reducible apply post_seq))
        | ((with_reducible apply CS_ret))
      apply ret_boolr k1; exact rfl; exact rfl; rfl
  · skip
    repeat' first
      | ((with_reducible apply (LS_callx (f := 28))); exact rfl; exact rfl; exact rfl; exact fun w hw => iEffectOf_no v0 s v1 c r v2 f w (z1.mono hw) (z2.mono hw) (z3.mono hw) (z4.mono hw) h; rintro g1 _)
      | ((with_reducible apply (LR_call (f := 30))); exact rfl; exact rfl; exact rfl; exact fun w hw => sEffectOf_no v0 s v1 c r v2 f w (z1.mono hw) (z2.mono hw) (z3.mono hw) (z4.mono hw) h)
      | ((with_reducible apply (LR_call (f := 29))); exact rfl; exact rfl; exact rfl; exact fun w hw => equalInts_ok _ _ [] w (by first | exact own_sl 0 hw rfl rfl rfl (by omega) (by omega) | exact own_sl 1 hw rfl rfl rfl (by omega) (by omega) | exact own_sl 2 hw rfl rfl rfl (by omega) (by omega)) (Sl.nil w))
      | ((with_reducible apply CS_seq))
      | ((with_reducible apply CS_region))
      | ((with_reducible apply RR_end))
      | ((with_reducible apply LR_pure); exact rfl; exact rfl; exact rfl)
      | ((with_reducible apply LR_load_own_agg 1); exact rfl; exact rfl; exact rfl; exact rfl; exact rfl)
      | ((with_reducible apply LR_len); exact rfl; exact rfl; exact rfl)
      | ((with_reducible apply post_seq))
      | ((with_reducible apply post_then_ret))
      | ((with_reducible apply CS_ret))
      | ((with_reducible apply CS_cond_t); exact rfl)
    all_goals first | (exfalso; contradiction) | (exfalso; omega) | (exfalso; simp at hb <;> omega) | skip
    apply ret_boolr k1; exact rfl; exact rfl; rfl
end Go.Proofs.Ytaggfcghkfkngaa
