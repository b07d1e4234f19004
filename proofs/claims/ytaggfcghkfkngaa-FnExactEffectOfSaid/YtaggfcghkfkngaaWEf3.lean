/- The walks of the program's discounts of a rule. No condition beyond those that each theorem states. -/
import Derived.Test.YtaggfcghkfkngaaWEf2
namespace Go.Proofs.Ytaggfcghkfkngaa
open Go.RowKit
attribute [local irreducible] Calls
set_option maxHeartbeats 8000000 in
theorem iEffectOf_ok (v0 : Value) (s : List Ar) (v : Value) (c : List Ln) (r : Ru) (v2 : Value) (f : List Int) (w : World) (hs0 : Sl w v0 s) (hs : Sl w v c) (hg : ROk w r) (hs2 : Sl w v2 f) (h : EfOk s c r f) : Calls Try.prog 28 #[v0, v, ruV r, v2] w
    (fun x w' => ∃ i : Nat, True ∧ x = .returned (.slice (some ⟨i, 0, none⟩) c.length c.length) ∧ Wd w [intE i c.length (effL s c r f)] w') := by
  have hml : maxLen = 9223372036854775807 := rfl
  have hlen := hs.len
  have hc8 := h.len
  have hne := h.ne
  have hfl := h.left.1
  have hml1 := mts_len (s := s) (r := r) hfl
  have hzl1 := wsZ_len (s := s) (r := r) hfl
  obtain ⟨_, _, _, hgr, hcp, _, hkv⟩ := id h.rule
  unfold kindOk at hkv
  have hsum := mts_sum h
  have hwsum := wish_sum h
  have lz : (List.replicate c.length (0 : Int)).length = c.length := by simp
  have hmz : (mts s c r f).length = (List.replicate c.length (0 : Int)).length := by omega
  have hzz : (wsZ s c r f).length = (List.replicate c.length (0 : Int)).length := by omega
  have h3 : VR r ↔ true = true := by simp [h.rule]
  have h4 : VSC s c ∧ VL s c f ↔ true = true := by simp [h.sc, h.left]
  have hwl := wish_len h
  have hwb : ∀ x ∈ wish s c r f, -1000000000 ≤ x ∧ x ≤ 1000000000 := at_all fun k x hx => by have := wish_bd h hx; omega
  have hai := apIn_wish h
  have hmb : ∀ x ∈ mts s c r f, -1000000000 ≤ x ∧ x ≤ 1000000000 := at_all fun k x hx => by have := mts_bd h hx; omega
  refine enter (vs := [v0, v, ruV r, v2]) Try.func28 rfl Try.ntmps28 rfl ?_
  repeat' first
    | ((with_reducible apply (LR_call (f := 57))); exact rfl; exact rfl; exact rfl; exact fun w hw => iValidRule_ok r w _ (hg.mono hw) h3)
    | ((with_reducible apply LR_len_sl); exact rfl; exact rfl; exact rfl; exact hs)
    | ((with_reducible apply (LR_call (f := 58))); exact rfl; exact rfl; exact rfl; exact fun w hw => leftOk_ok v0 s v c v2 f w _ (hs0.mono hw) (hs.mono hw) (hs2.mono hw) h4)
    | ((with_reducible apply (LS_make c.length (0 : Int))); exact rfl; exact rfl; exact rfl; exact rfl; exact rfl; exact rfl; exact rfl; omega; (unfold maxLen; omega); intro g1)
    | ((with_reducible apply CS_seq))
    | ((with_reducible apply CS_block))
    | ((with_reducible apply CS_region))
    | ((with_reducible apply RR_end))
    | ((with_reducible apply LR_pure); exact rfl; exact rfl; exact rfl)
    | ((with_reducible apply LR_load_own_agg 0); exact rfl; exact rfl; exact rfl; exact rfl; exact rfl)
    | ((with_reducible apply LS_box); exact rfl; exact rfl; exact rfl; exact rfl; intro _)
    | ((with_reducible apply post_seq))
    | ((with_reducible apply CS_skip))
    | ((with_reducible apply CS_cond_f); exact rfl)
    | ((with_reducible apply LR_caseg_d); exact rfl; exact rfl; all_goals intro hb; all_goals try (exfalso; omega))
  all_goals first | (exfalso; contradiction) | (exfalso; omega) | (exfalso; simp at hb <;> omega) | skip
  rename_i gr
  refine CS_loop (ι := Nat) (fun i => [(0, v0), (1, v), (3, v2), (6, .pointer (some ⟨gr, 0, none⟩)), (9, .slice (some ⟨g1, 0, none⟩) c.length c.length), (36, v), (37, .int .i64 c.length), (38, .int .i64 (i : Int))]) (fun i => Wd w [intE g1 c.length (mix (mts s c r f) (List.replicate c.length (0 : Int)) i), (rbE gr r)]) (fun i => i ≤ c.length) (fun i => c.length - i) 0 (by omega) ⟨rfl, rfl, rfl, rfl, rfl, rfl, rfl, rfl, trivial⟩ (fun _ hw => by rw [mix_zero]; exact hw) ?_
  rintro k h0
  try dsimp only at h0 ⊢
  have lm1 : (mix (mts s c r f) (List.replicate c.length (0 : Int)) k).length = c.length := by rw [mix_len (by omega)]; exact lz
  by_cases hi : k < c.length
  · obtain ⟨l, x, hl, hx⟩ := pair_at hfl hi
    obtain ⟨j, hj, hjl, ha, hok, hcnt⟩ := line_ok h.sc hl
    have hrp := rep_at hi
    have hm1 := mts_at (s := s) (r := r) hl hx
    by_cases hm : mnt s r l
    · rw [mtF_yes hm] at hm1
      have hn1 := mix_set hmz hm1
      unfold mnt at hm
      repeat' first
        | ((with_reducible apply (LR_index_old (k))); exact rfl; exact rfl; exact rfl; exact rfl; exact hs; omega; exact hl; exact rfl; intro _ _)
        | ((with_reducible apply (LR_index_old (j))); exact rfl; exact rfl; exact rfl; exact rfl; exact hs0; omega; exact ha; exact rfl; intro _ _)
        | ((with_reducible apply (LR_index_old (k))); exact rfl; exact rfl; exact rfl; exact rfl; exact hs2; omega; exact hx; exact rfl; intro _ _)
        | ((with_reducible apply (LR_index_own (k))); exact rfl; exact rfl; exact rfl; exact rfl; omega; omega)
        | ((with_reducible apply (LS_store1 1)); exact rfl; exact rfl; exact rfl; exact rfl; exact rfl; exact putF_set (mix (mts s c r f) (List.replicate c.length (0 : Int)) k) k _ (by omega))
        | ((with_reducible apply CS_seq))
        | ((with_reducible apply CS_block))
        | ((with_reducible apply CS_region))
        | ((with_reducible apply CS_regionq_wd); kernel_rfl; kernel_rfl)
        | ((with_reducible apply RR_end))
        | ((with_reducible apply LR_pure); exact rfl; exact rfl; exact rfl)
        | ((with_reducible apply LR_skip); exact rfl; exact rfl)
        | ((with_reducible apply LR_add); exact rfl; exact rfl; exact rfl; exact rfl; omega; omega)
        | ((with_reducible apply LR_field_own); exact rfl; exact rfl; exact rfl)
        | ((with_reducible apply LR_field); exact rfl; exact rfl; exact rfl)
        | ((with_reducible apply LR_load_own 0); exact rfl; exact rfl; exact rfl; exact rfl; exact rfl)
        | ((with_reducible apply LR_load_own 2); exact rfl; exact rfl; exact rfl; exact rfl; exact rfl)
        | ((with_reducible apply LR_load_old); exact rfl; exact rfl; exact rfl; assumption; exact rfl)
        | ((with_reducible apply LR_load_old0); exact rfl; exact rfl; exact rfl; assumption; exact rfl)
        | ((with_reducible apply LR_load_old_agg); exact rfl; exact rfl; exact rfl; assumption; exact rfl)
        | ((with_reducible apply LS_alloc); exact rfl; exact rfl; exact rfl; intro _)
        | ((with_reducible apply LS_store_agg 0); exact rfl; exact rfl; exact rfl; exact rfl; exact rfl; exact rfl; exact rfl; exact rfl)
        | ((with_reducible apply post_seq))
        | ((with_reducible apply post_block_n))
        | ((with_reducible apply CS_skip))
        | ((with_reducible apply CS_cond_t); exact rfl)
        | ((with_reducible apply CS_cond_d); exact rfl; all_goals intro hb; all_goals try (exfalso; omega))
        | ((with_reducible apply LR_caseg_d); exact rfl; exact rfl; all_goals intro hb; all_goals try (exfalso; omega))
      all_goals first | (exfalso; contradiction) | (exfalso; omega) | (exfalso; simp at hb <;> omega) | skip
      all_goals exact post_round (i := k) (k + 1) (by omega) (by omega) ⟨rfl, rfl, rfl, rfl, rfl, rfl, rfl, rfl, trivial⟩ (fun _ hw => by (try dsimp only); rw [← hn1]; exact hw.picks [0, 1] rfl)
    · rw [mtF_not hm] at hm1
      have hn1 := mix_same hm1 hrp
      unfold mnt at hm
      repeat' first
        | ((with_reducible apply (LR_index_old (k))); exact rfl; exact rfl; exact rfl; exact rfl; exact hs; omega; exact hl; exact rfl; intro _ _)
        | ((with_reducible apply (LR_index_old (j))); exact rfl; exact rfl; exact rfl; exact rfl; exact hs0; omega; exact ha; exact rfl; intro _ _)
        | ((with_reducible apply CS_seq))
        | ((with_reducible apply CS_block))
        | ((with_reducible apply CS_region))
        | ((with_reducible apply CS_regionq_wd); kernel_rfl; kernel_rfl)
        | ((with_reducible apply RR_end))
        | ((with_reducible apply LR_pure); exact rfl; exact rfl; exact rfl)
        | ((with_reducible apply LR_add); exact rfl; exact rfl; exact rfl; exact rfl; omega; omega)
        | ((with_reducible apply LR_field_own); exact rfl; exact rfl; exact rfl)
        | ((with_reducible apply LR_field); exact rfl; exact rfl; exact rfl)
        | ((with_reducible apply LR_load_own 0); exact rfl; exact rfl; exact rfl; exact rfl; exact rfl)
        | ((with_reducible apply LR_load_own 2); exact rfl; exact rfl; exact rfl; exact rfl; exact rfl)
        | ((with_reducible apply LR_load_old); exact rfl; exact rfl; exact rfl; assumption; exact rfl)
        | ((with_reducible apply LR_load_old_agg); exact rfl; exact rfl; exact rfl; assumption; exact rfl)
        | ((with_reducible apply LS_alloc); exact rfl; exact rfl; exact rfl; intro _)
        | ((with_reducible apply LS_store_agg 0); exact rfl; exact rfl; exact rfl; exact rfl; exact rfl; exact rfl; exact rfl; exact rfl)
        | ((with_reducible apply post_seq))
        | ((with_reducible apply post_block_n))
        | ((with_reducible apply CS_skip))
        | ((with_reducible apply CS_cond_d); exact rfl; all_goals intro hb; all_goals try (exfalso; omega))
        | ((with_reducible apply LR_caseg_d); exact rfl; exact rfl; all_goals intro hb; all_goals try (exfalso; omega))
      all_goals first | (exfalso; contradiction) | (exfalso; omega) | (exfalso; simp at hb <;> omega) | skip
      all_goals exact post_round (i := k) (k + 1) (by omega) (by omega) ⟨rfl, rfl, rfl, rfl, rfl, rfl, rfl, rfl, trivial⟩ (fun _ hw => by (try dsimp only); rw [hn1]; exact hw.picks [1, 1] rfl)
  · have hk : k = c.length := by omega
    subst hk
    rw [mix_full hmz lz.symm]
    by_cases hk2 : r.kind = 2
    · have hw2 : apL (min r.val (mts s c r f).sum) (mts s c r f) = wish s c r f := by unfold wish; rw [if_pos hk2]
      have hai2 := apIn_mts h hk2
      repeat' first
        | ((with_reducible apply LR_len_sl); exact rfl; exact rfl; exact rfl; exact hs)
        | ((with_reducible apply (LS_make c.length (0 : Int))); exact rfl; exact rfl; exact rfl; exact rfl; exact rfl; exact rfl; exact rfl; omega; (unfold maxLen; omega); intro g2)
        | ((with_reducible apply CS_seq))
        | ((with_reducible apply CS_block))
        | ((with_reducible apply CS_region))
        | ((with_reducible apply RR_end))
        | ((with_reducible apply LR_pure); exact rfl; exact rfl; exact rfl)
        | ((with_reducible apply LR_field_own); exact rfl; exact rfl; exact rfl)
        | ((with_reducible apply LR_load_own 2); exact rfl; exact rfl; exact rfl; exact rfl; exact rfl)
        | ((with_reducible apply post_seq))
        | ((with_reducible apply post_then_exit))
        | ((with_reducible apply post_block_eq))
        | ((with_reducible apply CS_exit))
        | ((with_reducible apply CS_cond_d); exact rfl; all_goals intro hb; all_goals try (exfalso; omega))
      all_goals first | (exfalso; contradiction) | (exfalso; omega) | (exfalso; simp at hb <;> omega) | skip
      refine CS_regionHi (id := 18) 8 [0, 0, 0] (fun i : Nat => [(6, .pointer (some ⟨gr, 0, none⟩)), (12, .slice (some ⟨i, 0, none⟩) (mts s c r f).length (mts s c r f).length)]) (fun i => Wd w [intE i (mts s c r f).length (apL (min r.val (mts s c r f).sum) (mts s c r f)), (rbE gr r)]) (fun i => True) (by kernel_rfl) rfl (by rfl) ?_ ?_
      · skip
        repeat' first
          | ((with_reducible apply (RH_take 0)); exact rfl; kernel_rfl; decide +kernel; decide +kernel; (first | exact fun _ hw => hw | exact fun _ hw => hw.sub (by repeat (first | exact List.Sublist.refl _ | exact List.nil_sublist _ | apply List.Sublist.cons_cons | apply List.Sublist.cons)) | exact fun _ hw => (hw.perm (pull_perm 1 _ _ _ rfl)).sub (by repeat (first | exact List.Sublist.refl _ | exact List.nil_sublist _ | apply List.Sublist.cons_cons | apply List.Sublist.cons)) | exact fun _ hw => (hw.perm (pull_perm 2 _ _ _ rfl)).sub (by repeat (first | exact List.Sublist.refl _ | exact List.nil_sublist _ | apply List.Sublist.cons_cons | apply List.Sublist.cons)) | exact fun _ hw => (hw.perm (pull_perm 3 _ _ _ rfl)).sub (by repeat (first | exact List.Sublist.refl _ | exact List.nil_sublist _ | apply List.Sublist.cons_cons | apply List.Sublist.cons)) | exact fun _ hw => (hw.perm (pull_perm 4 _ _ _ rfl)).sub (by repeat (first | exact List.Sublist.refl _ | exact List.nil_sublist _ | apply List.Sublist.cons_cons | apply List.Sublist.cons))))
          | ((with_reducible apply (RH_take 1)); exact rfl; kernel_rfl; decide +kernel; decide +kernel; (first | exact fun _ hw => hw | exact fun _ hw => hw.sub (by repeat (first | exact List.Sublist.refl _ | exact List.nil_sublist _ | apply List.Sublist.cons_cons | apply List.Sublist.cons)) | exact fun _ hw => (hw.perm (pull_perm 1 _ _ _ rfl)).sub (by repeat (first | exact List.Sublist.refl _ | exact List.nil_sublist _ | apply List.Sublist.cons_cons | apply List.Sublist.cons)) | exact fun _ hw => (hw.perm (pull_perm 2 _ _ _ rfl)).sub (by repeat (first | exact List.Sublist.refl _ | exact List.nil_sublist _ | apply List.Sublist.cons_cons | apply List.Sublist.cons)) | exact fun _ hw => (hw.perm (pull_perm 3 _ _ _ rfl)).sub (by repeat (first | exact List.Sublist.refl _ | exact List.nil_sublist _ | apply List.Sublist.cons_cons | apply List.Sublist.cons)) | exact fun _ hw => (hw.perm (pull_perm 4 _ _ _ rfl)).sub (by repeat (first | exact List.Sublist.refl _ | exact List.nil_sublist _ | apply List.Sublist.cons_cons | apply List.Sublist.cons))))
          | ((with_reducible apply (RH_take 2)); exact rfl; kernel_rfl; decide +kernel; decide +kernel; (first | exact fun _ hw => hw | exact fun _ hw => hw.sub (by repeat (first | exact List.Sublist.refl _ | exact List.nil_sublist _ | apply List.Sublist.cons_cons | apply List.Sublist.cons)) | exact fun _ hw => (hw.perm (pull_perm 1 _ _ _ rfl)).sub (by repeat (first | exact List.Sublist.refl _ | exact List.nil_sublist _ | apply List.Sublist.cons_cons | apply List.Sublist.cons)) | exact fun _ hw => (hw.perm (pull_perm 2 _ _ _ rfl)).sub (by repeat (first | exact List.Sublist.refl _ | exact List.nil_sublist _ | apply List.Sublist.cons_cons | apply List.Sublist.cons)) | exact fun _ hw => (hw.perm (pull_perm 3 _ _ _ rfl)).sub (by repeat (first | exact List.Sublist.refl _ | exact List.nil_sublist _ | apply List.Sublist.cons_cons | apply List.Sublist.cons)) | exact fun _ hw => (hw.perm (pull_perm 4 _ _ _ rfl)).sub (by repeat (first | exact List.Sublist.refl _ | exact List.nil_sublist _ | apply List.Sublist.cons_cons | apply List.Sublist.cons))))
          | ((with_reducible apply (RH_take 4)); exact rfl; kernel_rfl; decide +kernel; decide +kernel; (first | exact fun _ hw => hw | exact fun _ hw => hw.sub (by repeat (first | exact List.Sublist.refl _ | exact List.nil_sublist _ | apply List.Sublist.cons_cons | apply List.Sublist.cons)) | exact fun _ hw => (hw.perm (pull_perm 1 _ _ _ rfl)).sub (by repeat (first | exact List.Sublist.refl _ | exact List.nil_sublist _ | apply List.Sublist.cons_cons | apply List.Sublist.cons)) | exact fun _ hw => (hw.perm (pull_perm 2 _ _ _ rfl)).sub (by repeat (first | exact List.Sublist.refl _ | exact List.nil_sublist _ | apply List.Sublist.cons_cons | apply List.Sublist.cons)) | exact fun _ hw => (hw.perm (pull_perm 3 _ _ _ rfl)).sub (by repeat (first | exact List.Sublist.refl _ | exact List.nil_sublist _ | apply List.Sublist.cons_cons | apply List.Sublist.cons)) | exact fun _ hw => (hw.perm (pull_perm 4 _ _ _ rfl)).sub (by repeat (first | exact List.Sublist.refl _ | exact List.nil_sublist _ | apply List.Sublist.cons_cons | apply List.Sublist.cons))))
          | ((with_reducible apply (RH_take 5)); exact rfl; kernel_rfl; decide +kernel; decide +kernel; (first | exact fun _ hw => hw | exact fun _ hw => hw.sub (by repeat (first | exact List.Sublist.refl _ | exact List.nil_sublist _ | apply List.Sublist.cons_cons | apply List.Sublist.cons)) | exact fun _ hw => (hw.perm (pull_perm 1 _ _ _ rfl)).sub (by repeat (first | exact List.Sublist.refl _ | exact List.nil_sublist _ | apply List.Sublist.cons_cons | apply List.Sublist.cons)) | exact fun _ hw => (hw.perm (pull_perm 2 _ _ _ rfl)).sub (by repeat (first | exact List.Sublist.refl _ | exact List.nil_sublist _ | apply List.Sublist.cons_cons | apply List.Sublist.cons)) | exact fun _ hw => (hw.perm (pull_perm 3 _ _ _ rfl)).sub (by repeat (first | exact List.Sublist.refl _ | exact List.nil_sublist _ | apply List.Sublist.cons_cons | apply List.Sublist.cons)) | exact fun _ hw => (hw.perm (pull_perm 4 _ _ _ rfl)).sub (by repeat (first | exact List.Sublist.refl _ | exact List.nil_sublist _ | apply List.Sublist.cons_cons | apply List.Sublist.cons))))
          | ((with_reducible apply (RH_take 7)); exact rfl; kernel_rfl; decide +kernel; decide +kernel; (first | exact fun _ hw => hw | exact fun _ hw => hw.sub (by repeat (first | exact List.Sublist.refl _ | exact List.nil_sublist _ | apply List.Sublist.cons_cons | apply List.Sublist.cons)) | exact fun _ hw => (hw.perm (pull_perm 1 _ _ _ rfl)).sub (by repeat (first | exact List.Sublist.refl _ | exact List.nil_sublist _ | apply List.Sublist.cons_cons | apply List.Sublist.cons)) | exact fun _ hw => (hw.perm (pull_perm 2 _ _ _ rfl)).sub (by repeat (first | exact List.Sublist.refl _ | exact List.nil_sublist _ | apply List.Sublist.cons_cons | apply List.Sublist.cons)) | exact fun _ hw => (hw.perm (pull_perm 3 _ _ _ rfl)).sub (by repeat (first | exact List.Sublist.refl _ | exact List.nil_sublist _ | apply List.Sublist.cons_cons | apply List.Sublist.cons)) | exact fun _ hw => (hw.perm (pull_perm 4 _ _ _ rfl)).sub (by repeat (first | exact List.Sublist.refl _ | exact List.nil_sublist _ | apply List.Sublist.cons_cons | apply List.Sublist.cons))))
          | ((with_reducible apply (RH_step 3)); decide +kernel; exact rfl)
          | ((with_reducible apply (RH_step 6)); decide +kernel; exact rfl)
          | ((with_reducible apply RH_done); decide +kernel)
          | ((with_reducible apply post_take))
          | ((with_reducible apply post_step); (first | exact fun _ hw => hw | exact fun _ hw => hw.sub (by repeat (first | exact List.Sublist.refl _ | exact List.nil_sublist _ | apply List.Sublist.cons_cons | apply List.Sublist.cons)) | exact fun _ hw => (hw.perm (pull_perm 1 _ _ _ rfl)).sub (by repeat (first | exact List.Sublist.refl _ | exact List.nil_sublist _ | apply List.Sublist.cons_cons | apply List.Sublist.cons)) | exact fun _ hw => (hw.perm (pull_perm 2 _ _ _ rfl)).sub (by repeat (first | exact List.Sublist.refl _ | exact List.nil_sublist _ | apply List.Sublist.cons_cons | apply List.Sublist.cons)) | exact fun _ hw => (hw.perm (pull_perm 3 _ _ _ rfl)).sub (by repeat (first | exact List.Sublist.refl _ | exact List.nil_sublist _ | apply List.Sublist.cons_cons | apply List.Sublist.cons)) | exact fun _ hw => (hw.perm (pull_perm 4 _ _ _ rfl)).sub (by repeat (first | exact List.Sublist.refl _ | exact List.nil_sublist _ | apply List.Sublist.cons_cons | apply List.Sublist.cons))))
          | ((with_reducible apply (LR_call (f := 60))); exact rfl; exact rfl; exact rfl; exact fun w hw => itotal_ok _ (mts s c r f) w (own_sl 1 hw rfl rfl hml1.symm (by omega) (by omega)) hmb (by omega))
          | ((with_reducible apply (LS_callx (f := 59))); exact rfl; exact rfl; exact rfl; exact fun w hw => iApportion_ok _ _ (mts s c r f) w (own_sl 1 hw rfl rfl hml1.symm (by omega) (by omega)) hai2; rintro g3 _)
          | ((with_reducible apply RR_end))
          | ((with_reducible apply LR_pure); exact rfl; exact rfl; exact rfl)
          | ((with_reducible apply LR_min); exact rfl; exact rfl; exact rfl; exact rfl)
          | ((with_reducible apply LR_field_own); exact rfl; exact rfl; exact rfl)
          | ((with_reducible apply LR_load_own 2); exact rfl; exact rfl; exact rfl; exact rfl; exact rfl)
        all_goals exact post_cut g3 trivial ⟨rfl, rfl, trivial⟩ (fun _ hw => hw.picks [0, 2] rfl)
      · rintro g3 _
        rw [hml1, hw2]
        by_cases hcap : 0 < r.cap ∧ r.cap < (wish s c r f).sum
        · have he : effL s c r f = apL r.cap (wish s c r f) := by unfold effL; rw [if_pos hcap]
          repeat' first
            | ((with_reducible apply (LR_call (f := 60))); exact rfl; exact rfl; exact rfl; exact fun w hw => itotal_ok _ (wish s c r f) w (own_sl 0 hw rfl rfl hwl.symm (by omega) (by omega)) hwb (by omega))
            | ((with_reducible apply (LS_callx (f := 59))); exact rfl; exact rfl; exact rfl; exact fun w hw => iApportion_ok _ _ (wish s c r f) w (own_sl 0 hw rfl rfl hwl.symm (by omega) (by omega)) hai; rintro g5 _)
            | ((with_reducible apply CS_seq))
            | ((with_reducible apply CS_region))
            | ((with_reducible apply CS_regionq_wd); kernel_rfl; kernel_rfl)
            | ((with_reducible apply RR_end))
            | ((with_reducible apply LR_pure); exact rfl; exact rfl; exact rfl)
            | ((with_reducible apply LR_field_own); exact rfl; exact rfl; exact rfl)
            | ((with_reducible apply LR_load_own 1); exact rfl; exact rfl; exact rfl; exact rfl; exact rfl)
            | ((with_reducible apply post_seq))
            | ((with_reducible apply post_then_ret))
            | ((with_reducible apply post_block_n))
            | ((with_reducible apply CS_ret))
            | ((with_reducible apply CS_cond_d); exact rfl; all_goals intro hb; all_goals try (exfalso; omega))
            | ((with_reducible apply LR_caseg_nd); exact rfl; exact rfl; all_goals intro hb; all_goals try (exfalso; omega))
          all_goals first | (exfalso; contradiction) | (exfalso; omega) | (exfalso; simp at hb <;> omega) | skip
          apply post_ret1; exact rfl; exact rfl; intro w' hw'; exact ⟨g5, trivial, by rw [hwl], by rw [he, ← hwl]; exact hw'.picks [0] rfl⟩
        · have he : effL s c r f = wish s c r f := by unfold effL; rw [if_neg hcap]
          repeat' first
            | ((with_reducible apply (LR_call (f := 60))); exact rfl; exact rfl; exact rfl; exact fun w hw => itotal_ok _ (wish s c r f) w (own_sl 0 hw rfl rfl hwl.symm (by omega) (by omega)) hwb (by omega))
            | ((with_reducible apply CS_seq))
            | ((with_reducible apply CS_region))
            | ((with_reducible apply CS_regionq_wd); kernel_rfl; kernel_rfl)
            | ((with_reducible apply RR_end))
            | ((with_reducible apply LR_pure); exact rfl; exact rfl; exact rfl)
            | ((with_reducible apply LR_skip); exact rfl; exact rfl)
            | ((with_reducible apply LR_field_own); exact rfl; exact rfl; exact rfl)
            | ((with_reducible apply LR_load_own 1); exact rfl; exact rfl; exact rfl; exact rfl; exact rfl)
            | ((with_reducible apply post_seq))
            | ((with_reducible apply post_block_n))
            | ((with_reducible apply CS_skip))
            | ((with_reducible apply CS_ret))
            | ((with_reducible apply CS_cond_f); exact rfl)
            | ((with_reducible apply CS_cond_d); exact rfl; all_goals intro hb; all_goals try (exfalso; omega))
            | ((with_reducible apply LR_caseg_nd); exact rfl; exact rfl; all_goals intro hb; all_goals try (exfalso; omega))
          all_goals first | (exfalso; contradiction) | (exfalso; omega) | (exfalso; simp at hb <;> omega) | skip
          all_goals (apply post_ret1; exact rfl; exact rfl; intro w' hw'; exact ⟨g3, trivial, rfl, by rw [he]; exact hw'.picks [0] rfl⟩)
    · have hw2 : wsZ s c r f = wish s c r f := by unfold wish; rw [if_neg hk2]
      by_cases hk1 : r.kind = 1
      · skip
        repeat' first
          | ((with_reducible apply LR_len_sl); exact rfl; exact rfl; exact rfl; exact hs)
          | ((with_reducible apply (LS_make c.length (0 : Int))); exact rfl; exact rfl; exact rfl; exact rfl; exact rfl; exact rfl; exact rfl; omega; (unfold maxLen; omega); intro g2)
          | ((with_reducible apply CS_seq))
          | ((with_reducible apply CS_block))
          | ((with_reducible apply CS_region))
          | ((with_reducible apply RR_end))
          | ((with_reducible apply LR_pure); exact rfl; exact rfl; exact rfl)
          | ((with_reducible apply LR_field_own); exact rfl; exact rfl; exact rfl)
          | ((with_reducible apply LR_load_own 2); exact rfl; exact rfl; exact rfl; exact rfl; exact rfl)
          | ((with_reducible apply LR_len); exact rfl; exact rfl; exact rfl)
          | ((with_reducible apply post_seq))
          | ((with_reducible apply post_then_exit))
          | ((with_reducible apply post_block_eq))
          | ((with_reducible apply CS_exit))
          | ((with_reducible apply CS_cond_d); exact rfl; all_goals intro hb; all_goals try (exfalso; omega))
        all_goals first | (exfalso; contradiction) | (exfalso; omega) | (exfalso; simp at hb <;> omega) | skip
        refine CS_loop (ι := Nat) (fun i => [(6, .pointer (some ⟨gr, 0, none⟩)), (12, .slice (some ⟨g2, 0, none⟩) c.length c.length), (109, .slice (some ⟨g1, 0, none⟩) c.length c.length), (110, .int .i64 c.length), (111, .int .i64 (i : Int))]) (fun i => Wd w [intE g2 c.length (mix (wsZ s c r f) (List.replicate c.length (0 : Int)) i), intE g1 c.length (mts s c r f), (rbE gr r)]) (fun i => i ≤ c.length) (fun i => c.length - i) 0 (by omega) ⟨rfl, rfl, rfl, rfl, rfl, trivial⟩ (fun _ hw => by rw [mix_zero]; exact hw) ?_
        rintro k h0
        try dsimp only at h0 ⊢
        have lm2 : (mix (wsZ s c r f) (List.replicate c.length (0 : Int)) k).length = c.length := by rw [mix_len (by omega)]; exact lz
        by_cases hi : k < c.length
        · obtain ⟨l, x, hl, hx⟩ := pair_at hfl hi
          have hm1 := mts_at (s := s) (r := r) hl hx
          have hmb1 := mts_bd h hm1
          have hz1 := wsZ_at (s := s) (r := r) hl hx
          rw [wsF_one hk1] at hz1
          have hn2 := mix_set hzz hz1
          have hpr := mul_bd (a := mtF s r l x) (r := r.val) (A := 100000) (R := 1000) (by omega) (by omega) (by omega) (by omega)
          repeat' first
            | ((with_reducible apply (LR_index_own (k))); exact rfl; exact rfl; exact rfl; exact rfl; omega; omega)
            | ((with_reducible apply (LR_load_own 1)); exact rfl; exact rfl; exact rfl; exact rfl; exact nth_fld _ (k) _ 0 _ hm1 rfl)
            | ((with_reducible apply (LS_store1 0)); exact rfl; exact rfl; exact rfl; exact rfl; exact rfl; exact putF_set (mix (wsZ s c r f) (List.replicate c.length (0 : Int)) k) k _ (by omega))
            | ((with_reducible apply CS_seq))
            | ((with_reducible apply CS_block))
            | ((with_reducible apply CS_region))
            | ((with_reducible apply RR_end))
            | ((with_reducible apply LR_pure); exact rfl; exact rfl; exact rfl)
            | ((with_reducible apply LR_add); exact rfl; exact rfl; exact rfl; exact rfl; omega; omega)
            | ((with_reducible apply LR_mul); exact rfl; exact rfl; exact rfl; exact rfl; omega; omega)
            | ((with_reducible apply LR_quo); exact rfl; exact rfl; exact rfl; exact rfl; omega; omega; omega)
            | ((with_reducible apply LR_field_own); exact rfl; exact rfl; exact rfl)
            | ((with_reducible apply LR_load_own 2); exact rfl; exact rfl; exact rfl; exact rfl; exact rfl)
            | ((with_reducible apply post_seq))
            | ((with_reducible apply post_block_n))
            | ((with_reducible apply CS_skip))
            | ((with_reducible apply CS_cond_d); exact rfl; all_goals intro hb; all_goals try (exfalso; omega))
          all_goals first | (exfalso; contradiction) | (exfalso; omega) | (exfalso; simp at hb <;> omega) | skip
          all_goals exact post_round (i := k) (k + 1) (by omega) (by omega) ⟨rfl, rfl, rfl, rfl, rfl, trivial⟩ (fun _ hw => by (try dsimp only); rw [← hn2]; exact hw)
        · have hk : k = c.length := by omega
          subst hk
          rw [mix_full hzz lz.symm, hw2]
          by_cases hcap : 0 < r.cap ∧ r.cap < (wish s c r f).sum
          · have he : effL s c r f = apL r.cap (wish s c r f) := by unfold effL; rw [if_pos hcap]
            repeat' first
              | ((with_reducible apply (LR_call (f := 60))); exact rfl; exact rfl; exact rfl; exact fun w hw => itotal_ok _ (wish s c r f) w (own_sl 0 hw rfl rfl hwl.symm (by omega) (by omega)) hwb (by omega))
              | ((with_reducible apply (LS_callx (f := 59))); exact rfl; exact rfl; exact rfl; exact fun w hw => iApportion_ok _ _ (wish s c r f) w (own_sl 0 hw rfl rfl hwl.symm (by omega) (by omega)) hai; rintro g5 _)
              | ((with_reducible apply CS_seq))
              | ((with_reducible apply CS_region))
              | ((with_reducible apply CS_regionq_wd); kernel_rfl; kernel_rfl)
              | ((with_reducible apply RR_end))
              | ((with_reducible apply LR_pure); exact rfl; exact rfl; exact rfl)
              | ((with_reducible apply LR_field_own); exact rfl; exact rfl; exact rfl)
              | ((with_reducible apply LR_load_own 2); exact rfl; exact rfl; exact rfl; exact rfl; exact rfl)
              | ((with_reducible apply post_seq))
              | ((with_reducible apply post_then_ret))
              | ((with_reducible apply post_then_exit))
              | ((with_reducible apply post_block_n))
              | ((with_reducible apply post_block_eq))
              | ((with_reducible apply CS_ret))
              | ((with_reducible apply CS_exit))
              | ((with_reducible apply CS_cond_d); exact rfl; all_goals intro hb; all_goals try (exfalso; omega))
              | ((with_reducible apply LR_caseg_nd); exact rfl; exact rfl; all_goals intro hb; all_goals try (exfalso; omega))
            all_goals first | (exfalso; contradiction) | (exfalso; omega) | (exfalso; simp at hb <;> omega) | skip
            apply post_ret1; exact rfl; exact rfl; intro w' hw'; exact ⟨g5, trivial, by rw [hwl], by rw [he, ← hwl]; exact hw'.picks [0] rfl⟩
          · have he : effL s c r f = wish s c r f := by unfold effL; rw [if_neg hcap]
            repeat' first
              | ((with_reducible apply (LR_call (f := 60))); exact rfl; exact rfl; exact rfl; exact fun w hw => itotal_ok _ (wish s c r f) w (own_sl 0 hw rfl rfl hwl.symm (by omega) (by omega)) hwb (by omega))
              | ((with_reducible apply CS_seq))
              | ((with_reducible apply CS_region))
              | ((with_reducible apply CS_regionq_wd); kernel_rfl; kernel_rfl)
              | ((with_reducible apply RR_end))
              | ((with_reducible apply LR_pure); exact rfl; exact rfl; exact rfl)
              | ((with_reducible apply LR_skip); exact rfl; exact rfl)
              | ((with_reducible apply LR_field_own); exact rfl; exact rfl; exact rfl)
              | ((with_reducible apply LR_load_own 2); exact rfl; exact rfl; exact rfl; exact rfl; exact rfl)
              | ((with_reducible apply post_seq))
              | ((with_reducible apply post_then_exit))
              | ((with_reducible apply post_block_n))
              | ((with_reducible apply post_block_eq))
              | ((with_reducible apply CS_skip))
              | ((with_reducible apply CS_ret))
              | ((with_reducible apply CS_exit))
              | ((with_reducible apply CS_cond_f); exact rfl)
              | ((with_reducible apply CS_cond_d); exact rfl; all_goals intro hb; all_goals try (exfalso; omega))
              | ((with_reducible apply LR_caseg_nd); exact rfl; exact rfl; all_goals intro hb; all_goals try (exfalso; omega))
            all_goals first | (exfalso; contradiction) | (exfalso; omega) | (exfalso; simp at hb <;> omega) | skip
            all_goals (apply post_ret1; exact rfl; exact rfl; intro w' hw'; exact ⟨g2, trivial, rfl, by rw [he]; exact hw'.picks [0] rfl⟩)
      · have hk3 : r.kind = 3 := by omega
        repeat' first
          | ((with_reducible apply LR_len_sl); exact rfl; exact rfl; exact rfl; exact hs)
          | ((with_reducible apply (LS_make c.length (0 : Int))); exact rfl; exact rfl; exact rfl; exact rfl; exact rfl; exact rfl; exact rfl; omega; (unfold maxLen; omega); intro g2)
          | ((with_reducible apply CS_seq))
          | ((with_reducible apply CS_block))
          | ((with_reducible apply CS_region))
          | ((with_reducible apply RR_end))
          | ((with_reducible apply LR_pure); exact rfl; exact rfl; exact rfl)
          | ((with_reducible apply LR_field_own); exact rfl; exact rfl; exact rfl)
          | ((with_reducible apply LR_load_own 2); exact rfl; exact rfl; exact rfl; exact rfl; exact rfl)
          | ((with_reducible apply post_seq))
          | ((with_reducible apply post_then_exit))
          | ((with_reducible apply post_block_eq))
          | ((with_reducible apply CS_exit))
          | ((with_reducible apply CS_cond_d); exact rfl; all_goals intro hb; all_goals try (exfalso; omega))
        all_goals first | (exfalso; contradiction) | (exfalso; omega) | (exfalso; simp at hb <;> omega) | skip
        refine CS_loop (ι := Nat) (fun i => [(0, v0), (6, .pointer (some ⟨gr, 0, none⟩)), (9, .slice (some ⟨g1, 0, none⟩) c.length c.length), (12, .slice (some ⟨g2, 0, none⟩) c.length c.length), (70, v), (71, .int .i64 c.length), (72, .int .i64 (i : Int))]) (fun i => Wd w [intE g2 c.length (mix (wsZ s c r f) (List.replicate c.length (0 : Int)) i), intE g1 c.length (mts s c r f), (rbE gr r)]) (fun i => i ≤ c.length) (fun i => c.length - i) 0 (by omega) ⟨rfl, rfl, rfl, rfl, rfl, rfl, rfl, trivial⟩ (fun _ hw => by rw [mix_zero]; exact hw) ?_
        rintro k h0
        try dsimp only at h0 ⊢
        have lm2 : (mix (wsZ s c r f) (List.replicate c.length (0 : Int)) k).length = c.length := by rw [mix_len (by omega)]; exact lz
        by_cases hi : k < c.length
        · obtain ⟨l, x, hl, hx⟩ := pair_at hfl hi
          obtain ⟨j, hj, hjl, ha, hok, hcnt⟩ := line_ok h.sc hl
          have hfb := free_bd (r := r) (l := l) (p := (arOf s l.art).price) (by omega) hcnt.1 hcnt.2 (by unfold arOk at hok; omega) (by unfold arOk at hok; omega)
          have hm1 := mts_at (s := s) (r := r) hl hx
          have hz1 := wsZ_at (s := s) (r := r) hl hx
          rw [wsF_three hk3 hfb.2.2.1] at hz1
          have hn2 := mix_set hzz hz1
          repeat' first
            | ((with_reducible apply (LR_index_old (k))); exact rfl; exact rfl; exact rfl; exact rfl; exact hs; omega; exact hl; exact rfl; intro _ _)
            | ((with_reducible apply CS_seq))
            | ((with_reducible apply CS_block))
            | ((with_reducible apply CS_region))
            | ((with_reducible apply RR_end))
            | ((with_reducible apply LR_pure); exact rfl; exact rfl; exact rfl)
            | ((with_reducible apply LR_load_old_agg); exact rfl; exact rfl; exact rfl; assumption; exact rfl)
            | ((with_reducible apply LS_alloc); exact rfl; exact rfl; exact rfl; intro _)
            | ((with_reducible apply LS_store_agg 0); exact rfl; exact rfl; exact rfl; exact rfl; exact rfl; exact rfl; exact rfl; exact rfl)
            | ((with_reducible apply post_seq))
            | ((with_reducible apply CS_skip))
            | ((with_reducible apply CS_cond_d); exact rfl; all_goals intro hb; all_goals try (exfalso; omega))
          rename_i gl
          refine CS_regionHi (id := 15) 21 [0, 1, 1] (fun i : Unit => [(0, v0), (6, .pointer (some ⟨gr, 0, none⟩)), (9, .slice (some ⟨g1, 0, none⟩) c.length c.length), (12, .slice (some ⟨g2, 0, none⟩) c.length c.length), (70, v), (71, .int .i64 c.length), (72, .int .i64 (k : Int))]) (fun i => Wd w [intE g2 c.length (mix (wsZ s c r f) (List.replicate c.length (0 : Int)) (k + 1)), intE g1 c.length (mts s c r f), (rbE gr r)]) (fun i => True) (by kernel_rfl) rfl (by rfl) ?_ ?_
          · skip
            repeat' first
              | ((with_reducible apply (RH_take 0)); exact rfl; kernel_rfl; decide +kernel; decide +kernel; (first | exact fun _ hw => hw | exact fun _ hw => hw.sub (by repeat (first | exact List.Sublist.refl _ | exact List.nil_sublist _ | apply List.Sublist.cons_cons | apply List.Sublist.cons)) | exact fun _ hw => (hw.perm (pull_perm 1 _ _ _ rfl)).sub (by repeat (first | exact List.Sublist.refl _ | exact List.nil_sublist _ | apply List.Sublist.cons_cons | apply List.Sublist.cons)) | exact fun _ hw => (hw.perm (pull_perm 2 _ _ _ rfl)).sub (by repeat (first | exact List.Sublist.refl _ | exact List.nil_sublist _ | apply List.Sublist.cons_cons | apply List.Sublist.cons)) | exact fun _ hw => (hw.perm (pull_perm 3 _ _ _ rfl)).sub (by repeat (first | exact List.Sublist.refl _ | exact List.nil_sublist _ | apply List.Sublist.cons_cons | apply List.Sublist.cons)) | exact fun _ hw => (hw.perm (pull_perm 4 _ _ _ rfl)).sub (by repeat (first | exact List.Sublist.refl _ | exact List.nil_sublist _ | apply List.Sublist.cons_cons | apply List.Sublist.cons))))
              | ((with_reducible apply (RH_take 1)); exact rfl; kernel_rfl; decide +kernel; decide +kernel; (first | exact fun _ hw => hw | exact fun _ hw => hw.sub (by repeat (first | exact List.Sublist.refl _ | exact List.nil_sublist _ | apply List.Sublist.cons_cons | apply List.Sublist.cons)) | exact fun _ hw => (hw.perm (pull_perm 1 _ _ _ rfl)).sub (by repeat (first | exact List.Sublist.refl _ | exact List.nil_sublist _ | apply List.Sublist.cons_cons | apply List.Sublist.cons)) | exact fun _ hw => (hw.perm (pull_perm 2 _ _ _ rfl)).sub (by repeat (first | exact List.Sublist.refl _ | exact List.nil_sublist _ | apply List.Sublist.cons_cons | apply List.Sublist.cons)) | exact fun _ hw => (hw.perm (pull_perm 3 _ _ _ rfl)).sub (by repeat (first | exact List.Sublist.refl _ | exact List.nil_sublist _ | apply List.Sublist.cons_cons | apply List.Sublist.cons)) | exact fun _ hw => (hw.perm (pull_perm 4 _ _ _ rfl)).sub (by repeat (first | exact List.Sublist.refl _ | exact List.nil_sublist _ | apply List.Sublist.cons_cons | apply List.Sublist.cons))))
              | ((with_reducible apply (RH_take 2)); exact rfl; kernel_rfl; decide +kernel; decide +kernel; (first | exact fun _ hw => hw | exact fun _ hw => hw.sub (by repeat (first | exact List.Sublist.refl _ | exact List.nil_sublist _ | apply List.Sublist.cons_cons | apply List.Sublist.cons)) | exact fun _ hw => (hw.perm (pull_perm 1 _ _ _ rfl)).sub (by repeat (first | exact List.Sublist.refl _ | exact List.nil_sublist _ | apply List.Sublist.cons_cons | apply List.Sublist.cons)) | exact fun _ hw => (hw.perm (pull_perm 2 _ _ _ rfl)).sub (by repeat (first | exact List.Sublist.refl _ | exact List.nil_sublist _ | apply List.Sublist.cons_cons | apply List.Sublist.cons)) | exact fun _ hw => (hw.perm (pull_perm 3 _ _ _ rfl)).sub (by repeat (first | exact List.Sublist.refl _ | exact List.nil_sublist _ | apply List.Sublist.cons_cons | apply List.Sublist.cons)) | exact fun _ hw => (hw.perm (pull_perm 4 _ _ _ rfl)).sub (by repeat (first | exact List.Sublist.refl _ | exact List.nil_sublist _ | apply List.Sublist.cons_cons | apply List.Sublist.cons))))
              | ((with_reducible apply (RH_take 3)); exact rfl; kernel_rfl; decide +kernel; decide +kernel; (first | exact fun _ hw => hw | exact fun _ hw => hw.sub (by repeat (first | exact List.Sublist.refl _ | exact List.nil_sublist _ | apply List.Sublist.cons_cons | apply List.Sublist.cons)) | exact fun _ hw => (hw.perm (pull_perm 1 _ _ _ rfl)).sub (by repeat (first | exact List.Sublist.refl _ | exact List.nil_sublist _ | apply List.Sublist.cons_cons | apply List.Sublist.cons)) | exact fun _ hw => (hw.perm (pull_perm 2 _ _ _ rfl)).sub (by repeat (first | exact List.Sublist.refl _ | exact List.nil_sublist _ | apply List.Sublist.cons_cons | apply List.Sublist.cons)) | exact fun _ hw => (hw.perm (pull_perm 3 _ _ _ rfl)).sub (by repeat (first | exact List.Sublist.refl _ | exact List.nil_sublist _ | apply List.Sublist.cons_cons | apply List.Sublist.cons)) | exact fun _ hw => (hw.perm (pull_perm 4 _ _ _ rfl)).sub (by repeat (first | exact List.Sublist.refl _ | exact List.nil_sublist _ | apply List.Sublist.cons_cons | apply List.Sublist.cons))))
              | ((with_reducible apply (RH_take 4)); exact rfl; kernel_rfl; decide +kernel; decide +kernel; (first | exact fun _ hw => hw | exact fun _ hw => hw.sub (by repeat (first | exact List.Sublist.refl _ | exact List.nil_sublist _ | apply List.Sublist.cons_cons | apply List.Sublist.cons)) | exact fun _ hw => (hw.perm (pull_perm 1 _ _ _ rfl)).sub (by repeat (first | exact List.Sublist.refl _ | exact List.nil_sublist _ | apply List.Sublist.cons_cons | apply List.Sublist.cons)) | exact fun _ hw => (hw.perm (pull_perm 2 _ _ _ rfl)).sub (by repeat (first | exact List.Sublist.refl _ | exact List.nil_sublist _ | apply List.Sublist.cons_cons | apply List.Sublist.cons)) | exact fun _ hw => (hw.perm (pull_perm 3 _ _ _ rfl)).sub (by repeat (first | exact List.Sublist.refl _ | exact List.nil_sublist _ | apply List.Sublist.cons_cons | apply List.Sublist.cons)) | exact fun _ hw => (hw.perm (pull_perm 4 _ _ _ rfl)).sub (by repeat (first | exact List.Sublist.refl _ | exact List.nil_sublist _ | apply List.Sublist.cons_cons | apply List.Sublist.cons))))
              | ((with_reducible apply (RH_take 5)); exact rfl; kernel_rfl; decide +kernel; decide +kernel; (first | exact fun _ hw => hw | exact fun _ hw => hw.sub (by repeat (first | exact List.Sublist.refl _ | exact List.nil_sublist _ | apply List.Sublist.cons_cons | apply List.Sublist.cons)) | exact fun _ hw => (hw.perm (pull_perm 1 _ _ _ rfl)).sub (by repeat (first | exact List.Sublist.refl _ | exact List.nil_sublist _ | apply List.Sublist.cons_cons | apply List.Sublist.cons)) | exact fun _ hw => (hw.perm (pull_perm 2 _ _ _ rfl)).sub (by repeat (first | exact List.Sublist.refl _ | exact List.nil_sublist _ | apply List.Sublist.cons_cons | apply List.Sublist.cons)) | exact fun _ hw => (hw.perm (pull_perm 3 _ _ _ rfl)).sub (by repeat (first | exact List.Sublist.refl _ | exact List.nil_sublist _ | apply List.Sublist.cons_cons | apply List.Sublist.cons)) | exact fun _ hw => (hw.perm (pull_perm 4 _ _ _ rfl)).sub (by repeat (first | exact List.Sublist.refl _ | exact List.nil_sublist _ | apply List.Sublist.cons_cons | apply List.Sublist.cons))))
              | ((with_reducible apply (RH_take 6)); exact rfl; kernel_rfl; decide +kernel; decide +kernel; (first | exact fun _ hw => hw | exact fun _ hw => hw.sub (by repeat (first | exact List.Sublist.refl _ | exact List.nil_sublist _ | apply List.Sublist.cons_cons | apply List.Sublist.cons)) | exact fun _ hw => (hw.perm (pull_perm 1 _ _ _ rfl)).sub (by repeat (first | exact List.Sublist.refl _ | exact List.nil_sublist _ | apply List.Sublist.cons_cons | apply List.Sublist.cons)) | exact fun _ hw => (hw.perm (pull_perm 2 _ _ _ rfl)).sub (by repeat (first | exact List.Sublist.refl _ | exact List.nil_sublist _ | apply List.Sublist.cons_cons | apply List.Sublist.cons)) | exact fun _ hw => (hw.perm (pull_perm 3 _ _ _ rfl)).sub (by repeat (first | exact List.Sublist.refl _ | exact List.nil_sublist _ | apply List.Sublist.cons_cons | apply List.Sublist.cons)) | exact fun _ hw => (hw.perm (pull_perm 4 _ _ _ rfl)).sub (by repeat (first | exact List.Sublist.refl _ | exact List.nil_sublist _ | apply List.Sublist.cons_cons | apply List.Sublist.cons))))
              | ((with_reducible apply (RH_take 7)); exact rfl; kernel_rfl; decide +kernel; decide +kernel; (first | exact fun _ hw => hw | exact fun _ hw => hw.sub (by repeat (first | exact List.Sublist.refl _ | exact List.nil_sublist _ | apply List.Sublist.cons_cons | apply List.Sublist.cons)) | exact fun _ hw => (hw.perm (pull_perm 1 _ _ _ rfl)).sub (by repeat (first | exact List.Sublist.refl _ | exact List.nil_sublist _ | apply List.Sublist.cons_cons | apply List.Sublist.cons)) | exact fun _ hw => (hw.perm (pull_perm 2 _ _ _ rfl)).sub (by repeat (first | exact List.Sublist.refl _ | exact List.nil_sublist _ | apply List.Sublist.cons_cons | apply List.Sublist.cons)) | exact fun _ hw => (hw.perm (pull_perm 3 _ _ _ rfl)).sub (by repeat (first | exact List.Sublist.refl _ | exact List.nil_sublist _ | apply List.Sublist.cons_cons | apply List.Sublist.cons)) | exact fun _ hw => (hw.perm (pull_perm 4 _ _ _ rfl)).sub (by repeat (first | exact List.Sublist.refl _ | exact List.nil_sublist _ | apply List.Sublist.cons_cons | apply List.Sublist.cons))))
              | ((with_reducible apply (RH_take 8)); exact rfl; kernel_rfl; decide +kernel; decide +kernel; (first | exact fun _ hw => hw | exact fun _ hw => hw.sub (by repeat (first | exact List.Sublist.refl _ | exact List.nil_sublist _ | apply List.Sublist.cons_cons | apply List.Sublist.cons)) | exact fun _ hw => (hw.perm (pull_perm 1 _ _ _ rfl)).sub (by repeat (first | exact List.Sublist.refl _ | exact List.nil_sublist _ | apply List.Sublist.cons_cons | apply List.Sublist.cons)) | exact fun _ hw => (hw.perm (pull_perm 2 _ _ _ rfl)).sub (by repeat (first | exact List.Sublist.refl _ | exact List.nil_sublist _ | apply List.Sublist.cons_cons | apply List.Sublist.cons)) | exact fun _ hw => (hw.perm (pull_perm 3 _ _ _ rfl)).sub (by repeat (first | exact List.Sublist.refl _ | exact List.nil_sublist _ | apply List.Sublist.cons_cons | apply List.Sublist.cons)) | exact fun _ hw => (hw.perm (pull_perm 4 _ _ _ rfl)).sub (by repeat (first | exact List.Sublist.refl _ | exact List.nil_sublist _ | apply List.Sublist.cons_cons | apply List.Sublist.cons))))
              | ((with_reducible apply (RH_take 9)); exact rfl; kernel_rfl; decide +kernel; decide +kernel; (first | exact fun _ hw => hw | exact fun _ hw => hw.sub (by repeat (first | exact List.Sublist.refl _ | exact List.nil_sublist _ | apply List.Sublist.cons_cons | apply List.Sublist.cons)) | exact fun _ hw => (hw.perm (pull_perm 1 _ _ _ rfl)).sub (by repeat (first | exact List.Sublist.refl _ | exact List.nil_sublist _ | apply List.Sublist.cons_cons | apply List.Sublist.cons)) | exact fun _ hw => (hw.perm (pull_perm 2 _ _ _ rfl)).sub (by repeat (first | exact List.Sublist.refl _ | exact List.nil_sublist _ | apply List.Sublist.cons_cons | apply List.Sublist.cons)) | exact fun _ hw => (hw.perm (pull_perm 3 _ _ _ rfl)).sub (by repeat (first | exact List.Sublist.refl _ | exact List.nil_sublist _ | apply List.Sublist.cons_cons | apply List.Sublist.cons)) | exact fun _ hw => (hw.perm (pull_perm 4 _ _ _ rfl)).sub (by repeat (first | exact List.Sublist.refl _ | exact List.nil_sublist _ | apply List.Sublist.cons_cons | apply List.Sublist.cons))))
              | ((with_reducible apply (RH_take 10)); exact rfl; kernel_rfl; decide +kernel; decide +kernel; (first | exact fun _ hw => hw | exact fun _ hw => hw.sub (by repeat (first | exact List.Sublist.refl _ | exact List.nil_sublist _ | apply List.Sublist.cons_cons | apply List.Sublist.cons)) | exact fun _ hw => (hw.perm (pull_perm 1 _ _ _ rfl)).sub (by repeat (first | exact List.Sublist.refl _ | exact List.nil_sublist _ | apply List.Sublist.cons_cons | apply List.Sublist.cons)) | exact fun _ hw => (hw.perm (pull_perm 2 _ _ _ rfl)).sub (by repeat (first | exact List.Sublist.refl _ | exact List.nil_sublist _ | apply List.Sublist.cons_cons | apply List.Sublist.cons)) | exact fun _ hw => (hw.perm (pull_perm 3 _ _ _ rfl)).sub (by repeat (first | exact List.Sublist.refl _ | exact List.nil_sublist _ | apply List.Sublist.cons_cons | apply List.Sublist.cons)) | exact fun _ hw => (hw.perm (pull_perm 4 _ _ _ rfl)).sub (by repeat (first | exact List.Sublist.refl _ | exact List.nil_sublist _ | apply List.Sublist.cons_cons | apply List.Sublist.cons))))
              | ((with_reducible apply (RH_take 11)); exact rfl; kernel_rfl; decide +kernel; decide +kernel; (first | exact fun _ hw => hw | exact fun _ hw => hw.sub (by repeat (first | exact List.Sublist.refl _ | exact List.nil_sublist _ | apply List.Sublist.cons_cons | apply List.Sublist.cons)) | exact fun _ hw => (hw.perm (pull_perm 1 _ _ _ rfl)).sub (by repeat (first | exact List.Sublist.refl _ | exact List.nil_sublist _ | apply List.Sublist.cons_cons | apply List.Sublist.cons)) | exact fun _ hw => (hw.perm (pull_perm 2 _ _ _ rfl)).sub (by repeat (first | exact List.Sublist.refl _ | exact List.nil_sublist _ | apply List.Sublist.cons_cons | apply List.Sublist.cons)) | exact fun _ hw => (hw.perm (pull_perm 3 _ _ _ rfl)).sub (by repeat (first | exact List.Sublist.refl _ | exact List.nil_sublist _ | apply List.Sublist.cons_cons | apply List.Sublist.cons)) | exact fun _ hw => (hw.perm (pull_perm 4 _ _ _ rfl)).sub (by repeat (first | exact List.Sublist.refl _ | exact List.nil_sublist _ | apply List.Sublist.cons_cons | apply List.Sublist.cons))))
              | ((with_reducible apply (RH_take 12)); exact rfl; kernel_rfl; decide +kernel; decide +kernel; (first | exact fun _ hw => hw | exact fun _ hw => hw.sub (by repeat (first | exact List.Sublist.refl _ | exact List.nil_sublist _ | apply List.Sublist.cons_cons | apply List.Sublist.cons)) | exact fun _ hw => (hw.perm (pull_perm 1 _ _ _ rfl)).sub (by repeat (first | exact List.Sublist.refl _ | exact List.nil_sublist _ | apply List.Sublist.cons_cons | apply List.Sublist.cons)) | exact fun _ hw => (hw.perm (pull_perm 2 _ _ _ rfl)).sub (by repeat (first | exact List.Sublist.refl _ | exact List.nil_sublist _ | apply List.Sublist.cons_cons | apply List.Sublist.cons)) | exact fun _ hw => (hw.perm (pull_perm 3 _ _ _ rfl)).sub (by repeat (first | exact List.Sublist.refl _ | exact List.nil_sublist _ | apply List.Sublist.cons_cons | apply List.Sublist.cons)) | exact fun _ hw => (hw.perm (pull_perm 4 _ _ _ rfl)).sub (by repeat (first | exact List.Sublist.refl _ | exact List.nil_sublist _ | apply List.Sublist.cons_cons | apply List.Sublist.cons))))
              | ((with_reducible apply (RH_take 13)); exact rfl; kernel_rfl; decide +kernel; decide +kernel; (first | exact fun _ hw => hw | exact fun _ hw => hw.sub (by repeat (first | exact List.Sublist.refl _ | exact List.nil_sublist _ | apply List.Sublist.cons_cons | apply List.Sublist.cons)) | exact fun _ hw => (hw.perm (pull_perm 1 _ _ _ rfl)).sub (by repeat (first | exact List.Sublist.refl _ | exact List.nil_sublist _ | apply List.Sublist.cons_cons | apply List.Sublist.cons)) | exact fun _ hw => (hw.perm (pull_perm 2 _ _ _ rfl)).sub (by repeat (first | exact List.Sublist.refl _ | exact List.nil_sublist _ | apply List.Sublist.cons_cons | apply List.Sublist.cons)) | exact fun _ hw => (hw.perm (pull_perm 3 _ _ _ rfl)).sub (by repeat (first | exact List.Sublist.refl _ | exact List.nil_sublist _ | apply List.Sublist.cons_cons | apply List.Sublist.cons)) | exact fun _ hw => (hw.perm (pull_perm 4 _ _ _ rfl)).sub (by repeat (first | exact List.Sublist.refl _ | exact List.nil_sublist _ | apply List.Sublist.cons_cons | apply List.Sublist.cons))))
              | ((with_reducible apply (RH_take 14)); exact rfl; kernel_rfl; decide +kernel; decide +kernel; (first | exact fun _ hw => hw | exact fun _ hw => hw.sub (by repeat (first | exact List.Sublist.refl _ | exact List.nil_sublist _ | apply List.Sublist.cons_cons | apply List.Sublist.cons)) | exact fun _ hw => (hw.perm (pull_perm 1 _ _ _ rfl)).sub (by repeat (first | exact List.Sublist.refl _ | exact List.nil_sublist _ | apply List.Sublist.cons_cons | apply List.Sublist.cons)) | exact fun _ hw => (hw.perm (pull_perm 2 _ _ _ rfl)).sub (by repeat (first | exact List.Sublist.refl _ | exact List.nil_sublist _ | apply List.Sublist.cons_cons | apply List.Sublist.cons)) | exact fun _ hw => (hw.perm (pull_perm 3 _ _ _ rfl)).sub (by repeat (first | exact List.Sublist.refl _ | exact List.nil_sublist _ | apply List.Sublist.cons_cons | apply List.Sublist.cons)) | exact fun _ hw => (hw.perm (pull_perm 4 _ _ _ rfl)).sub (by repeat (first | exact List.Sublist.refl _ | exact List.nil_sublist _ | apply List.Sublist.cons_cons | apply List.Sublist.cons))))
              | ((with_reducible apply (RH_take 15)); exact rfl; kernel_rfl; decide +kernel; decide +kernel; (first | exact fun _ hw => hw | exact fun _ hw => hw.sub (by repeat (first | exact List.Sublist.refl _ | exact List.nil_sublist _ | apply List.Sublist.cons_cons | apply List.Sublist.cons)) | exact fun _ hw => (hw.perm (pull_perm 1 _ _ _ rfl)).sub (by repeat (first | exact List.Sublist.refl _ | exact List.nil_sublist _ | apply List.Sublist.cons_cons | apply List.Sublist.cons)) | exact fun _ hw => (hw.perm (pull_perm 2 _ _ _ rfl)).sub (by repeat (first | exact List.Sublist.refl _ | exact List.nil_sublist _ | apply List.Sublist.cons_cons | apply List.Sublist.cons)) | exact fun _ hw => (hw.perm (pull_perm 3 _ _ _ rfl)).sub (by repeat (first | exact List.Sublist.refl _ | exact List.nil_sublist _ | apply List.Sublist.cons_cons | apply List.Sublist.cons)) | exact fun _ hw => (hw.perm (pull_perm 4 _ _ _ rfl)).sub (by repeat (first | exact List.Sublist.refl _ | exact List.nil_sublist _ | apply List.Sublist.cons_cons | apply List.Sublist.cons))))
              | ((with_reducible apply (RH_take 16)); exact rfl; kernel_rfl; decide +kernel; decide +kernel; (first | exact fun _ hw => hw | exact fun _ hw => hw.sub (by repeat (first | exact List.Sublist.refl _ | exact List.nil_sublist _ | apply List.Sublist.cons_cons | apply List.Sublist.cons)) | exact fun _ hw => (hw.perm (pull_perm 1 _ _ _ rfl)).sub (by repeat (first | exact List.Sublist.refl _ | exact List.nil_sublist _ | apply List.Sublist.cons_cons | apply List.Sublist.cons)) | exact fun _ hw => (hw.perm (pull_perm 2 _ _ _ rfl)).sub (by repeat (first | exact List.Sublist.refl _ | exact List.nil_sublist _ | apply List.Sublist.cons_cons | apply List.Sublist.cons)) | exact fun _ hw => (hw.perm (pull_perm 3 _ _ _ rfl)).sub (by repeat (first | exact List.Sublist.refl _ | exact List.nil_sublist _ | apply List.Sublist.cons_cons | apply List.Sublist.cons)) | exact fun _ hw => (hw.perm (pull_perm 4 _ _ _ rfl)).sub (by repeat (first | exact List.Sublist.refl _ | exact List.nil_sublist _ | apply List.Sublist.cons_cons | apply List.Sublist.cons))))
              | ((with_reducible apply (RH_take 17)); exact rfl; kernel_rfl; decide +kernel; decide +kernel; (first | exact fun _ hw => hw | exact fun _ hw => hw.sub (by repeat (first | exact List.Sublist.refl _ | exact List.nil_sublist _ | apply List.Sublist.cons_cons | apply List.Sublist.cons)) | exact fun _ hw => (hw.perm (pull_perm 1 _ _ _ rfl)).sub (by repeat (first | exact List.Sublist.refl _ | exact List.nil_sublist _ | apply List.Sublist.cons_cons | apply List.Sublist.cons)) | exact fun _ hw => (hw.perm (pull_perm 2 _ _ _ rfl)).sub (by repeat (first | exact List.Sublist.refl _ | exact List.nil_sublist _ | apply List.Sublist.cons_cons | apply List.Sublist.cons)) | exact fun _ hw => (hw.perm (pull_perm 3 _ _ _ rfl)).sub (by repeat (first | exact List.Sublist.refl _ | exact List.nil_sublist _ | apply List.Sublist.cons_cons | apply List.Sublist.cons)) | exact fun _ hw => (hw.perm (pull_perm 4 _ _ _ rfl)).sub (by repeat (first | exact List.Sublist.refl _ | exact List.nil_sublist _ | apply List.Sublist.cons_cons | apply List.Sublist.cons))))
              | ((with_reducible apply (RH_take 18)); exact rfl; kernel_rfl; decide +kernel; decide +kernel; (first | exact fun _ hw => hw | exact fun _ hw => hw.sub (by repeat (first | exact List.Sublist.refl _ | exact List.nil_sublist _ | apply List.Sublist.cons_cons | apply List.Sublist.cons)) | exact fun _ hw => (hw.perm (pull_perm 1 _ _ _ rfl)).sub (by repeat (first | exact List.Sublist.refl _ | exact List.nil_sublist _ | apply List.Sublist.cons_cons | apply List.Sublist.cons)) | exact fun _ hw => (hw.perm (pull_perm 2 _ _ _ rfl)).sub (by repeat (first | exact List.Sublist.refl _ | exact List.nil_sublist _ | apply List.Sublist.cons_cons | apply List.Sublist.cons)) | exact fun _ hw => (hw.perm (pull_perm 3 _ _ _ rfl)).sub (by repeat (first | exact List.Sublist.refl _ | exact List.nil_sublist _ | apply List.Sublist.cons_cons | apply List.Sublist.cons)) | exact fun _ hw => (hw.perm (pull_perm 4 _ _ _ rfl)).sub (by repeat (first | exact List.Sublist.refl _ | exact List.nil_sublist _ | apply List.Sublist.cons_cons | apply List.Sublist.cons))))
              | ((with_reducible apply (RH_take 19)); exact rfl; kernel_rfl; decide +kernel; decide +kernel; (first | exact fun _ hw => hw | exact fun _ hw => hw.sub (by repeat (first | exact List.Sublist.refl _ | exact List.nil_sublist _ | apply List.Sublist.cons_cons | apply List.Sublist.cons)) | exact fun _ hw => (hw.perm (pull_perm 1 _ _ _ rfl)).sub (by repeat (first | exact List.Sublist.refl _ | exact List.nil_sublist _ | apply List.Sublist.cons_cons | apply List.Sublist.cons)) | exact fun _ hw => (hw.perm (pull_perm 2 _ _ _ rfl)).sub (by repeat (first | exact List.Sublist.refl _ | exact List.nil_sublist _ | apply List.Sublist.cons_cons | apply List.Sublist.cons)) | exact fun _ hw => (hw.perm (pull_perm 3 _ _ _ rfl)).sub (by repeat (first | exact List.Sublist.refl _ | exact List.nil_sublist _ | apply List.Sublist.cons_cons | apply List.Sublist.cons)) | exact fun _ hw => (hw.perm (pull_perm 4 _ _ _ rfl)).sub (by repeat (first | exact List.Sublist.refl _ | exact List.nil_sublist _ | apply List.Sublist.cons_cons | apply List.Sublist.cons))))
              | ((with_reducible apply (RH_step 20)); decide +kernel; exact rfl)
              | ((with_reducible apply RH_done); decide +kernel)
              | ((with_reducible apply post_take))
              | ((with_reducible apply post_step); (first | exact fun _ hw => hw | exact fun _ hw => hw.sub (by repeat (first | exact List.Sublist.refl _ | exact List.nil_sublist _ | apply List.Sublist.cons_cons | apply List.Sublist.cons)) | exact fun _ hw => (hw.perm (pull_perm 1 _ _ _ rfl)).sub (by repeat (first | exact List.Sublist.refl _ | exact List.nil_sublist _ | apply List.Sublist.cons_cons | apply List.Sublist.cons)) | exact fun _ hw => (hw.perm (pull_perm 2 _ _ _ rfl)).sub (by repeat (first | exact List.Sublist.refl _ | exact List.nil_sublist _ | apply List.Sublist.cons_cons | apply List.Sublist.cons)) | exact fun _ hw => (hw.perm (pull_perm 3 _ _ _ rfl)).sub (by repeat (first | exact List.Sublist.refl _ | exact List.nil_sublist _ | apply List.Sublist.cons_cons | apply List.Sublist.cons)) | exact fun _ hw => (hw.perm (pull_perm 4 _ _ _ rfl)).sub (by repeat (first | exact List.Sublist.refl _ | exact List.nil_sublist _ | apply List.Sublist.cons_cons | apply List.Sublist.cons))))
              | ((with_reducible apply (LR_index_old (j))); exact rfl; exact rfl; exact rfl; exact rfl; exact hs0; omega; exact ha; exact rfl; intro _ _)
              | ((with_reducible apply (LR_index_own (k))); exact rfl; exact rfl; exact rfl; exact rfl; omega; omega)
              | ((with_reducible apply (LR_load_own 1)); exact rfl; exact rfl; exact rfl; exact rfl; exact nth_fld _ (k) _ 0 _ hm1 rfl)
              | ((with_reducible apply (LS_store1 1)); exact rfl; exact rfl; exact rfl; exact rfl; exact rfl; exact putF_set (mix (wsZ s c r f) (List.replicate c.length (0 : Int)) k) k _ (by omega))
              | ((with_reducible apply RR_end))
              | ((with_reducible apply LR_pure); exact rfl; exact rfl; exact rfl)
              | ((with_reducible apply LR_mul); exact rfl; exact rfl; exact rfl; exact rfl; omega; omega)
              | ((with_reducible apply LR_quo); exact rfl; exact rfl; exact rfl; exact rfl; omega; omega; omega)
              | ((with_reducible apply LR_min); exact rfl; exact rfl; exact rfl; exact rfl)
              | ((with_reducible apply LR_field_own); exact rfl; exact rfl; exact rfl)
              | ((with_reducible apply LR_field); exact rfl; exact rfl; exact rfl)
              | ((with_reducible apply LR_load_own 0); exact rfl; exact rfl; exact rfl; exact rfl; exact rfl)
              | ((with_reducible apply LR_load_own 2); exact rfl; exact rfl; exact rfl; exact rfl; exact rfl)
              | ((with_reducible apply LR_load_old); exact rfl; exact rfl; exact rfl; assumption; exact rfl)
            all_goals exact post_cut () trivial ⟨rfl, rfl, rfl, rfl, rfl, rfl, rfl, trivial⟩ (fun _ hw => by (try dsimp only); rw [← hn2]; exact hw.picks [0, 1, 1] rfl)
          · rintro _ _
            repeat' first
              | ((with_reducible apply CS_region))
              | ((with_reducible apply RR_end))
              | ((with_reducible apply LR_pure); exact rfl; exact rfl; exact rfl)
              | ((with_reducible apply LR_add); exact rfl; exact rfl; exact rfl; exact rfl; omega; omega)
              | ((with_reducible apply post_seq))
              | ((with_reducible apply post_block_n))
            exact post_round (i := k) (k + 1) (by omega) (by omega) ⟨rfl, rfl, rfl, rfl, rfl, rfl, rfl, trivial⟩ (fun _ hw => hw)
        · have hk : k = c.length := by omega
          subst hk
          rw [mix_full hzz lz.symm, hw2]
          by_cases hcap : 0 < r.cap ∧ r.cap < (wish s c r f).sum
          · have he : effL s c r f = apL r.cap (wish s c r f) := by unfold effL; rw [if_pos hcap]
            repeat' first
              | ((with_reducible apply (LR_call (f := 60))); exact rfl; exact rfl; exact rfl; exact fun w hw => itotal_ok _ (wish s c r f) w (own_sl 0 hw rfl rfl hwl.symm (by omega) (by omega)) hwb (by omega))
              | ((with_reducible apply (LS_callx (f := 59))); exact rfl; exact rfl; exact rfl; exact fun w hw => iApportion_ok _ _ (wish s c r f) w (own_sl 0 hw rfl rfl hwl.symm (by omega) (by omega)) hai; rintro g5 _)
              | ((with_reducible apply CS_seq))
              | ((with_reducible apply CS_region))
              | ((with_reducible apply CS_regionq_wd); kernel_rfl; kernel_rfl)
              | ((with_reducible apply RR_end))
              | ((with_reducible apply LR_pure); exact rfl; exact rfl; exact rfl)
              | ((with_reducible apply LR_field_own); exact rfl; exact rfl; exact rfl)
              | ((with_reducible apply LR_load_own 2); exact rfl; exact rfl; exact rfl; exact rfl; exact rfl)
              | ((with_reducible apply post_seq))
              | ((with_reducible apply post_then_ret))
              | ((with_reducible apply post_then_exit))
              | ((with_reducible apply post_block_n))
              | ((with_reducible apply post_block_eq))
              | ((with_reducible apply CS_ret))
              | ((with_reducible apply CS_exit))
              | ((with_reducible apply CS_cond_d); exact rfl; all_goals intro hb; all_goals try (exfalso; omega))
              | ((with_reducible apply LR_caseg_nd); exact rfl; exact rfl; all_goals intro hb; all_goals try (exfalso; omega))
            all_goals first | (exfalso; contradiction) | (exfalso; omega) | (exfalso; simp at hb <;> omega) | skip
            apply post_ret1; exact rfl; exact rfl; intro w' hw'; exact ⟨g5, trivial, by rw [hwl], by rw [he, ← hwl]; exact hw'.picks [0] rfl⟩
          · have he : effL s c r f = wish s c r f := by unfold effL; rw [if_neg hcap]
            repeat' first
              | ((with_reducible apply (LR_call (f := 60))); exact rfl; exact rfl; exact rfl; exact fun w hw => itotal_ok _ (wish s c r f) w (own_sl 0 hw rfl rfl hwl.symm (by omega) (by omega)) hwb (by omega))
              | ((with_reducible apply CS_seq))
              | ((with_reducible apply CS_region))
              | ((with_reducible apply CS_regionq_wd); kernel_rfl; kernel_rfl)
              | ((with_reducible apply RR_end))
              | ((with_reducible apply LR_pure); exact rfl; exact rfl; exact rfl)
              | ((with_reducible apply LR_skip); exact rfl; exact rfl)
              | ((with_reducible apply LR_field_own); exact rfl; exact rfl; exact rfl)
              | ((with_reducible apply LR_load_own 2); exact rfl; exact rfl; exact rfl; exact rfl; exact rfl)
              | ((with_reducible apply post_seq))
              | ((with_reducible apply post_then_exit))
              | ((with_reducible apply post_block_n))
              | ((with_reducible apply post_block_eq))
              | ((with_reducible apply CS_skip))
              | ((with_reducible apply CS_ret))
              | ((with_reducible apply CS_exit))
              | ((with_reducible apply CS_cond_f); exact rfl)
              | ((with_reducible apply CS_cond_d); exact rfl; all_goals intro hb; all_goals try (exfalso; omega))
              | ((with_reducible apply LR_caseg_nd); exact rfl; exact rfl; all_goals intro hb; all_goals try (exfalso; omega))
            all_goals first | (exfalso; contradiction) | (exfalso; omega) | (exfalso; simp at hb <;> omega) | skip
            all_goals (apply post_ret1; exact rfl; exact rfl; intro w' hw'; exact ⟨g2, trivial, rfl, by rw [he]; exact hw'.picks [0] rfl⟩)
set_option maxHeartbeats 4000000 in
theorem iEffectOf_no (v0 : Value) (s : List Ar) (v : Value) (c : List Ln) (r : Ru) (v2 : Value) (f : List Int) (w : World) (hs0 : Sl w v0 s) (hs : Sl w v c) (hg : ROk w r) (hs2 : Sl w v2 f) (h : ¬ EfOk s c r f) : Calls Try.prog 28 #[v0, v, ruV r, v2] w
    (fun x w' => ∃ i : Nat, True ∧ x = .returned (.slice (some ⟨i, 0, none⟩) 0 0) ∧ Wd w [intE i 0 []] w') := by
  have hml : maxLen = 9223372036854775807 := rfl
  have hlen := hs.len
  rw [EfOk_iff] at h
  obtain ⟨b3, h3⟩ := bex (VR r)
  cases b3
  · skip
    refine enter (vs := [v0, v, ruV r, v2]) Try.func28 rfl Try.ntmps28 rfl ?_
    repeat' first
      | ((with_reducible apply (LR_call (f := 57))); exact rfl; exact rfl; exact rfl; exact fun w hw => iValidRule_ok r w _ (hg.mono hw) h3)
      | ((with_reducible apply CS_seq))
      | ((with_reducible apply CS_region))
      | ((with_reducible apply RR_end))
      | ((with_reducible apply LR_pure); exact rfl; exact rfl; exact rfl)
      | ((with_reducible apply LR_skip); exact rfl; exact rfl)
      | ((with_reducible apply LR_load_own_agg 0); exact rfl; exact rfl; exact rfl; exact rfl; exact rfl)
      | ((with_reducible apply LS_box); exact rfl; exact rfl; exact rfl; exact rfl; intro _)
      | ((with_reducible apply LS_buildSlice); exact rfl; exact rfl; exact rfl; exact rfl; exact rfl; exact rfl; exact rfl; intro _)
      | ((with_reducible apply post_seq))
      | ((with_reducible apply post_then_ret))
      | ((with_reducible apply CS_ret))
      | ((with_reducible apply CS_cond_t); exact rfl)
    all_goals first | (exfalso; contradiction) | (exfalso; omega) | (exfalso; simp at hb <;> omega) | skip
    apply post_ret1; exact rfl; exact rfl; intro w' hw'; exact ⟨_, trivial, rfl, hw'.picks [0] rfl⟩
  by_cases h5 : 1 ≤ c.length
  · have h4 : VSC s c ∧ VL s c f ↔ false = true := by simp; exact fun hsc hl => h ⟨hsc, h5, h3.2 rfl, hl⟩
    refine enter (vs := [v0, v, ruV r, v2]) Try.func28 rfl Try.ntmps28 rfl ?_
    repeat' first
      | ((with_reducible apply (LR_call (f := 57))); exact rfl; exact rfl; exact rfl; exact fun w hw => iValidRule_ok r w _ (hg.mono hw) h3)
      | ((with_reducible apply LR_len_sl); exact rfl; exact rfl; exact rfl; exact hs)
      | ((with_reducible apply (LR_call (f := 58))); exact rfl; exact rfl; exact rfl; exact fun w hw => leftOk_ok v0 s v c v2 f w _ (hs0.mono hw) (hs.mono hw) (hs2.mono hw) h4)
      | ((with_reducible apply CS_seq))
      | ((with_reducible apply CS_region))
      | ((with_reducible apply RR_end))
      | ((with_reducible apply LR_pure); exact rfl; exact rfl; exact rfl)
      | ((with_reducible apply LR_load_own_agg 0); exact rfl; exact rfl; exact rfl; exact rfl; exact rfl)
      | ((with_reducible apply LS_box); exact rfl; exact rfl; exact rfl; exact rfl; intro _)
      | ((with_reducible apply LS_buildSlice); exact rfl; exact rfl; exact rfl; exact rfl; exact rfl; exact rfl; exact rfl; intro _)
      | ((with_reducible apply post_seq))
      | ((with_reducible apply post_then_ret))
      | ((with_reducible apply CS_ret))
      | ((with_reducible apply CS_cond_t); exact rfl)
      | ((with_reducible apply LR_caseg_d); exact rfl; exact rfl; all_goals intro hb; all_goals try (exfalso; omega))
    all_goals first | (exfalso; contradiction) | (exfalso; omega) | (exfalso; simp at hb <;> omega) | skip
    apply post_ret1; exact rfl; exact rfl; intro w' hw'; exact ⟨_, trivial, rfl, hw'.picks [0] rfl⟩
  · skip
    refine enter (vs := [v0, v, ruV r, v2]) Try.func28 rfl Try.ntmps28 rfl ?_
    repeat' first
      | ((with_reducible apply (LR_call (f := 57))); exact rfl; exact rfl; exact rfl; exact fun w hw => iValidRule_ok r w _ (hg.mono hw) h3)
      | ((with_reducible apply LR_len_sl); exact rfl; exact rfl; exact rfl; exact hs)
      | ((with_reducible apply CS_seq))
      | ((with_reducible apply CS_region))
      | ((with_reducible apply RR_end))
      | ((with_reducible apply LR_pure); exact rfl; exact rfl; exact rfl)
      | ((with_reducible apply LR_skip); exact rfl; exact rfl)
      | ((with_reducible apply LR_load_own_agg 0); exact rfl; exact rfl; exact rfl; exact rfl; exact rfl)
      | ((with_reducible apply LS_box); exact rfl; exact rfl; exact rfl; exact rfl; intro _)
      | ((with_reducible apply LS_buildSlice); exact rfl; exact rfl; exact rfl; exact rfl; exact rfl; exact rfl; exact rfl; intro _)
      | ((with_reducible apply post_seq))
      | ((with_reducible apply post_then_ret))
      | ((with_reducible apply CS_ret))
      | ((with_reducible apply CS_cond_t); exact rfl)
      | ((with_reducible apply LR_caseg_d); exact rfl; exact rfl; all_goals intro hb; all_goals try (exfalso; omega))
    all_goals first | (exfalso; contradiction) | (exfalso; omega) | (exfalso; simp at hb <;> omega) | skip
    apply post_ret1; exact rfl; exact rfl; intro w' hw'; exact ⟨_, trivial, rfl, hw'.picks [0] rfl⟩
end Go.Proofs.Ytaggfcghkfkngaa
