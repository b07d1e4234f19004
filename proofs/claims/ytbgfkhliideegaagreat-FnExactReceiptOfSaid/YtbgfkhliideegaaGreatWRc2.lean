/- The walk of the reference's receipt. No condition beyond those that each theorem states. -/
import Derived.Test.YtbgfkhliideegaaGreatPRc
import Derived.Test.YtbgfkhliideegaaGreatWRc1
import Derived.Test.YtbgfkhliideegaaGreatWHs
import Derived.Test.YtbgfkhliideegaaGreatWLs
import Derived.Test.YtbgfkhliideegaaGreatWOr3
import Derived.Test.YtbgfkhliideegaaGreatWPt
namespace Go.Proofs.YtbgfkhliideegaaGreat
open Go.RowKit
attribute [local irreducible] Calls
theorem take_fld {α : Type} [Enc α] (xs : List α) (k : Nat) (u : α) (o n : Nat) (us : List Value) (hk : xs[k]? = some u) (hv : takeF (dropN (Enc.enc u) o) n = some us) (_h0 : 0 < n) : takeF (dropN (flat xs) (k * Enc.k α + o)) n = some us := by
  obtain ⟨h1, h2⟩ := takeF_eq _ _ _ hv
  rw [dropN_eq] at h1 ⊢
  have h3 := flat_at hk
  have h4 : (Enc.enc u).length = Enc.k α := Enc.len u
  have h5 : n ≤ Enc.k α - o := by
    have := congrArg List.length h1
    rw [List.length_take, List.length_drop, h4, h2] at this
    omega
  have h6 : (flat xs).drop (k * Enc.k α + o) = ((flat xs).drop (k * Enc.k α)).drop o := by rw [List.drop_drop]
  have h7 : ((flat xs).drop (k * Enc.k α + o)).take n = us := by
    rw [h6, ← h1, ← h3, List.drop_take, List.take_take, Nat.min_eq_left h5]
  rw [takeF_some _ _ (by
    have := congrArg List.length h7
    rw [List.length_take, h2] at this
    omega), h7]
abbrev rcE (g : Nat) (a b : Value) : Ent := ⟨g, 54, 2, [a, b]⟩
abbrev rcV (n m : Nat) (i : PtG) : Value := .agg #[.slice (some ⟨i.g1, 0, none⟩) n i.c1, .slice (some ⟨i.g2, 0, none⟩) m i.c2]
abbrev rcV0 : Value := .agg #[.slice none 0 0, .slice none 0 0]
set_option maxHeartbeats 8000000 in
theorem sreceipt_ok (v0 : Value) (s : List Ar) (v : Value) (c : List Ln) (v2 : Value) (cp : List Int) (v3 : Value) (rs : List Ru) (w : World) (hs0 : Sl w v0 s) (hs : Sl w v c) (hs2 : Sl w v2 cp) (hs3 : Sl w v3 rs) (hg : ROks w rs) (h : RcOk s c cp rs) : Calls Tryz.prog 79 #[v0, v, v2, v3] w
    (fun x w' => ∃ i : PtG, (c.length ≤ i.c1 ∧ i.c1 ≤ maxLen ∧ (rcp s c cp (srt rs)).2.length ≤ i.c2 ∧ i.c2 ≤ maxLen) ∧ x = .returned (rcV c.length (rcp s c cp (srt rs)).2.length i) ∧ Wd w [intE i.g1 i.c1 (rcp s c cp (srt rs)).1, ntE i.g2 i.c2 (rcp s c cp (srt rs)).2] w') := by
  have hml : maxLen = 9223372036854775807 := rfl
  have hV := h.2.2.1
  have hn := VRs_nums hV
  have hl6 := hV.1
  have hsrl := srt_len rs
  have hsc := h.1
  obtain ⟨A2, m2, c2, hv2, _⟩ := id hs2
  subst hv2
  refine enter (vs := [v0, v, .slice A2 m2 c2, v3]) Tryz.func79 rfl Tryz.ntmps79 rfl ?_
  have hab := amts_bd h.1
  have hal := amts_len s c
  have hc8 := h.1.2.1
  repeat' first | ((with_reducible apply (LS_callx (f := 111))); exact rfl; exact rfl; exact rfl; exact fun w hw => slineAmounts_ok v0 s v c w (hs0.mono hw) (hs.mono hw) h.1; rintro ⟨gl, cl⟩ ⟨a1, a2⟩; dsimp only at a1 a2 ⊢; rw [hal] at a1 ⊢) | ((with_reducible apply (LR_call (f := 85))); exact rfl; exact rfl; exact rfl; exact fun w hw => ssum_ok _ (amts s c) w (own_sl 0 hw rfl rfl hal.symm a1 a2) (fun x hx => by have := hab x hx; omega) (by omega)) | ((with_reducible apply (LS_callx (f := 112))); exact rfl; exact rfl; exact rfl; exact fun w hw => sgroupCounts_ok v0 s v c w (hs0.mono hw) (hs.mono hw) h.1; rintro gc _) | ((with_reducible apply (LS_callx (f := 113))); exact rfl; exact rfl; exact rfl; exact fun w hw => inOrder_ok v3 rs w (hs3.mono hw) hn (by omega); rintro ⟨gs, cs⟩ ⟨d1, d2⟩; dsimp only at d1 d2 ⊢) | ((with_reducible apply CS_seq)) | ((with_reducible apply CS_block)) | ((with_reducible apply CS_region)) | ((with_reducible apply RR_end)) | ((with_reducible apply LR_pure); exact rfl; exact rfl; exact rfl) | ((with_reducible apply LS_alloc); exact rfl; exact rfl; exact rfl; intro _) | ((with_reducible apply LS_store_agg 0); exact rfl; exact rfl; exact rfl; exact rfl; exact rfl; exact rfl; exact rfl; exact rfl) | ((with_reducible apply LS_buildSlice); exact rfl; exact rfl; exact rfl; exact rfl; exact rfl; exact rfl; exact rfl; intro _) | ((with_reducible apply LR_build); exact rfl; exact rfl; exact rfl; exact rfl) | ((with_reducible apply post_seq))
  rename_i gr _ gp gn
  refine CS_loop (ι := Nat × Nat × Nat × Nat × Nat) (fun i => [(0, v0), (1, v), (8, .pointer (some ⟨gr, 0, none⟩)), (9, .slice (some ⟨i.2.1, 0, none⟩) c.length i.2.2.1), (10, .pointer (some ⟨gp, 0, none⟩)), (11, .slice (some ⟨i.2.2.2.1, 0, none⟩) (rcp s c cp ((srt rs).take i.1)).2.length i.2.2.2.2), (12, .slice (some ⟨gs, 0, none⟩) (srt rs).length cs), (13, .int .i64 (i.1 : Int))]) (fun i => Wd w [intE i.2.1 i.2.2.1 (rcp s c cp ((srt rs).take i.1)).1, ntE i.2.2.2.1 i.2.2.2.2 (rcp s c cp ((srt rs).take i.1)).2, ruE gs cs (srt rs), intE gc 3 (gcs s c), ptE gp (.int .i64 (amts s c).sum) (.slice (some ⟨gc, 0, none⟩) 3 3) (.slice A2 m2 c2), rcE gr (.slice none 0 0) (.slice none 0 0)]) (fun i => i.1 ≤ rs.length ∧ c.length ≤ i.2.2.1 ∧ i.2.2.1 ≤ maxLen ∧ (rcp s c cp ((srt rs).take i.1)).2.length ≤ i.2.2.2.2 ∧ i.2.2.2.2 ≤ maxLen) (fun i => rs.length - i.1) (0, gl, cl, gn, 0) ⟨by dsimp only; omega, by dsimp only; omega, a2, by simp [rcp], by simp⟩ ⟨rfl, rfl, rfl, rfl, rfl, rfl, rfl, rfl, trivial⟩ (fun _ hw => hw.reord [4, 1, 0, 1] rfl) ?_
  rintro ⟨k, gl1, cl1, gn1, cn1⟩ ⟨b1, b2, b3, b4, b5⟩
  dsimp only at b1 b2 b3 b4 b5 ⊢
  by_cases hk : k < rs.length
  · obtain ⟨r, hr⟩ : ∃ y, (srt rs)[k]? = some y := ⟨_, List.getElem?_eq_getElem (by omega)⟩
    have hrm := (srt_perm rs).mem_iff.1 (List.mem_of_getElem? hr)
    have hrg := hg r hrm
    have hvr := VRs_all hV r hrm
    have hvg := hvr.2.2.2.2.2.1
    have hst := rcp_take (s := s) (c := c) (cp := cp) hr
    have hvl := rcp_VL (cp := cp) hsc (l := (srt rs).take k) (fun x hx => h.all x (List.mem_of_mem_take hx))
    have hnl := rcp_notes (cp := cp) hsc ((srt rs).take k) (amts s c, []) (fun x hx => h.all x (List.mem_of_mem_take hx)) (VL_amts hsc)
    have hlb0 : ∀ x ∈ (rcp s c cp ((srt rs).take k)).1, 0 ≤ x ∧ x ≤ 1000000 := fun x hx => by
      have := (rcp_left (cp := cp) hsc (S := (srt rs).take k) (fun x hx => h.all x (List.mem_of_mem_take hx))).2.1 x hx
      omega
    have hnl1 : (rcp s c cp ((srt rs).take k)).2.length ≤ 100 := by
      have : (rcp s c cp ((srt rs).take k)).2.length ≤ 0 + 8 * ((srt rs).take k).length := hnl
      rw [List.length_take] at this
      omega
    clear hnl
    generalize hstd : (rcp s c cp ((srt rs).take k)) = st at *
    obtain ⟨he1, he2, _, _⟩ := eff_g hsc hvr hvl
    have heb : ∀ x ∈ effL s c r st.1, 0 ≤ x ∧ x ≤ 1000000 := fun x hx => by have := he2 x hx; omega
    have hlb := hlb0
    have hntl := nts_len r.num (effL s c r st.1) 0
    have hsl : (subL st.1 (effL s c r st.1)).length = c.length := by rw [subL_len (by rw [he1, hvl.1]), hvl.1]
    have hvl1 := hvl.1
    cases hh : hold1 s c cp r
    · have hB : Holds1 r.g (amts s c).sum (gcs s c) cp ↔ false = true := by rw [holdB_iff]; unfold hold1 at hh; rw [hh]
      have hst' : (rcp s c cp ((srt rs).take (k + 1))) = st := by rw [hst]; unfold rcStep; unfold hold1 at hh; rw [hh]; rfl
      repeat' first | ((with_reducible apply (LR_index_own (k))); exact rfl; exact rfl; exact rfl; exact rfl; omega; omega) | ((with_reducible apply (LR_load_own_agg 2)); exact rfl; exact rfl; exact rfl; exact rfl; exact take_fld _ k r 7 4 _ hr rfl (by decide)) | ((with_reducible apply (LR_call (f := 114))); exact rfl; exact rfl; exact rfl; exact fun w hw => sholds_b r.g _ _ _ (gcs s c) cp w false (hrg.mono hw) hvg (own_sl 3 hw rfl rfl rfl (by decide) (by decide)) (hs2.mono hw) rfl hB) | ((with_reducible apply CS_seq)) | ((with_reducible apply CS_block)) | ((with_reducible apply CS_region)) | ((with_reducible apply CS_regionq_wd); kernel_rfl; kernel_rfl) | ((with_reducible apply RR_end)) | ((with_reducible apply LR_pure); exact rfl; exact rfl; exact rfl) | ((with_reducible apply LR_add); exact rfl; exact rfl; exact rfl; exact rfl; omega; omega) | ((with_reducible apply LR_field_own); exact rfl; exact rfl; exact rfl) | ((with_reducible apply LR_load_own_agg 4); exact rfl; exact rfl; exact rfl; exact rfl; exact rfl) | ((with_reducible apply LR_len); exact rfl; exact rfl; exact rfl) | ((with_reducible apply post_seq)) | ((with_reducible apply post_block_n)) | ((with_reducible apply CS_skip)) | ((with_reducible apply CS_cond_f); exact rfl) | ((with_reducible apply CS_cond_d); exact rfl; all_goals intro hb; all_goals try (exfalso; omega))
      all_goals first | (exfalso; contradiction) | (exfalso; omega) | (exfalso; simp at hb <;> omega) | skip
      exact post_round (i := (k, gl1, cl1, gn1, cn1)) (k + 1, gl1, cl1, gn1, cn1) ⟨by dsimp only; omega, b2, b3, by dsimp only; rw [hst']; exact b4, b5⟩ (by dsimp only; omega) ⟨rfl, rfl, rfl, rfl, rfl, by dsimp only; rw [hst']; rfl, rfl, rfl, trivial⟩ (fun _ hw => by dsimp only; rw [hst']; exact hw)
    · have hB : Holds1 r.g (amts s c).sum (gcs s c) cp ↔ true = true := by rw [holdB_iff]; unfold hold1 at hh; rw [hh]
      have hst' : (rcp s c cp ((srt rs).take (k + 1))) = (subL st.1 (effL s c r st.1), st.2 ++ nts r.num 0 (effL s c r st.1)) := by rw [hst]; unfold rcStep; unfold hold1 at hh; rw [hh]; rfl
      repeat' first | ((with_reducible apply (LR_index_own (k))); exact rfl; exact rfl; exact rfl; exact rfl; omega; omega) | ((with_reducible apply (LR_load_own_agg 2)); exact rfl; exact rfl; exact rfl; exact rfl; exact take_fld _ k r 7 4 _ hr rfl (by decide)) | ((with_reducible apply (LR_load_own_agg 2)); exact rfl; exact rfl; exact rfl; exact rfl; exact take_row _ k r _ hr rfl) | ((with_reducible apply (LR_load_own_agg 4)); exact rfl; exact rfl; exact rfl; exact rfl; exact take_row _ k r _ hr rfl) | ((with_reducible apply (LR_call (f := 114))); exact rfl; exact rfl; exact rfl; exact fun w hw => sholds_b r.g _ _ _ (gcs s c) cp w true (hrg.mono hw) hvg (own_sl 3 hw rfl rfl rfl (by decide) (by decide)) (hs2.mono hw) rfl hB) | ((with_reducible apply (LS_callx (f := 115))); exact rfl; exact rfl; exact rfl; exact fun w hw => seffect_g v0 s v c r _ st.1 w (hs0.mono hw) (hs.mono hw) (hrg.mono hw) (own_sl 0 hw rfl rfl hvl.1.symm b2 b3) hsc hvr hvl; rintro ge _) | ((with_reducible apply (LS_callx (f := 116))); exact rfl; exact rfl; exact rfl; exact fun w hw => sless_ok _ _ st.1 (effL s c r st.1) w (own_sl 1 hw rfl rfl hvl.1.symm b2 b3) (own_sl 0 hw rfl rfl he1.symm (Nat.le_refl _) (by omega)) (by omega) (by omega) hlb heb; rintro ⟨g6, c6⟩ ⟨d1, d2⟩; dsimp only at d1 d2 ⊢; rw [hsl] at d1 ⊢) | ((with_reducible apply (LS_callx (f := 117))); exact rfl; exact rfl; exact rfl; exact fun w hw => snotesOf_ok r _ (effL s c r st.1) w (own_sl 1 hw rfl rfl he1.symm (Nat.le_refl _) (by omega)) (by omega); rintro ⟨g7, c7⟩ ⟨d3, d4⟩; dsimp only at d3 d4 ⊢) | ((with_reducible apply (LS_append_sl 4 st.2 (nts r.num 0 (effL s c r st.1)))); exact rfl; exact rfl; exact rfl; exact rfl; exact rfl; exact rfl; exact rfl; exact rfl; exact rfl; omega; exact fun w hw => own_sl 0 hw rfl rfl rfl d3 d4; omega; omega; intro g8 c8 e1 e2) | ((with_reducible apply CS_seq)) | ((with_reducible apply CS_block)) | ((with_reducible apply CS_region)) | ((with_reducible apply CS_regionq_wd); kernel_rfl; kernel_rfl) | ((with_reducible apply RR_end)) | ((with_reducible apply LR_pure); exact rfl; exact rfl; exact rfl) | ((with_reducible apply LR_add); exact rfl; exact rfl; exact rfl; exact rfl; omega; omega) | ((with_reducible apply LR_field_own); exact rfl; exact rfl; exact rfl) | ((with_reducible apply LR_load_own_agg 4); exact rfl; exact rfl; exact rfl; exact rfl; exact rfl) | ((with_reducible apply LR_len); exact rfl; exact rfl; exact rfl) | ((with_reducible apply post_seq)) | ((with_reducible apply post_block_n)) | ((with_reducible apply CS_skip)) | ((with_reducible apply CS_cond_t); exact rfl) | ((with_reducible apply CS_cond_d); exact rfl; all_goals intro hb; all_goals try (exfalso; omega))
      all_goals first | (exfalso; contradiction) | (exfalso; omega) | (exfalso; simp at hb <;> omega) | skip
      exact post_round (i := (k, gl1, cl1, gn1, cn1)) (k + 1, g6, c6, g8, c8) ⟨by dsimp only; omega, d1, d2, by dsimp only; rw [hst']; simpa using e1, e2⟩ (by dsimp only; omega) ⟨rfl, rfl, rfl, rfl, rfl, by dsimp only; rw [hst']; rfl, rfl, rfl, trivial⟩ (fun _ hw => by dsimp only; rw [hst']; exact hw.picks [2, 0, 3, 3, 3, 3] rfl)
  · have hke : (srt rs).take k = srt rs := List.take_of_length_le (by omega)
    rw [hke] at b4 ⊢
    repeat' first | ((with_reducible apply CS_seq)) | ((with_reducible apply CS_region)) | ((with_reducible apply RR_end)) | ((with_reducible apply LR_pure); exact rfl; exact rfl; exact rfl) | ((with_reducible apply LR_len); exact rfl; exact rfl; exact rfl) | ((with_reducible apply LS_store_agg 5); exact rfl; exact rfl; exact rfl; exact rfl; exact rfl; exact rfl; exact rfl; exact rfl) | ((with_reducible apply LR_build); exact rfl; exact rfl; exact rfl; exact rfl) | ((with_reducible apply post_seq)) | ((with_reducible apply post_then_exit)) | ((with_reducible apply post_block_eq)) | ((with_reducible apply CS_ret)) | ((with_reducible apply CS_exit)) | ((with_reducible apply CS_cond_d); exact rfl; all_goals intro hb; all_goals try (exfalso; omega))
    all_goals first | (exfalso; contradiction) | (exfalso; omega) | (exfalso; simp at hb <;> omega) | skip
    refine post_ret_cell 0 rfl rfl rfl rfl fun w' hw' => ?_
    exact ⟨⟨gl1, cl1, gn1, cn1⟩, ⟨b2, b3, b4, b5⟩, rfl, hw'.picks [1, 1] rfl⟩
end Go.Proofs.YtbgfkhliideegaaGreat
