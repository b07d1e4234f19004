/- The walks of the laws on receipts, notes. No condition beyond those that each theorem states. -/
import Derived.Test.YtbgfkhliideegaaGreatWRc5
import Derived.Test.YtbgfkhliideegaaGreatWDrX
namespace Go.Proofs.YtbgfkhliideegaaGreat
open Go.RowKit
attribute [local irreducible] Calls
set_option maxHeartbeats 8000000 in
theorem FnReceiptOfNotes_ok (v : Value) (l : List By) (w : World) (hs : Sl w v l) (hby : BytesOk l) : Calls Tryz.prog 17 #[v] w (Gives (.bool true) w) := by
  have hlen := hs.len; have hml : maxLen = 9223372036854775807 := rfl; simp only [maxLen] at hlen
  refine enter (vs := [v]) Tryz.func17 rfl Tryz.ntmps17 rfl ?_
  repeat' first | ((with_reducible apply LR_len_sl); exact rfl; exact rfl; exact rfl; exact hs) | ((with_reducible apply (LS_callr (f := 56))); exact rfl; exact rfl; exact rfl; exact fun w hw => DrawReceiptOf_ok v l w (hs.mono hw) hby; rintro ⟨v0, s, v1, c, v2, cp, v3, rs⟩ w1 k1 ⟨z0, z1, z2, z3, zg, zc, zp, zr⟩; dsimp only at z0 z1 z2 z3 zg zc zp zr ⊢) | ((with_reducible apply (LS_callr (f := 44))); exact rfl; exact rfl; exact rfl; exact fun w hw => iReceiptOf_r v0 s v1 c v2 cp v3 rs _ (z0.mono hw) (z1.mono hw) (z2.mono hw) (z3.mono hw) (fun r hr => (zg r hr).mono hw); rintro ⟨vl, vn, xs, ns, bb⟩ w2 k2 ⟨y1, y2, y3⟩; dsimp only at y1 y2 y3 ⊢; (obtain ⟨Al, ml, kl, hvx1, hqx1⟩ := id y1); (obtain ⟨An, mn, kn, hvx2, hqx2⟩ := id y2); subst hvx1; subst hvx2) | ((with_reducible apply CS_seq)) | ((with_reducible apply CS_region)) | ((with_reducible apply RR_end)) | ((with_reducible apply LR_pure); exact rfl; exact rfl; exact rfl) | ((with_reducible apply LS_alloc); exact rfl; exact rfl; exact rfl; intro _) | ((with_reducible apply LS_store_agg 0); exact rfl; exact rfl; exact rfl; exact rfl; exact rfl; exact rfl; exact rfl; exact rfl) | ((with_reducible apply post_seq)) | ((with_reducible apply post_then_ret)) | ((with_reducible apply CS_skip)) | ((with_reducible apply CS_ret)) | ((with_reducible apply CS_cond_d); exact rfl; all_goals intro hb; all_goals try (exfalso; omega))
  · apply ret_bool; exact rfl; exact rfl; rfl
  have z0 := z0.mono k2; have z1 := z1.mono k2; have z2 := z2.mono k2; have z3 := z3.mono k2; have zg : ROks w2 rs := fun r hr => (zg r hr).mono k2; have k2 := k1.thn k2
  by_cases hR : RcOk s c cp rs
  · obtain ⟨rfl, hxs, hns⟩ := y3.1 hR; have hlf := rcp_left (cp := cp) hR.1 hR.all; have hxl : xs.length = c.length := by (rw [hxs]; exact hlf.1)
    have hal := amts_len s c; have hc8 := hR.1.2.1; have hsc := hR.1; have hco := hR.2.1; have h48 : ns.length ≤ 48 := by (rw [hns]; exact rcp_len48 hR)
    have hV := hR.2.2.1
    have hl6 := hV.1
    have hol := ordL_len rs
    have hsl := srt_len rs
    have hnS : Nums (srt rs) := VRs_nums (VRs_perm hV (srt_perm rs).symm)
    have hnt : ∀ n ∈ ns, NtOk s c cp (srt rs) (srt rs).length n := by rw [hns]; exact rcp_nt hR.1 hR.all
    have hpos : ns.Pairwise (posB (srt rs)) := by rw [hns]; exact rcp_pos hR.1 hR.all
    repeat' first | ((with_reducible apply (LS_callx (f := 43))); exact rfl; exact rfl; exact rfl; exact fun w hw => sReceiptOf_ok v0 s v1 c v2 cp v3 rs w (z0.mono hw) (z1.mono hw) (z2.mono hw) (z3.mono hw) (fun r hr => (zg r hr).mono hw) hR; rintro ⟨g1, c1, g2, c2⟩ ⟨i1, i2, i3, i4⟩; dsimp only at i1 i2 i3 i4 ⊢; rw [← hns] at i3 ⊢) | ((with_reducible apply (LR_call (f := 57))); exact rfl; exact rfl; exact rfl; exact fun w hw => equalReceipt_ok (.slice Al ml kl) (.slice An mn kn) _ _ xs ns w (y1.mono hw) (y2.mono hw) (own_sl 1 hw rfl (by rw [hxs]) (by rw [hxs]; exact hlf.1.symm) i1 i2) (own_sl 2 hw rfl (by rw [hns]) rfl i3 i4)) | ((with_reducible apply (LS_callx (f := 61))); exact rfl; exact rfl; exact rfl; exact fun w hw => iRuleOrder_ok v3 rs w (z3.mono hw) (fun r hr => (zg r hr).mono hw) hV; rintro ⟨go, co⟩ ⟨o1, o2⟩; dsimp only at o1 o2 ⊢; rw [hol] at o1 ⊢) | ((with_reducible apply CS_seq)) | ((with_reducible apply CS_block)) | ((with_reducible apply CS_region)) | ((with_reducible apply RR_end)) | ((with_reducible apply LR_pure); exact rfl; exact rfl; exact rfl) | ((with_reducible apply LR_neqb); exact rfl; exact rfl; exact rfl; exact rfl) | ((with_reducible apply LR_load_own_agg 0); exact rfl; exact rfl; exact rfl; exact rfl; exact rfl) | ((with_reducible apply LR_load_own_agg 3); exact rfl; exact rfl; exact rfl; exact rfl; exact rfl) | ((with_reducible apply LS_alloc); exact rfl; exact rfl; exact rfl; intro _) | ((with_reducible apply LS_store_agg 0); exact rfl; exact rfl; exact rfl; exact rfl; exact rfl; exact rfl; exact rfl; exact rfl) | ((with_reducible apply post_seq)) | ((with_reducible apply CS_skip)) | ((with_reducible apply CS_cond_f); exact rfl)
    all_goals first | (exfalso; contradiction) | (exfalso; omega) | (exfalso; simp at hb <;> omega) | skip
    rename_i gr _
    refine CS_loop (ι := Nat × Nat × Int) (fun i => [(7, .pointer (some ⟨gr, 0, none⟩)), (11, .slice (some ⟨go, 0, none⟩) rs.length co), (12, .int .i64 (i.2.1 : Int)), (13, .int .i64 i.2.2), (14, .int .i64 (i.1 : Int))]) (fun i => Wd w2 [rcE gr (.slice Al ml kl) (.slice An mn kn), intE go co (ordL rs)]) (fun i => i.1 ≤ ns.length ∧ (i.1 = 0 → i.2.1 = 0 ∧ i.2.2 = -1) ∧ (∀ n, 0 < i.1 → ns[i.1 - 1]? = some n → i.2.2 = n.line ∧ ∃ r, (srt rs)[i.2.1]? = some r ∧ n.rule = r.num)) (fun i => ns.length - i.1) (0, 0, -1) ⟨by dsimp only; omega, fun _ => ⟨rfl, rfl⟩, fun _ h => by dsimp only at h; omega⟩ ⟨rfl, rfl, rfl, rfl, rfl, trivial⟩ (fun _ hw => hw.picks [4, 0] rfl) ?_
    rintro ⟨k, at0, ln⟩ ⟨a1, a2, a3⟩
    dsimp only at a1 a2 a3 ⊢
    by_cases hk : k < ns.length
    · obtain ⟨n, hn⟩ : ∃ y, ns[k]? = some y := ⟨_, List.getElem?_eq_getElem hk⟩
      obtain ⟨⟨P, rP, hP1, hP2, hP3, _⟩, ⟨q, hq, _⟩, _⟩ := hnt n (List.mem_of_getElem? hn)
      have hord : (ordL rs)[P]? = some rP.num := by simp [ordL, hP2]
      have hkey : at0 ≤ P ∧ (at0 = P → ln < n.line) := by
        by_cases h0 : k = 0
        · have := a2 h0
          exact ⟨by omega, fun _ => by omega⟩
        · obtain ⟨n', hn'⟩ : ∃ y, ns[k-1]? = some y := ⟨_, List.getElem?_eq_getElem (by omega)⟩
          obtain ⟨h1, r', h2, h3⟩ := a3 n' (by omega) hn'
          have h4 := List.pairwise_iff_getElem.1 hpos (k-1) k (by omega) (by omega) (by omega)
          rw [(List.getElem?_eq_some_iff.1 hn).2, (List.getElem?_eq_some_iff.1 hn').2] at h4
          rcases h4 with ⟨i, j, ra, rb, hij, hi, hj, hra, hrb⟩ | ⟨h5, h6⟩
          · have e1 := num_at hnS h2 hi (by rw [← h3, hra])
            have e2 := num_at hnS hP2 hj (by rw [← hP3, hrb])
            exact ⟨by omega, fun h => by omega⟩
          · have e1 := num_at hnS h2 hP2 (by rw [← h3, h5, hP3])
            exact ⟨by omega, fun _ => by omega⟩
      obtain ⟨hk1, hk2⟩ := hkey
      repeat' first | ((with_reducible apply LR_len_sl); exact rfl; exact rfl; exact rfl; exact y2) | ((with_reducible apply CS_seq)) | ((with_reducible apply CS_block)) | ((with_reducible apply CS_region)) | ((with_reducible apply RR_end)) | ((with_reducible apply LR_pure); exact rfl; exact rfl; exact rfl) | ((with_reducible apply LR_field_own); exact rfl; exact rfl; exact rfl) | ((with_reducible apply LR_load_own 0); exact rfl; exact rfl; exact rfl; exact rfl; exact rfl) | ((with_reducible apply post_seq)) | ((with_reducible apply CS_skip)) | ((with_reducible apply CS_cond_d); exact rfl; all_goals intro hb; all_goals try (exfalso; omega))
      all_goals first | (exfalso; contradiction) | (exfalso; omega) | (exfalso; simp at hb <;> omega) | skip
      refine CS_loop (ι := Nat × Int) (fun i => [(7, .pointer (some ⟨gr, 0, none⟩)), (11, .slice (some ⟨go, 0, none⟩) rs.length co), (12, .int .i64 (i.1 : Int)), (13, .int .i64 i.2), (14, .int .i64 (k : Int))]) (fun i => Wd w2 [rcE gr (.slice Al ml kl) (.slice An mn kn), intE go co (ordL rs)]) (fun i => at0 ≤ i.1 ∧ i.1 ≤ P ∧ (i.1 = at0 → i.2 = ln) ∧ (at0 < i.1 → i.2 = -1)) (fun i => P - i.1) (at0, ln) ⟨by dsimp only; omega, by dsimp only; omega, fun _ => rfl, fun h => by dsimp only at h; omega⟩ ⟨rfl, rfl, rfl, rfl, rfl, trivial⟩ (fun _ hw => hw) ?_
      rintro ⟨a, l1⟩ ⟨b1, b2, b3, b4⟩
      dsimp only at b1 b2 b3 b4 ⊢
      obtain ⟨ra, hra⟩ : ∃ y, (srt rs)[a]? = some y := ⟨_, List.getElem?_eq_getElem (by omega)⟩
      have hoa : (ordL rs)[a]? = some ra.num := by simp [ordL, hra]
      by_cases ha : a = P
      · subst ha
        have hee : ra = rP := by rw [hra] at hP2; exact Option.some.inj hP2
        subst hee
        have hl1 : l1 < n.line := by
          by_cases he : a = at0
          · have := b3 he; have := hk2 he.symm; omega
          · have := b4 (by omega); omega
        repeat' first | ((with_reducible apply (LR_index_old (k))); exact rfl; exact rfl; exact rfl; exact rfl; exact y2; omega; exact hn; exact rfl; intro _ _) | ((with_reducible apply (LR_index_own (a))); exact rfl; exact rfl; exact rfl; exact rfl; omega; omega) | ((with_reducible apply (LR_load_own 1)); exact rfl; exact rfl; exact rfl; exact rfl; exact nth_fld _ (a) _ 0 _ hoa rfl) | ((with_reducible apply CS_seq)) | ((with_reducible apply CS_region)) | ((with_reducible apply CS_regionq_wd); kernel_rfl; kernel_rfl) | ((with_reducible apply RR_end)) | ((with_reducible apply LR_pure); exact rfl; exact rfl; exact rfl) | ((with_reducible apply LR_add); exact rfl; exact rfl; exact rfl; exact rfl; omega; omega) | ((with_reducible apply LR_field_own); exact rfl; exact rfl; exact rfl) | ((with_reducible apply LR_field); exact rfl; exact rfl; exact rfl) | ((with_reducible apply LR_load_own 0); exact rfl; exact rfl; exact rfl; exact rfl; exact rfl) | ((with_reducible apply LR_load_old); exact rfl; exact rfl; exact rfl; assumption; exact rfl) | ((with_reducible apply LR_len); exact rfl; exact rfl; exact rfl) | ((with_reducible apply post_seq)) | ((with_reducible apply post_then_exit)) | ((with_reducible apply post_block_n)) | ((with_reducible apply post_block_eq)) | ((with_reducible apply CS_skip)) | ((with_reducible apply CS_exit)) | ((with_reducible apply CS_cond_nd); exact rfl; all_goals intro hb; all_goals try (exfalso; omega)) | ((with_reducible apply CS_cond_d); exact rfl; all_goals intro hb; all_goals try (exfalso; omega)) | ((with_reducible apply LR_caseg_d); exact rfl; exact rfl; all_goals intro hb; all_goals try (exfalso; omega))
        all_goals first | (exfalso; contradiction) | (exfalso; omega) | (exfalso; simp at hb <;> omega) | skip
        exact post_round (i := (k, at0, ln)) (k + 1, a, n.line) ⟨by dsimp only; omega, fun h => by dsimp only at h; omega, fun n' _ hn' => by
          dsimp only at hn' ⊢
          rw [show k + 1 - 1 = k by omega, hn] at hn'
          cases hn'
          exact ⟨rfl, ra, hra, hP3⟩⟩ (by dsimp only; omega) ⟨rfl, rfl, rfl, rfl, rfl, trivial⟩ (fun _ hw => hw)
      · have hne : ¬ ra.num = n.rule := fun h => ha (num_at hnS hra hP2 (by rw [h, hP3]))
        repeat' first | ((with_reducible apply (LR_index_old (k))); exact rfl; exact rfl; exact rfl; exact rfl; exact y2; omega; exact hn; exact rfl; intro _ _) | ((with_reducible apply (LR_index_own (a))); exact rfl; exact rfl; exact rfl; exact rfl; omega; omega) | ((with_reducible apply (LR_load_own 1)); exact rfl; exact rfl; exact rfl; exact rfl; exact nth_fld _ (a) _ 0 _ hoa rfl) | ((with_reducible apply CS_seq)) | ((with_reducible apply CS_block)) | ((with_reducible apply CS_region)) | ((with_reducible apply CS_regionq_wd); kernel_rfl; kernel_rfl) | ((with_reducible apply RR_end)) | ((with_reducible apply LR_pure); exact rfl; exact rfl; exact rfl) | ((with_reducible apply LR_add); exact rfl; exact rfl; exact rfl; exact rfl; omega; omega) | ((with_reducible apply LR_field_own); exact rfl; exact rfl; exact rfl) | ((with_reducible apply LR_field); exact rfl; exact rfl; exact rfl) | ((with_reducible apply LR_load_own 0); exact rfl; exact rfl; exact rfl; exact rfl; exact rfl) | ((with_reducible apply LR_load_old); exact rfl; exact rfl; exact rfl; assumption; exact rfl) | ((with_reducible apply LR_len); exact rfl; exact rfl; exact rfl) | ((with_reducible apply post_seq)) | ((with_reducible apply post_block_n)) | ((with_reducible apply CS_skip)) | ((with_reducible apply CS_cond_nd); exact rfl; all_goals intro hb; all_goals try (exfalso; omega)) | ((with_reducible apply LR_caseg_d); exact rfl; exact rfl; all_goals intro hb; all_goals try (exfalso; omega))
        all_goals first | (exfalso; contradiction) | (exfalso; omega) | (exfalso; simp at hb <;> omega) | skip
        exact post_round (i := (a, l1)) (a + 1, -1) ⟨by dsimp only; omega, by dsimp only; omega, fun h => by dsimp only at h; omega, fun _ => rfl⟩ (by dsimp only; omega) ⟨rfl, rfl, rfl, rfl, rfl, trivial⟩ (fun _ hw => hw)
    · skip
      repeat' first | ((with_reducible apply LR_len_sl); exact rfl; exact rfl; exact rfl; exact y2) | ((with_reducible apply CS_seq)) | ((with_reducible apply CS_region)) | ((with_reducible apply RR_end)) | ((with_reducible apply LR_pure); exact rfl; exact rfl; exact rfl) | ((with_reducible apply LR_field_own); exact rfl; exact rfl; exact rfl) | ((with_reducible apply LR_load_own 0); exact rfl; exact rfl; exact rfl; exact rfl; exact rfl) | ((with_reducible apply post_seq)) | ((with_reducible apply post_then_exit)) | ((with_reducible apply post_block_eq)) | ((with_reducible apply CS_ret)) | ((with_reducible apply CS_exit)) | ((with_reducible apply CS_cond_d); exact rfl; all_goals intro hb; all_goals try (exfalso; omega))
      all_goals first | (exfalso; contradiction) | (exfalso; omega) | (exfalso; simp at hb <;> omega) | skip
      all_goals (apply ret_boolr k2; exact rfl; exact rfl; rfl)
  · obtain ⟨rfl, rfl, rfl⟩ := y3.2 hR
    repeat' first | ((with_reducible apply (LR_call (f := 43))); exact rfl; exact rfl; exact rfl; exact fun w hw => sReceiptOf_no v0 s v1 c v2 cp v3 rs w (z0.mono hw) (z1.mono hw) (z2.mono hw) (z3.mono hw) (fun r hr => (zg r hr).mono hw) hR) | ((with_reducible apply (LR_call (f := 57))); exact rfl; exact rfl; exact rfl; exact fun w hw => equalReceipt_ok (.slice Al ml kl) (.slice An mn kn) _ _ [] [] w (y1.mono hw) (y2.mono hw) (Sl.nil w) (Sl.nil w)) | ((with_reducible apply CS_seq)) | ((with_reducible apply CS_region)) | ((with_reducible apply RR_end)) | ((with_reducible apply LR_pure); exact rfl; exact rfl; exact rfl) | ((with_reducible apply LR_neqb); exact rfl; exact rfl; exact rfl; exact rfl) | ((with_reducible apply LR_eqb); exact rfl; exact rfl; exact rfl; exact rfl) | ((with_reducible apply LR_load_own_agg 0); exact rfl; exact rfl; exact rfl; exact rfl; exact rfl) | ((with_reducible apply LR_load_own_agg 1); exact rfl; exact rfl; exact rfl; exact rfl; exact rfl) | ((with_reducible apply LS_alloc); exact rfl; exact rfl; exact rfl; intro _) | ((with_reducible apply LS_store_agg 0); exact rfl; exact rfl; exact rfl; exact rfl; exact rfl; exact rfl; exact rfl; exact rfl) | ((with_reducible apply post_seq)) | ((with_reducible apply post_then_ret)) | ((with_reducible apply CS_ret)) | ((with_reducible apply CS_cond_t); exact rfl)
    all_goals first | (exfalso; contradiction) | (exfalso; omega) | (exfalso; simp at hb <;> omega) | skip
    all_goals (apply ret_boolr k2; exact rfl; exact rfl; rfl)
end Go.Proofs.YtbgfkhliideegaaGreat
