/- The walks of the laws on receipts, carts. No condition beyond those that each theorem states. -/
import Derived.Test.YtbgfkhliideegaaGreatWRc5
import Derived.Test.YtbgfkhliideegaaGreatWDrX
namespace Go.Proofs.YtbgfkhliideegaaGreat
open Go.RowKit
attribute [local irreducible] Calls
set_option maxHeartbeats 4000000 in
theorem FnReceiptOfCart_ok (v : Value) (l : List By) (w : World) (hs : Sl w v l) (hby : BytesOk l) : Calls Tryz.prog 9 #[v] w (Gives (.bool true) w) := by
  have hlen := hs.len
  have hml : maxLen = 9223372036854775807 := rfl
  simp only [maxLen] at hlen
  refine enter (vs := [v]) Tryz.func9 rfl Tryz.ntmps9 rfl ?_
  repeat' first | ((with_reducible apply LR_len_sl); exact rfl; exact rfl; exact rfl; exact hs) | ((with_reducible apply (LS_callr (f := 56))); exact rfl; exact rfl; exact rfl; exact fun w hw => DrawReceiptOf_ok v l w (hs.mono hw) hby; rintro ⟨v0, s, v1, c, v2, cp, v3, rs⟩ w1 k1 ⟨z0, z1, z2, z3, zg, zc, zp, zr⟩; dsimp only at z0 z1 z2 z3 zg zc zp zr ⊢) | ((with_reducible apply (LS_callr (f := 44))); exact rfl; exact rfl; exact rfl; exact fun w hw => iReceiptOf_r v0 s v1 c v2 cp v3 rs _ (z0.mono hw) (z1.mono hw) (z2.mono hw) (z3.mono hw) (fun r hr => (zg r hr).mono hw); rintro ⟨vl, vn, xs, ns, bb⟩ w2 k2 ⟨y1, y2, y3⟩; dsimp only at y1 y2 y3 ⊢; (obtain ⟨Al, ml, kl, hvx1, hqx1⟩ := id y1); (obtain ⟨An, mn, kn, hvx2, hqx2⟩ := id y2); subst hvx1; subst hvx2) | ((with_reducible apply CS_seq)) | ((with_reducible apply CS_region)) | ((with_reducible apply RR_end)) | ((with_reducible apply LR_pure); exact rfl; exact rfl; exact rfl) | ((with_reducible apply LS_alloc); exact rfl; exact rfl; exact rfl; intro _) | ((with_reducible apply LS_store_agg 0); exact rfl; exact rfl; exact rfl; exact rfl; exact rfl; exact rfl; exact rfl; exact rfl) | ((with_reducible apply post_seq)) | ((with_reducible apply post_then_ret)) | ((with_reducible apply CS_skip)) | ((with_reducible apply CS_ret)) | ((with_reducible apply CS_cond_d); exact rfl; all_goals intro hb; all_goals try (exfalso; omega))
  · apply ret_bool; exact rfl; exact rfl; rfl
  have z0 := z0.mono k2
  have z1 := z1.mono k2
  have z2 := z2.mono k2
  have z3 := z3.mono k2
  have zg : ROks w2 rs := fun r hr => (zg r hr).mono k2
  have k2 := k1.thn k2
  by_cases hR : RcOk s c cp rs
  · obtain ⟨rfl, hxs, hns⟩ := y3.1 hR
    have hlf := rcp_left (cp := cp) hR.1 hR.all
    have hxl : xs.length = c.length := by rw [hxs]; exact hlf.1
    have hal := amts_len s c
    have hc8 := hR.1.2.1
    repeat' first | ((with_reducible apply (LS_callx (f := 43))); exact rfl; exact rfl; exact rfl; exact fun w hw => sReceiptOf_ok v0 s v1 c v2 cp v3 rs w (z0.mono hw) (z1.mono hw) (z2.mono hw) (z3.mono hw) (fun r hr => (zg r hr).mono hw) hR; rintro ⟨g1, c1, g2, c2⟩ ⟨i1, i2, i3, i4⟩; dsimp only at i1 i2 i3 i4 ⊢; rw [← hns] at i3 ⊢) | ((with_reducible apply (LR_call (f := 57))); exact rfl; exact rfl; exact rfl; exact fun w hw => equalReceipt_ok (.slice Al ml kl) (.slice An mn kn) _ _ xs ns w (y1.mono hw) (y2.mono hw) (own_sl 1 hw rfl (by rw [hxs]) (by rw [hxs]; exact hlf.1.symm) i1 i2) (own_sl 2 hw rfl (by rw [hns]) rfl i3 i4)) | ((with_reducible apply (LS_callx (f := 55))); exact rfl; exact rfl; exact rfl; exact fun w hw => iLineAmounts_ok v0 s v1 c w (z0.mono hw) (z1.mono hw) hR.1; rintro ⟨gl, cl⟩ ⟨a1, a2⟩; dsimp only at a1 a2 ⊢; rw [hal] at a1 ⊢) | ((with_reducible apply CS_seq)) | ((with_reducible apply CS_block)) | ((with_reducible apply CS_region)) | ((with_reducible apply RR_end)) | ((with_reducible apply LR_pure); exact rfl; exact rfl; exact rfl) | ((with_reducible apply LR_neqb); exact rfl; exact rfl; exact rfl; exact rfl) | ((with_reducible apply LR_load_own_agg 0); exact rfl; exact rfl; exact rfl; exact rfl; exact rfl) | ((with_reducible apply LR_load_own_agg 3); exact rfl; exact rfl; exact rfl; exact rfl; exact rfl) | ((with_reducible apply LS_alloc); exact rfl; exact rfl; exact rfl; intro _) | ((with_reducible apply LS_store_agg 0); exact rfl; exact rfl; exact rfl; exact rfl; exact rfl; exact rfl; exact rfl; exact rfl) | ((with_reducible apply post_seq)) | ((with_reducible apply CS_skip)) | ((with_reducible apply CS_cond_f); exact rfl)
    all_goals first | (exfalso; contradiction) | (exfalso; omega) | (exfalso; simp at hb <;> omega) | skip
    rename_i gr _
    refine CS_loop (ι := Nat) (fun i => [(4, v1), (7, .pointer (some ⟨gr, 0, none⟩)), (11, .slice (some ⟨gl, 0, none⟩) c.length cl), (12, .int .i64 (i : Int))]) (fun i => Wd w2 [rcE gr (.slice Al ml kl) (.slice An mn kn), intE gl cl (amts s c)]) (fun i => i ≤ c.length) (fun i => c.length - i) 0 (by omega) ⟨rfl, rfl, rfl, rfl, trivial⟩ (fun _ hw => hw.picks [4, 0] rfl) ?_
    intro k hkl
    try dsimp only at hkl ⊢
    by_cases hk : k < c.length
    · obtain ⟨x, hx⟩ : ∃ y, xs[k]? = some y := ⟨_, List.getElem?_eq_getElem (by omega)⟩
      obtain ⟨m, hm⟩ : ∃ y, (amts s c)[k]? = some y := ⟨_, List.getElem?_eq_getElem (by omega)⟩
      have hxm := hlf.2.2 k x m (by rw [← hxs]; exact hx) hm
      repeat' first | ((with_reducible apply LR_len_sl); exact rfl; exact rfl; exact rfl; exact y1) | ((with_reducible apply (LR_index_old (k))); exact rfl; exact rfl; exact rfl; exact rfl; exact y1; omega; exact hx; exact rfl; intro _ _) | ((with_reducible apply (LR_index_own (k))); exact rfl; exact rfl; exact rfl; exact rfl; omega; omega) | ((with_reducible apply (LR_load_own 1)); exact rfl; exact rfl; exact rfl; exact rfl; exact nth_fld _ (k) _ 0 _ hm rfl) | ((with_reducible apply CS_seq)) | ((with_reducible apply CS_block)) | ((with_reducible apply CS_region)) | ((with_reducible apply CS_regionq_wd); kernel_rfl; kernel_rfl) | ((with_reducible apply RR_end)) | ((with_reducible apply LR_pure); exact rfl; exact rfl; exact rfl) | ((with_reducible apply LR_add); exact rfl; exact rfl; exact rfl; exact rfl; omega; omega) | ((with_reducible apply LR_field_own); exact rfl; exact rfl; exact rfl) | ((with_reducible apply LR_load_own 0); exact rfl; exact rfl; exact rfl; exact rfl; exact rfl) | ((with_reducible apply LR_load_old0); exact rfl; exact rfl; exact rfl; assumption; exact rfl) | ((with_reducible apply LR_len); exact rfl; exact rfl; exact rfl) | ((with_reducible apply post_seq)) | ((with_reducible apply post_block_n)) | ((with_reducible apply CS_skip)) | ((with_reducible apply CS_cond_d); exact rfl; all_goals intro hb; all_goals try (exfalso; omega)) | ((with_reducible apply LR_caseg_d); exact rfl; exact rfl; all_goals intro hb; all_goals try (exfalso; omega))
      all_goals first | (exfalso; contradiction) | (exfalso; omega) | (exfalso; simp at hb <;> omega) | skip
      all_goals exact post_round (i := k) (k + 1) (by omega) (by omega) ⟨rfl, rfl, rfl, rfl, trivial⟩ (fun _ hw => hw)
    · skip
      repeat' first | ((with_reducible apply LR_len_sl); exact rfl; exact rfl; exact rfl; exact y1) | ((with_reducible apply LR_len_sl); exact rfl; exact rfl; exact rfl; exact z1) | ((with_reducible apply CS_seq)) | ((with_reducible apply CS_region)) | ((with_reducible apply RR_end)) | ((with_reducible apply LR_pure); exact rfl; exact rfl; exact rfl) | ((with_reducible apply LR_field_own); exact rfl; exact rfl; exact rfl) | ((with_reducible apply LR_load_own 0); exact rfl; exact rfl; exact rfl; exact rfl; exact rfl) | ((with_reducible apply post_seq)) | ((with_reducible apply post_then_exit)) | ((with_reducible apply post_block_eq)) | ((with_reducible apply CS_ret)) | ((with_reducible apply CS_exit)) | ((with_reducible apply CS_cond_d); exact rfl; all_goals intro hb; all_goals try (exfalso; omega))
      all_goals first | (exfalso; contradiction) | (exfalso; omega) | (exfalso; simp at hb <;> omega) | skip
      all_goals (apply ret_boolr k2; exact rfl; exact rfl; first | rfl | simp [hxl])
  · obtain ⟨rfl, rfl, rfl⟩ := y3.2 hR
    repeat' first | ((with_reducible apply (LR_call (f := 43))); exact rfl; exact rfl; exact rfl; exact fun w hw => sReceiptOf_no v0 s v1 c v2 cp v3 rs w (z0.mono hw) (z1.mono hw) (z2.mono hw) (z3.mono hw) (fun r hr => (zg r hr).mono hw) hR) | ((with_reducible apply (LR_call (f := 57))); exact rfl; exact rfl; exact rfl; exact fun w hw => equalReceipt_ok (.slice Al ml kl) (.slice An mn kn) _ _ [] [] w (y1.mono hw) (y2.mono hw) (Sl.nil w) (Sl.nil w)) | ((with_reducible apply CS_seq)) | ((with_reducible apply CS_region)) | ((with_reducible apply RR_end)) | ((with_reducible apply LR_pure); exact rfl; exact rfl; exact rfl) | ((with_reducible apply LR_neqb); exact rfl; exact rfl; exact rfl; exact rfl) | ((with_reducible apply LR_eqb); exact rfl; exact rfl; exact rfl; exact rfl) | ((with_reducible apply LR_load_own_agg 0); exact rfl; exact rfl; exact rfl; exact rfl; exact rfl) | ((with_reducible apply LR_load_own_agg 1); exact rfl; exact rfl; exact rfl; exact rfl; exact rfl) | ((with_reducible apply LS_alloc); exact rfl; exact rfl; exact rfl; intro _) | ((with_reducible apply LS_store_agg 0); exact rfl; exact rfl; exact rfl; exact rfl; exact rfl; exact rfl; exact rfl; exact rfl) | ((with_reducible apply post_seq)) | ((with_reducible apply post_then_ret)) | ((with_reducible apply CS_ret)) | ((with_reducible apply CS_cond_t); exact rfl)
    all_goals first | (exfalso; contradiction) | (exfalso; omega) | (exfalso; simp at hb <;> omega) | skip
    all_goals (apply ret_boolr k2; exact rfl; exact rfl; rfl)
end Go.Proofs.YtbgfkhliideegaaGreat
