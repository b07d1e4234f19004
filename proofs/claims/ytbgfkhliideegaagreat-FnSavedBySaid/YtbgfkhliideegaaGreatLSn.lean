/- The walks of the laws on what is to be paid: notes. No condition beyond those that each theorem states. -/
import Derived.Test.YtbgfkhliideegaaGreatWRc5
import Derived.Test.YtbgfkhliideegaaGreatWDrX
namespace Go.Proofs.YtbgfkhliideegaaGreat
open Go.RowKit
attribute [local irreducible] Calls
set_option maxHeartbeats 4000000 in
theorem FnSavedBy_ok (v : Value) (l : List By) (w : World) (hs : Sl w v l) (hby : BytesOk l) : Calls Tryz.prog 14 #[v] w (Gives (.bool true) w) := by
  have hlen := hs.len; have hml : maxLen = 9223372036854775807 := rfl; simp only [maxLen] at hlen
  refine enter (vs := [v]) Tryz.func14 rfl Tryz.ntmps14 rfl ?_
  repeat' first | ((with_reducible apply LR_len_sl); exact rfl; exact rfl; exact rfl; exact hs) | ((with_reducible apply (LS_callr (f := 59))); exact rfl; exact rfl; exact rfl; exact fun w hw => DrawSavedBy_ok v l w (hs.mono hw) hby; rintro ⟨⟨v0, s, v1, c, v2, cp, v3, rs⟩, m⟩ w1 k1 ⟨z0, z1, z2, z3, zg, zc, zp, zr⟩; dsimp only at z0 z1 z2 z3 zg zc zp zr ⊢) | ((with_reducible apply CS_seq)) | ((with_reducible apply CS_region)) | ((with_reducible apply RR_end)) | ((with_reducible apply LR_pure); exact rfl; exact rfl; exact rfl) | ((with_reducible apply post_seq)) | ((with_reducible apply post_then_ret)) | ((with_reducible apply CS_skip)) | ((with_reducible apply CS_ret)) | ((with_reducible apply CS_cond_d); exact rfl; all_goals intro hb; all_goals try (exfalso; omega))
  · apply ret_bool; exact rfl; exact rfl; rfl
  by_cases hR : RcOk s c cp rs
  · obtain ⟨n, hn⟩ := savX_ex s c cp rs m
    have hn1 := hn.1 hR
    have hru := ru_bd8 hR m
    have hV := hR.2.2.1
    have hl6 := hV.1
    have hc8 := hR.1.2.1
    have h48 := rcp_len48 hR
    have hnt := rcp_nt (cp := cp) hR.1 hR.all
    have hbd := ru_take_bd hR m
    have hcap : ∀ r ∈ rs, 0 < r.cap → r.num = m → n ≤ r.cap := fun r hr h0 he => by rw [hn1, ← he]; exact ru_capR hR hr h0
    have h100 : savX s c cp rs 100 0 := ⟨fun _ => (ru_100 hR).symm, fun h' => absurd hR h'⟩
    repeat' first | ((with_reducible apply (LR_call (f := 58))); exact rfl; exact rfl; exact rfl; exact fun w hw => iSavedBy_g v0 s v1 c v2 cp v3 rs w (z0.mono hw) (z1.mono hw) (z2.mono hw) (z3.mono hw) (fun r hr => (zg r hr).mono hw) m n hn) | ((with_reducible apply (LR_call (f := 60))); exact rfl; exact rfl; exact rfl; exact fun w hw => sSavedBy_g v0 s v1 c v2 cp v3 rs w (z0.mono hw) (z1.mono hw) (z2.mono hw) (z3.mono hw) (fun r hr => (zg r hr).mono hw) m n hn) | ((with_reducible apply (LS_callx (f := 44))); exact rfl; exact rfl; exact rfl; exact fun w hw => iReceiptOf_ok v0 s v1 c v2 cp v3 rs w (z0.mono hw) (z1.mono hw) (z2.mono hw) (z3.mono hw) (fun r hr => (zg r hr).mono hw) hR; rintro ⟨g1, c1, g2, c2⟩ ⟨i1, i2, i3, i4⟩; dsimp only at i1 i2 i3 i4 ⊢) | ((with_reducible apply CS_seq)) | ((with_reducible apply CS_block)) | ((with_reducible apply CS_region)) | ((with_reducible apply RR_end)) | ((with_reducible apply LR_pure); exact rfl; exact rfl; exact rfl) | ((with_reducible apply LS_alloc); exact rfl; exact rfl; exact rfl; intro _) | ((with_reducible apply LS_store_agg 0); exact rfl; exact rfl; exact rfl; exact rfl; exact rfl; exact rfl; exact rfl; exact rfl) | ((with_reducible apply post_seq)) | ((with_reducible apply CS_skip)) | ((with_reducible apply CS_cond_d); exact rfl; all_goals intro hb; all_goals try (exfalso; omega)) | ((with_reducible apply LR_caseg_nd); exact rfl; exact rfl; all_goals intro hb; all_goals try (exfalso; omega))
    all_goals first | (exfalso; contradiction) | (exfalso; omega) | (exfalso; simp at hb <;> omega) | skip
    rename_i gr
    generalize (rcp s c cp (srt rs)).2 = ns at *
    refine CS_loop (ι := Nat) (fun i => [(3, v0), (4, v1), (5, v2), (6, v3), (7, .int .i64 m), (8, .int .i64 n), (9, .pointer (some ⟨gr, 0, none⟩)), (10, .bool true), (11, .int .i64 (gS (ruF m) (ns.take i))), (12, .int .i64 (i : Int))]) (fun i => Wd w1 [rcE gr (.slice (some ⟨g1, 0, none⟩) c.length c1) (.slice (some ⟨g2, 0, none⟩) ns.length c2), ntE g2 c2 ns]) (fun i => i ≤ ns.length) (fun i => ns.length - i) 0 (by omega) ⟨rfl, rfl, rfl, rfl, rfl, rfl, rfl, rfl, rfl, rfl, trivial⟩ (fun _ hw => hw.picks [0, 1] rfl) ?_
    intro k b1
    try dsimp only at b1 ⊢
    have hbk := hbd k
    by_cases hk : k < ns.length
    · obtain ⟨x, hx⟩ : ∃ y, ns[k]? = some y := ⟨_, List.getElem?_eq_getElem hk⟩
      have hst := gS_take (ruF m) hx
      have hxa := (hnt x (List.mem_of_getElem? hx)).amt
      by_cases hxm : x.rule = m
      · have hst' : gS (ruF m) (ns.take (k + 1)) = gS (ruF m) (ns.take k) + x.amt := by rw [hst]; unfold ruF; rw [if_pos hxm]
        repeat' first | ((with_reducible apply (LR_index_own (k))); exact rfl; exact rfl; exact rfl; exact rfl; omega; omega) | ((with_reducible apply (LR_load_own 1)); exact rfl; exact rfl; exact rfl; exact rfl; exact nth_fld _ (k) x 1 _ hx rfl) | ((with_reducible apply (LR_load_own 1)); exact rfl; exact rfl; exact rfl; exact rfl; exact nth_fld _ (k) x 2 _ hx rfl) | ((with_reducible apply CS_seq)) | ((with_reducible apply CS_block)) | ((with_reducible apply CS_region)) | ((with_reducible apply RR_end)) | ((with_reducible apply LR_pure); exact rfl; exact rfl; exact rfl) | ((with_reducible apply LR_add); exact rfl; exact rfl; exact rfl; exact rfl; omega; omega) | ((with_reducible apply LR_field_own); exact rfl; exact rfl; exact rfl) | ((with_reducible apply LR_load_own 0); exact rfl; exact rfl; exact rfl; exact rfl; exact rfl) | ((with_reducible apply LR_len); exact rfl; exact rfl; exact rfl) | ((with_reducible apply post_seq)) | ((with_reducible apply post_block_n)) | ((with_reducible apply CS_skip)) | ((with_reducible apply CS_cond_d); exact rfl; all_goals intro hb; all_goals try (exfalso; omega))
        all_goals first | (exfalso; contradiction) | (exfalso; omega) | (exfalso; simp at hb <;> omega) | skip
        exact post_round (i := k) (k + 1) (by omega) (by omega) ⟨rfl, rfl, rfl, rfl, rfl, rfl, rfl, rfl, by rw [hst']; rfl, rfl, trivial⟩ (fun _ hw => hw)
      · have hst' : gS (ruF m) (ns.take (k + 1)) = gS (ruF m) (ns.take k) := by rw [hst]; unfold ruF; rw [if_neg hxm]; omega
        repeat' first | ((with_reducible apply (LR_index_own (k))); exact rfl; exact rfl; exact rfl; exact rfl; omega; omega) | ((with_reducible apply (LR_load_own 1)); exact rfl; exact rfl; exact rfl; exact rfl; exact nth_fld _ (k) x 1 _ hx rfl) | ((with_reducible apply CS_seq)) | ((with_reducible apply CS_block)) | ((with_reducible apply CS_region)) | ((with_reducible apply RR_end)) | ((with_reducible apply LR_pure); exact rfl; exact rfl; exact rfl) | ((with_reducible apply LR_add); exact rfl; exact rfl; exact rfl; exact rfl; omega; omega) | ((with_reducible apply LR_field_own); exact rfl; exact rfl; exact rfl) | ((with_reducible apply LR_load_own 0); exact rfl; exact rfl; exact rfl; exact rfl; exact rfl) | ((with_reducible apply LR_len); exact rfl; exact rfl; exact rfl) | ((with_reducible apply post_seq)) | ((with_reducible apply post_block_n)) | ((with_reducible apply CS_skip)) | ((with_reducible apply CS_cond_d); exact rfl; all_goals intro hb; all_goals try (exfalso; omega))
        all_goals first | (exfalso; contradiction) | (exfalso; omega) | (exfalso; simp at hb <;> omega) | skip
        exact post_round (i := k) (k + 1) (by omega) (by omega) ⟨rfl, rfl, rfl, rfl, rfl, rfl, rfl, rfl, by rw [hst']; rfl, rfl, trivial⟩ (fun _ hw => hw)
    · have hke : ns.take k = ns := List.take_of_length_le (by omega)
      rw [hke, ← hn1]
      repeat' first | ((with_reducible apply CS_seq)) | ((with_reducible apply CS_block)) | ((with_reducible apply CS_region)) | ((with_reducible apply RR_end)) | ((with_reducible apply LR_pure); exact rfl; exact rfl; exact rfl) | ((with_reducible apply LR_field_own); exact rfl; exact rfl; exact rfl) | ((with_reducible apply LR_load_own 0); exact rfl; exact rfl; exact rfl; exact rfl; exact rfl) | ((with_reducible apply LR_len); exact rfl; exact rfl; exact rfl) | ((with_reducible apply post_seq)) | ((with_reducible apply post_then_exit)) | ((with_reducible apply post_block_eq)) | ((with_reducible apply CS_exit)) | ((with_reducible apply CS_cond_d); exact rfl; all_goals intro hb; all_goals try (exfalso; omega))
      all_goals first | (exfalso; contradiction) | (exfalso; omega) | (exfalso; simp at hb <;> omega) | skip
      refine CS_loop (ι := Nat) (fun i => [(3, v0), (4, v1), (5, v2), (6, v3), (7, .int .i64 m), (8, .int .i64 n), (10, .bool true), (11, .int .i64 n), (13, .int .i64 (i : Int))]) (fun i => Wd w1 []) (fun i => i ≤ rs.length) (fun i => rs.length - i) 0 (by omega) ⟨rfl, rfl, rfl, rfl, rfl, rfl, rfl, rfl, rfl, trivial⟩ (fun _ hw => hw.nil) ?_
      intro j hjl
      try dsimp only at hjl ⊢
      by_cases hj : j < rs.length
      · obtain ⟨r, hr⟩ : ∃ y, rs[j]? = some y := ⟨_, List.getElem?_eq_getElem hj⟩
        have hcr := hcap r (List.mem_of_getElem? hr)
        by_cases hnum : r.num = m
        · by_cases hc0 : 0 < r.cap
          · have hle := hcr hc0 hnum
            repeat' first | ((with_reducible apply LR_len_sl); exact rfl; exact rfl; exact rfl; exact z3) | ((with_reducible apply (LR_index_old (j))); exact rfl; exact rfl; exact rfl; exact rfl; exact z3; omega; exact hr; exact rfl; intro _ _) | ((with_reducible apply CS_seq)) | ((with_reducible apply CS_block)) | ((with_reducible apply CS_region)) | ((with_reducible apply RR_end)) | ((with_reducible apply LR_pure); exact rfl; exact rfl; exact rfl) | ((with_reducible apply LR_add); exact rfl; exact rfl; exact rfl; exact rfl; omega; omega) | ((with_reducible apply LR_field); exact rfl; exact rfl; exact rfl) | ((with_reducible apply LR_load_old); exact rfl; exact rfl; exact rfl; assumption; exact rfl) | ((with_reducible apply post_seq)) | ((with_reducible apply post_block_n)) | ((with_reducible apply CS_skip)) | ((with_reducible apply CS_cond_d); exact rfl; all_goals intro hb; all_goals try (exfalso; omega)) | ((with_reducible apply LR_caseg_d); exact rfl; exact rfl; all_goals intro hb; all_goals try (exfalso; omega))
            all_goals first | (exfalso; contradiction) | (exfalso; omega) | (exfalso; simp at hb <;> omega) | skip
            all_goals exact post_round (i := j) (j + 1) (by omega) (by omega) ⟨rfl, rfl, rfl, rfl, rfl, rfl, rfl, rfl, rfl, trivial⟩ (fun _ hw => hw.nil)
          · skip
            repeat' first | ((with_reducible apply LR_len_sl); exact rfl; exact rfl; exact rfl; exact z3) | ((with_reducible apply (LR_index_old (j))); exact rfl; exact rfl; exact rfl; exact rfl; exact z3; omega; exact hr; exact rfl; intro _ _) | ((with_reducible apply CS_seq)) | ((with_reducible apply CS_block)) | ((with_reducible apply CS_region)) | ((with_reducible apply RR_end)) | ((with_reducible apply LR_pure); exact rfl; exact rfl; exact rfl) | ((with_reducible apply LR_skip); exact rfl; exact rfl) | ((with_reducible apply LR_add); exact rfl; exact rfl; exact rfl; exact rfl; omega; omega) | ((with_reducible apply LR_field); exact rfl; exact rfl; exact rfl) | ((with_reducible apply LR_load_old); exact rfl; exact rfl; exact rfl; assumption; exact rfl) | ((with_reducible apply post_seq)) | ((with_reducible apply post_block_n)) | ((with_reducible apply CS_skip)) | ((with_reducible apply CS_cond_f); exact rfl) | ((with_reducible apply CS_cond_d); exact rfl; all_goals intro hb; all_goals try (exfalso; omega)) | ((with_reducible apply LR_caseg_d); exact rfl; exact rfl; all_goals intro hb; all_goals try (exfalso; omega))
            all_goals first | (exfalso; contradiction) | (exfalso; omega) | (exfalso; simp at hb <;> omega) | skip
            all_goals exact post_round (i := j) (j + 1) (by omega) (by omega) ⟨rfl, rfl, rfl, rfl, rfl, rfl, rfl, rfl, rfl, trivial⟩ (fun _ hw => hw.nil)
        · skip
          repeat' first | ((with_reducible apply LR_len_sl); exact rfl; exact rfl; exact rfl; exact z3) | ((with_reducible apply (LR_index_old (j))); exact rfl; exact rfl; exact rfl; exact rfl; exact z3; omega; exact hr; exact rfl; intro _ _) | ((with_reducible apply CS_seq)) | ((with_reducible apply CS_block)) | ((with_reducible apply CS_region)) | ((with_reducible apply RR_end)) | ((with_reducible apply LR_pure); exact rfl; exact rfl; exact rfl) | ((with_reducible apply LR_skip); exact rfl; exact rfl) | ((with_reducible apply LR_add); exact rfl; exact rfl; exact rfl; exact rfl; omega; omega) | ((with_reducible apply LR_field); exact rfl; exact rfl; exact rfl) | ((with_reducible apply LR_load_old); exact rfl; exact rfl; exact rfl; assumption; exact rfl) | ((with_reducible apply post_seq)) | ((with_reducible apply post_block_n)) | ((with_reducible apply CS_skip)) | ((with_reducible apply CS_cond_f); exact rfl) | ((with_reducible apply CS_cond_d); exact rfl; all_goals intro hb; all_goals try (exfalso; omega)) | ((with_reducible apply LR_caseg_d); exact rfl; exact rfl; all_goals intro hb; all_goals try (exfalso; omega))
          all_goals first | (exfalso; contradiction) | (exfalso; omega) | (exfalso; simp at hb <;> omega) | skip
          all_goals exact post_round (i := j) (j + 1) (by omega) (by omega) ⟨rfl, rfl, rfl, rfl, rfl, rfl, rfl, rfl, rfl, trivial⟩ (fun _ hw => hw.nil)
      · skip
        repeat' first | ((with_reducible apply LR_len_sl); exact rfl; exact rfl; exact rfl; exact z3) | ((with_reducible apply (LR_call (f := 58))); exact rfl; exact rfl; exact rfl; exact fun w hw => iSavedBy_g v0 s v1 c v2 cp v3 rs w (z0.mono hw) (z1.mono hw) (z2.mono hw) (z3.mono hw) (fun r hr => (zg r hr).mono hw) 100 0 h100) | ((with_reducible apply CS_seq)) | ((with_reducible apply CS_region)) | ((with_reducible apply RR_end)) | ((with_reducible apply LR_pure); exact rfl; exact rfl; exact rfl) | ((with_reducible apply post_seq)) | ((with_reducible apply post_then_exit)) | ((with_reducible apply post_block_eq)) | ((with_reducible apply CS_ret)) | ((with_reducible apply CS_exit)) | ((with_reducible apply CS_cond_d); exact rfl; all_goals intro hb; all_goals try (exfalso; omega)) | ((with_reducible apply LR_caseg_d); exact rfl; exact rfl; all_goals intro hb; all_goals try (exfalso; omega))
        all_goals first | (exfalso; contradiction) | (exfalso; omega) | (exfalso; simp at hb <;> omega) | skip
        all_goals (apply ret_boolr k1; exact rfl; exact rfl; first | rfl | exact decide_eq_true rfl | simp)
  · obtain ⟨n, hn⟩ := savX_ex s c cp rs m
    have hn1 := hn.2 hR
    repeat' first | ((with_reducible apply (LR_call (f := 58))); exact rfl; exact rfl; exact rfl; exact fun w hw => iSavedBy_g v0 s v1 c v2 cp v3 rs w (z0.mono hw) (z1.mono hw) (z2.mono hw) (z3.mono hw) (fun r hr => (zg r hr).mono hw) m n hn) | ((with_reducible apply (LR_call (f := 60))); exact rfl; exact rfl; exact rfl; exact fun w hw => sSavedBy_g v0 s v1 c v2 cp v3 rs w (z0.mono hw) (z1.mono hw) (z2.mono hw) (z3.mono hw) (fun r hr => (zg r hr).mono hw) m n hn) | ((with_reducible apply CS_seq)) | ((with_reducible apply CS_region)) | ((with_reducible apply RR_end)) | ((with_reducible apply LR_pure); exact rfl; exact rfl; exact rfl) | ((with_reducible apply post_seq)) | ((with_reducible apply post_then_ret)) | ((with_reducible apply CS_ret)) | ((with_reducible apply CS_cond_d); exact rfl; all_goals intro hb; all_goals try (exfalso; omega)) | ((with_reducible apply LR_caseg_nd); exact rfl; exact rfl; all_goals intro hb; all_goals try (exfalso; omega))
    all_goals first | (exfalso; contradiction) | (exfalso; omega) | (exfalso; simp at hb <;> omega) | skip
    all_goals (apply ret_boolr k1; exact rfl; exact rfl; first | rfl | exact decide_eq_true rfl | simp)
end Go.Proofs.YtbgfkhliideegaaGreat
