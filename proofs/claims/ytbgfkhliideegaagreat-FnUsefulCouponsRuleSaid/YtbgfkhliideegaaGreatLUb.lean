/- The walks of the laws on useful coupons. No condition beyond those that each theorem states. -/
import Derived.Test.YtbgfkhliideegaaGreatLUa
import Derived.Test.YtbgfkhliideegaaGreatWDrX
namespace Go.Proofs.YtbgfkhliideegaaGreat
open Go.RowKit
attribute [local irreducible] Calls
set_option maxHeartbeats 8000000 in
theorem FnUsefulCouponsRule_ok (v : Value) (l : List By) (w : World) (hs : Sl w v l) (hby : BytesOk l) : Calls Tryz.prog 20 #[v] w (Gives (.bool true) w) := by
  have hlen := hs.len; have hml : maxLen = 9223372036854775807 := rfl; simp only [maxLen] at hlen
  refine enter (vs := [v]) Tryz.func20 rfl Tryz.ntmps20 rfl ?_
  repeat' first | ((with_reducible apply LR_len_sl); exact rfl; exact rfl; exact rfl; exact hs) | ((with_reducible apply (LS_callr (f := 21))); exact rfl; exact rfl; exact rfl; exact fun w hw => DrawUsefulCoupons_ok v l w (hs.mono hw) hby; rintro ⟨v0, s, v1, c, v2, cp, v3, rs⟩ w1 k1 ⟨z0, z1, z2, z3, zg, zc, zp, zr⟩; dsimp only at z0 z1 z2 z3 zg zc zp zr ⊢) | ((with_reducible apply (LS_callr (f := 22))); exact rfl; exact rfl; exact rfl; exact fun w hw => iUsefulCoupons_r v0 s v1 c v2 cp v3 rs _ (z0.mono hw) (z1.mono hw) (z2.mono hw) (z3.mono hw) (fun r hr => (zg r hr).mono hw); rintro ⟨vo, xs⟩ w2 k2 ⟨y1, y2⟩; dsimp only at y1 y2 ⊢) | ((with_reducible apply CS_seq)) | ((with_reducible apply CS_region)) | ((with_reducible apply RR_end)) | ((with_reducible apply LR_pure); exact rfl; exact rfl; exact rfl) | ((with_reducible apply post_seq)) | ((with_reducible apply post_then_ret)) | ((with_reducible apply CS_skip)) | ((with_reducible apply CS_ret)) | ((with_reducible apply CS_cond_d); exact rfl; all_goals intro hb; all_goals try (exfalso; omega))
  · apply ret_bool; exact rfl; exact rfl; rfl
  have z0 := z0.mono k2; have z1 := z1.mono k2; have z2 := z2.mono k2; have z3 := z3.mono k2; have zg : ROks w2 rs := fun r hr => (zg r hr).mono k2; have k2 := k1.thn k2
  by_cases hR : RcOk s c cp rs
  · have hxs := y2.1 hR
    have hl6 := hR.2.2.1.1
    have hc3 := hR.2.1.1
    have hul := useL_len (s := s) (c := c) (cp := cp) (rs := rs) cp.length
    rw [← hxs] at hul
    have hex : ∀ x ∈ xs, ∃ r ∈ rs, r.g.cp = x := fun x hx => by
      rw [hxs, useL_mem] at hx
      obtain ⟨j, h1, h2, h3⟩ := hx
      exact use_rule (k := j) (by rw [← h3, List.getD_eq_getElem?_getD, List.getElem?_eq_getElem h1]; rfl) h2
    repeat' first | ((with_reducible apply (LS_callx (f := 24))); exact rfl; exact rfl; exact rfl; exact fun w hw => sUsefulCoupons_ok v0 s v1 c v2 cp v3 rs w (z0.mono hw) (z1.mono hw) (z2.mono hw) (z3.mono hw) (fun r hr => (zg r hr).mono hw) hR; rintro ⟨g1, c1⟩ ⟨i1, i2⟩; dsimp only at i1 i2 ⊢; rw [← hxs] at i1 ⊢) | ((with_reducible apply (LR_call (f := 23))); exact rfl; exact rfl; exact rfl; exact fun w hw => equalInts_ok vo _ xs w (y1.mono hw) (own_sl 0 hw rfl rfl rfl i1 i2)) | ((with_reducible apply CS_seq)) | ((with_reducible apply CS_block)) | ((with_reducible apply CS_region)) | ((with_reducible apply RR_end)) | ((with_reducible apply LR_pure); exact rfl; exact rfl; exact rfl) | ((with_reducible apply post_seq)) | ((with_reducible apply CS_skip)) | ((with_reducible apply CS_cond_f); exact rfl)
    all_goals first | (exfalso; contradiction) | (exfalso; omega) | (exfalso; simp at hb <;> omega) | skip
    refine CS_loop (ι := Nat) (fun i => [(6, v3), (7, vo), (8, .int .i64 (i : Int))]) (fun i => Wd w2 []) (fun i => i ≤ xs.length) (fun i => xs.length - i) 0 (by omega) ⟨rfl, rfl, rfl, trivial⟩ (fun _ hw => hw.nil) ?_
    intro k hkl
    try dsimp only at hkl ⊢
    by_cases hk : k < xs.length
    · obtain ⟨x, hx⟩ : ∃ y, xs[k]? = some y := ⟨_, List.getElem?_eq_getElem hk⟩
      have hexx := hex x (List.mem_of_getElem? hx)
      repeat' first | ((with_reducible apply LR_len_sl); exact rfl; exact rfl; exact rfl; exact y1) | ((with_reducible apply CS_seq)) | ((with_reducible apply CS_block)) | ((with_reducible apply CS_region)) | ((with_reducible apply RR_end)) | ((with_reducible apply LR_pure); exact rfl; exact rfl; exact rfl) | ((with_reducible apply post_seq)) | ((with_reducible apply CS_skip)) | ((with_reducible apply CS_cond_d); exact rfl; all_goals intro hb; all_goals try (exfalso; omega))
      all_goals first | (exfalso; contradiction) | (exfalso; omega) | (exfalso; simp at hb <;> omega) | skip
      refine CS_loop (ι := Nat × Bool) (fun i => [(6, v3), (7, vo), (8, .int .i64 (k : Int)), (9, .bool i.2), (10, .int .i64 (i.1 : Int))]) (fun i => Wd w2 []) (fun i => i.1 ≤ rs.length ∧ (i.2 = true ↔ ExL rs (fun r => r.g.cp = x) i.1)) (fun i => rs.length - i.1) (0, false) ⟨by dsimp only; omega, by simp [ExL.zero]⟩ ⟨rfl, rfl, rfl, rfl, rfl, trivial⟩ (fun _ hw => hw) ?_
      rintro ⟨j, b⟩ ⟨b1, b2⟩
      dsimp only at b1 b2 ⊢
      by_cases hj : j < rs.length
      · obtain ⟨r, hr⟩ : ∃ y, rs[j]? = some y := ⟨_, List.getElem?_eq_getElem hj⟩
        have hsu := ExL.succ (P := fun r => r.g.cp = x) hr
        cases b
        · by_cases hcp : r.g.cp = x
          · skip
            repeat' first | ((with_reducible apply LR_len_sl); exact rfl; exact rfl; exact rfl; exact z3) | ((with_reducible apply LR_field); exact rfl; exact rfl; exact rfl) | ((with_reducible apply (LR_index_old (j))); exact rfl; exact rfl; exact rfl; exact rfl; exact z3; omega; exact hr; exact rfl; intro adx hpx; have hpx7 : Pt w2 (adx.add 7) [.int .i64 r.g.tot.lo, .int .i64 r.g.tot.hi, .slice r.g.A r.g.n r.g.c, .int .i64 r.g.cp] := hpx.drop 7) | ((with_reducible apply (LR_index_old (k))); exact rfl; exact rfl; exact rfl; exact rfl; exact y1; omega; exact hx; exact rfl; intro _ _) | ((with_reducible apply CS_seq)) | ((with_reducible apply CS_block)) | ((with_reducible apply CS_region)) | ((with_reducible apply CS_regionq_wd); kernel_rfl; kernel_rfl) | ((with_reducible apply RR_end)) | ((with_reducible apply LR_pure); exact rfl; exact rfl; exact rfl) | ((with_reducible apply LR_add); exact rfl; exact rfl; exact rfl; exact rfl; omega; omega) | ((with_reducible apply LR_load_old); exact rfl; exact rfl; exact rfl; assumption; exact rfl) | ((with_reducible apply LR_load_old0); exact rfl; exact rfl; exact rfl; assumption; exact rfl) | ((with_reducible apply post_seq)) | ((with_reducible apply post_block_n)) | ((with_reducible apply CS_skip)) | ((with_reducible apply CS_cond_d); exact rfl; all_goals intro hb; all_goals try (exfalso; omega))
            all_goals first | (exfalso; contradiction) | (exfalso; omega) | (exfalso; simp at hb <;> omega) | skip
            all_goals exact post_round (i := (j, false)) (j + 1, true) ⟨by dsimp only; omega, by dsimp only; rw [hsu]; simp [hcp]⟩ (by dsimp only; omega) ⟨rfl, rfl, rfl, by dsimp only; simp [hcp]; rfl, rfl, trivial⟩ (fun _ hw => hw)
          · skip
            repeat' first | ((with_reducible apply LR_len_sl); exact rfl; exact rfl; exact rfl; exact z3) | ((with_reducible apply LR_field); exact rfl; exact rfl; exact rfl) | ((with_reducible apply (LR_index_old (j))); exact rfl; exact rfl; exact rfl; exact rfl; exact z3; omega; exact hr; exact rfl; intro adx hpx; have hpx7 : Pt w2 (adx.add 7) [.int .i64 r.g.tot.lo, .int .i64 r.g.tot.hi, .slice r.g.A r.g.n r.g.c, .int .i64 r.g.cp] := hpx.drop 7) | ((with_reducible apply (LR_index_old (k))); exact rfl; exact rfl; exact rfl; exact rfl; exact y1; omega; exact hx; exact rfl; intro _ _) | ((with_reducible apply CS_seq)) | ((with_reducible apply CS_block)) | ((with_reducible apply CS_region)) | ((with_reducible apply CS_regionq_wd); kernel_rfl; kernel_rfl) | ((with_reducible apply RR_end)) | ((with_reducible apply LR_pure); exact rfl; exact rfl; exact rfl) | ((with_reducible apply LR_add); exact rfl; exact rfl; exact rfl; exact rfl; omega; omega) | ((with_reducible apply LR_load_old); exact rfl; exact rfl; exact rfl; assumption; exact rfl) | ((with_reducible apply LR_load_old0); exact rfl; exact rfl; exact rfl; assumption; exact rfl) | ((with_reducible apply post_seq)) | ((with_reducible apply post_block_n)) | ((with_reducible apply CS_skip)) | ((with_reducible apply CS_cond_d); exact rfl; all_goals intro hb; all_goals try (exfalso; omega))
            all_goals first | (exfalso; contradiction) | (exfalso; omega) | (exfalso; simp at hb <;> omega) | skip
            all_goals exact post_round (i := (j, false)) (j + 1, false) ⟨by dsimp only; omega, by dsimp only; rw [hsu, ← b2]; simp [hcp]⟩ (by dsimp only; omega) ⟨rfl, rfl, rfl, by dsimp only; simp [hcp]; rfl, rfl, trivial⟩ (fun _ hw => hw)
        · skip
          repeat' first | ((with_reducible apply LR_len_sl); exact rfl; exact rfl; exact rfl; exact z3) | ((with_reducible apply CS_seq)) | ((with_reducible apply CS_block)) | ((with_reducible apply CS_region)) | ((with_reducible apply CS_regionq_wd); kernel_rfl; kernel_rfl) | ((with_reducible apply RR_end)) | ((with_reducible apply LR_pure); exact rfl; exact rfl; exact rfl) | ((with_reducible apply LR_skip); exact rfl; exact rfl) | ((with_reducible apply LR_add); exact rfl; exact rfl; exact rfl; exact rfl; omega; omega) | ((with_reducible apply post_seq)) | ((with_reducible apply post_block_n)) | ((with_reducible apply CS_skip)) | ((with_reducible apply CS_cond_d); exact rfl; all_goals intro hb; all_goals try (exfalso; omega))
          all_goals first | (exfalso; contradiction) | (exfalso; omega) | (exfalso; simp at hb <;> omega) | skip
          all_goals exact post_round (i := (j, true)) (j + 1, true) ⟨by dsimp only; omega, by dsimp only; rw [hsu, ← b2]; simp⟩ (by dsimp only; omega) ⟨rfl, rfl, rfl, rfl, rfl, trivial⟩ (fun _ hw => hw)
      · have hje : j = rs.length := by omega
        subst hje
        have hbt : b = true := b2.2 (ExL.all hexx)
        subst hbt
        repeat' first | ((with_reducible apply LR_len_sl); exact rfl; exact rfl; exact rfl; exact z3) | ((with_reducible apply CS_seq)) | ((with_reducible apply CS_region)) | ((with_reducible apply RR_end)) | ((with_reducible apply LR_pure); exact rfl; exact rfl; exact rfl) | ((with_reducible apply LR_add); exact rfl; exact rfl; exact rfl; exact rfl; omega; omega) | ((with_reducible apply post_seq)) | ((with_reducible apply post_then_exit)) | ((with_reducible apply post_block_n)) | ((with_reducible apply post_block_eq)) | ((with_reducible apply CS_skip)) | ((with_reducible apply CS_exit)) | ((with_reducible apply CS_cond_f); exact rfl) | ((with_reducible apply CS_cond_d); exact rfl; all_goals intro hb; all_goals try (exfalso; omega))
        all_goals first | (exfalso; contradiction) | (exfalso; omega) | (exfalso; simp at hb <;> omega) | skip
        exact post_round (i := k) (k + 1) (by omega) (by omega) ⟨rfl, rfl, rfl, trivial⟩ (fun _ hw => hw)
    · skip
      repeat' first | ((with_reducible apply LR_len_sl); exact rfl; exact rfl; exact rfl; exact y1) | ((with_reducible apply CS_seq)) | ((with_reducible apply CS_region)) | ((with_reducible apply RR_end)) | ((with_reducible apply LR_pure); exact rfl; exact rfl; exact rfl) | ((with_reducible apply post_seq)) | ((with_reducible apply post_then_exit)) | ((with_reducible apply post_block_eq)) | ((with_reducible apply CS_ret)) | ((with_reducible apply CS_exit)) | ((with_reducible apply CS_cond_d); exact rfl; all_goals intro hb; all_goals try (exfalso; omega))
      all_goals first | (exfalso; contradiction) | (exfalso; omega) | (exfalso; simp at hb <;> omega) | skip
      all_goals (apply ret_boolr k2; exact rfl; exact rfl; first | rfl | exact decide_eq_true rfl | simp)
  · have hxs := y2.2 hR
    subst hxs
    repeat' first | ((with_reducible apply (LR_call (f := 24))); exact rfl; exact rfl; exact rfl; exact fun w hw => sUsefulCoupons_no v0 s v1 c v2 cp v3 rs w (z0.mono hw) (z1.mono hw) (z2.mono hw) (z3.mono hw) (fun r hr => (zg r hr).mono hw) hR) | ((with_reducible apply (LR_call (f := 23))); exact rfl; exact rfl; exact rfl; exact fun w hw => equalInts_ok vo _ [] w (y1.mono hw) (Sl.nil w)) | ((with_reducible apply CS_seq)) | ((with_reducible apply CS_block)) | ((with_reducible apply CS_region)) | ((with_reducible apply RR_end)) | ((with_reducible apply LR_pure); exact rfl; exact rfl; exact rfl) | ((with_reducible apply post_seq)) | ((with_reducible apply CS_skip)) | ((with_reducible apply CS_cond_f); exact rfl)
    all_goals first | (exfalso; contradiction) | (exfalso; omega) | (exfalso; simp at hb <;> omega) | skip
    refine CS_loop (ι := Unit) (fun i => [(6, v3), (7, vo), (8, .int .i64 0)]) (fun i => Wd w2 []) (fun i => True) (fun i => 0) () trivial ⟨rfl, rfl, rfl, trivial⟩ (fun _ hw => hw.nil) ?_
    rintro _ _
    repeat' first | ((with_reducible apply LR_len_sl); exact rfl; exact rfl; exact rfl; exact y1) | ((with_reducible apply CS_seq)) | ((with_reducible apply CS_region)) | ((with_reducible apply RR_end)) | ((with_reducible apply LR_pure); exact rfl; exact rfl; exact rfl) | ((with_reducible apply post_seq)) | ((with_reducible apply post_then_exit)) | ((with_reducible apply post_block_eq)) | ((with_reducible apply CS_ret)) | ((with_reducible apply CS_exit)) | ((with_reducible apply CS_cond_f); exact rfl)
    all_goals first | (exfalso; contradiction) | (exfalso; omega) | (exfalso; simp at hb <;> omega) | skip
    all_goals (apply ret_boolr k2; exact rfl; exact rfl; first | rfl | exact decide_eq_true rfl | simp)
end Go.Proofs.YtbgfkhliideegaaGreat
