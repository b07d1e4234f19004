/- The walks of the splitting of an amount by weights, of the program and of the reference. No condition beyond those that each theorem states. -/
import Derived.Test.YtbgfkhliideegaaGreatPAp
import Derived.Test.YtbgfkhliideegaaGreatWCa1
namespace Go.Proofs.YtbgfkhliideegaaGreat
open Go.RowKit
attribute [local irreducible] Calls
theorem apL_zero {a : Int} {ws : List Int} (h : ws.sum = 0) : apL a ws = List.replicate ws.length 0 := by unfold apL; rw [if_pos h]
theorem apL_pos {a : Int} {ws : List Int} (h : ¬ ws.sum = 0) : apL a ws = (apI a ws (apD a ws)).1 := by unfold apL; rw [if_neg h]
theorem mix_full {α : Type} {m l : List α} (h : m.length = l.length) {n : Nat} (hn : n = l.length) : mix m l n = m := by subst hn; exact mix_end h
theorem ApIn.sum_le {a : Int} {ws : List Int} (h : ApIn a ws) : (-1000000000 : Int) ≤ 0 ∧ ∀ x ∈ ws, -1000000000 ≤ x ∧ x ≤ 1000000000 := ⟨by omega, fun x hx => by have := h.mem x hx; omega⟩
theorem apI_next {a : Int} {ws : List Int} {n : Nat} {x : Int} (hx : (apI a ws n).1[best (apI a ws n).2]? = some x) :
    (apI a ws n).1.set (best (apI a ws n).2) (x + 1) = (apI a ws (n + 1)).1 ∧ (apI a ws n).2.set (best (apI a ws n).2) (-1) = (apI a ws (n + 1)).2 := by
  constructor
  · show _ = (apStep (apI a ws n)).1
    simp [apStep, List.getD_eq_getElem?_getD, hx]
  · rfl
theorem iApportion_ok (a : Int) (v : Value) (ws : List Int) (w : World) (hs : Sl w v ws) (h : ApIn a ws) : Calls Tryz.prog 95 #[.int .i64 a, v] w
    (fun x w' => ∃ i : Nat, True ∧ x = .returned (.slice (some ⟨i, 0, none⟩) ws.length ws.length) ∧ Wd w [intE i ws.length (apL a ws)] w') := by
  have hml : maxLen = 9223372036854775807 := rfl
  obtain ⟨a0, a1, n0, n1, hwb⟩ := id h
  have hsum := h.sum
  refine enter (vs := [.int .i64 a, v]) Tryz.func95 rfl Tryz.ntmps95 rfl ?_
  repeat' first | ((with_reducible apply (LR_call (f := 128))); exact rfl; exact rfl; exact rfl; exact fun w hw => money_b (b := true) (wi_true.2 ⟨a0, a1⟩) w) | ((with_reducible apply (LR_call (f := 126))); exact rfl; exact rfl; exact rfl; exact fun w hw => within_b (b := true) (wi_true.2 ⟨by omega, by omega⟩) w) | ((with_reducible apply CS_seq)) | ((with_reducible apply CS_block)) | ((with_reducible apply CS_region)) | ((with_reducible apply RR_end)) | ((with_reducible apply LR_pure); exact rfl; exact rfl; exact rfl) | ((with_reducible apply LR_len_sl); exact rfl; exact rfl; exact rfl; assumption) | ((with_reducible apply post_seq)) | ((with_reducible apply CS_skip)) | ((with_reducible apply CS_cond_f); exact rfl)
  all_goals first | (exfalso; contradiction) | (exfalso; omega) | (exfalso; simp at hb <;> omega) | skip
  refine CS_loop (ι := Nat) (fun i => [(0, .int .i64 a), (1, v), (24, v), (25, .int .i64 ws.length), (26, .int .i64 (i : Int))]) (fun _ => Wd w []) (fun i => i ≤ ws.length) (fun i => ws.length - i) 0 (by omega) ⟨rfl, rfl, rfl, rfl, rfl, trivial⟩ (fun _ hw => hw) ?_
  rintro k h1
  try dsimp only at h1 ⊢
  by_cases hi : k < ws.length
  · obtain ⟨x, hx⟩ : ∃ c, ws[k]? = some c := ⟨_, List.getElem?_eq_getElem hi⟩
    have hxb := hwb k x hx
    repeat' first | ((with_reducible apply (LR_index_old (k))); exact rfl; exact rfl; exact rfl; exact rfl; exact hs; omega; exact hx; exact rfl; intro _ _) | ((with_reducible apply (LR_call (f := 128))); exact rfl; exact rfl; exact rfl; exact fun w hw => money_b (b := true) (wi_true.2 ⟨by omega, by omega⟩) w) | ((with_reducible apply CS_seq)) | ((with_reducible apply CS_block)) | ((with_reducible apply CS_region)) | ((with_reducible apply RR_end)) | ((with_reducible apply LR_pure); exact rfl; exact rfl; exact rfl) | ((with_reducible apply LR_add); exact rfl; exact rfl; exact rfl; exact rfl; omega; omega) | ((with_reducible apply LR_load_old0); exact rfl; exact rfl; exact rfl; assumption; exact rfl) | ((with_reducible apply post_seq)) | ((with_reducible apply post_block_n)) | ((with_reducible apply CS_skip)) | ((with_reducible apply CS_cond_f); exact rfl) | ((with_reducible apply CS_cond_d); exact rfl; all_goals intro hb; all_goals try (exfalso; omega))
    all_goals first | (exfalso; contradiction) | (exfalso; omega) | (exfalso; simp at hb <;> omega) | skip
    exact post_round (i := k) (k + 1) (by omega) (by first | omega | (dsimp only; omega)) ⟨rfl, rfl, rfl, rfl, rfl, trivial⟩ (fun _ hw => hw.nil)
  · have hik : k = ws.length := by omega
    by_cases h00 : ws.sum = 0
    · have hz := apL_zero (a := a) h00
      repeat' first | ((with_reducible apply (LS_make ws.length (0 : Int))); exact rfl; exact rfl; exact rfl; exact rfl; exact rfl; exact rfl; exact rfl; omega; (unfold maxLen; omega); intro g1) | ((with_reducible apply (LR_call (f := 65))); exact rfl; exact rfl; exact rfl; exact fun w hw => itotal_ok v ws w (hs.mono hw) h.sum_le.2 (by omega)) | ((with_reducible apply CS_seq)) | ((with_reducible apply CS_region)) | ((with_reducible apply RR_end)) | ((with_reducible apply LR_pure); exact rfl; exact rfl; exact rfl) | ((with_reducible apply LR_len_sl); exact rfl; exact rfl; exact rfl; assumption) | ((with_reducible apply post_seq)) | ((with_reducible apply post_then_ret)) | ((with_reducible apply post_then_exit)) | ((with_reducible apply post_block_eq)) | ((with_reducible apply CS_ret)) | ((with_reducible apply CS_exit)) | ((with_reducible apply CS_cond_d); exact rfl; all_goals intro hb; all_goals try (exfalso; omega))
      all_goals first | (exfalso; contradiction) | (exfalso; omega) | (exfalso; simp at hb <;> omega) | skip
      apply post_ret1; exact rfl; exact rfl; intro w' hw'; exact ⟨g1, trivial, rfl, by rw [hz]; exact hw'⟩
    · have hp : 0 < ws.sum := by omega
      have hz := apL_pos (a := a) h00
      have lm1 : ∀ k, (mix (ap0 a ws) (List.replicate ws.length 0) k).length = ws.length := fun k => by rw [mix_len (by simp [ap0_len])]; simp
      have lm2 : ∀ k, (mix (rs0 a ws) (List.replicate ws.length 0) k).length = ws.length := fun k => by rw [mix_len (by simp [rs0_len])]; simp
      repeat' first | ((have _t := g1); (with_reducible apply (LS_make ws.length (0 : Int))); exact rfl; exact rfl; exact rfl; exact rfl; exact rfl; exact rfl; exact rfl; omega; (unfold maxLen; omega); intro g2) | ((with_reducible apply (LS_make ws.length (0 : Int))); exact rfl; exact rfl; exact rfl; exact rfl; exact rfl; exact rfl; exact rfl; omega; (unfold maxLen; omega); intro g1) | ((with_reducible apply (LR_call (f := 65))); exact rfl; exact rfl; exact rfl; exact fun w hw => itotal_ok v ws w (hs.mono hw) h.sum_le.2 (by omega)) | ((with_reducible apply CS_seq)) | ((with_reducible apply CS_block)) | ((with_reducible apply CS_region)) | ((with_reducible apply RR_end)) | ((with_reducible apply LR_pure); exact rfl; exact rfl; exact rfl) | ((with_reducible apply LR_len_sl); exact rfl; exact rfl; exact rfl; assumption) | ((with_reducible apply post_seq)) | ((with_reducible apply post_then_exit)) | ((with_reducible apply post_block_eq)) | ((with_reducible apply CS_skip)) | ((with_reducible apply CS_exit)) | ((with_reducible apply CS_cond_d); exact rfl; all_goals intro hb; all_goals try (exfalso; omega))
      all_goals first | (exfalso; contradiction) | (exfalso; omega) | (exfalso; simp at hb <;> omega) | skip
      refine CS_loop (ι := Nat) (fun i => [(0, .int .i64 a), (7, .slice (some ⟨g1, 0, none⟩) ws.length ws.length), (8, .int .i64 ws.sum), (9, .slice (some ⟨g2, 0, none⟩) ws.length ws.length), (46, v), (47, .int .i64 ws.length), (48, .int .i64 (i : Int))]) (fun i => Wd w [intE g2 ws.length (mix (rs0 a ws) (List.replicate ws.length 0) i), intE g1 ws.length (mix (ap0 a ws) (List.replicate ws.length 0) i)]) (fun i => i ≤ ws.length) (fun i => ws.length - i) 0 (by omega) ⟨rfl, rfl, rfl, rfl, rfl, rfl, rfl, trivial⟩ (fun _ hw => by rw [mix_zero, mix_zero]; exact hw) ?_
      rintro k h1
      try dsimp only at h1 ⊢
      by_cases hi : k < ws.length
      · obtain ⟨x, hx⟩ : ∃ c, ws[k]? = some c := ⟨_, List.getElem?_eq_getElem hi⟩
        have hxb := hwb k x hx
        have hpr := h.prod hx
        have hl1 := lm1 k
        have hl2 := lm2 k
        repeat' first | ((with_reducible apply (LR_index_old (k))); exact rfl; exact rfl; exact rfl; exact rfl; exact hs; omega; exact hx; exact rfl; intro _ _) | ((with_reducible apply (LR_index_own (k))); exact rfl; exact rfl; exact rfl; exact rfl; omega; omega) | ((with_reducible apply (LS_store1 1)); exact rfl; exact rfl; exact rfl; exact rfl; exact rfl; first | exact putF_set (mix (ap0 a ws) (List.replicate ws.length 0) k) k _ (by omega) | exact putF_set (mix (rs0 a ws) (List.replicate ws.length 0) k) k _ (by omega)) | ((with_reducible apply CS_seq)) | ((with_reducible apply CS_block)) | ((with_reducible apply CS_region)) | ((with_reducible apply RR_end)) | ((with_reducible apply LR_pure); exact rfl; exact rfl; exact rfl) | ((with_reducible apply LR_add); exact rfl; exact rfl; exact rfl; exact rfl; omega; omega) | ((with_reducible apply LR_mul); exact rfl; exact rfl; exact rfl; exact rfl; omega; omega) | ((with_reducible apply LR_quo); exact rfl; exact rfl; exact rfl; exact rfl; omega; omega; omega) | ((with_reducible apply LR_rem); exact rfl; exact rfl; exact rfl; exact rfl; omega; omega) | ((with_reducible apply LR_load_old0); exact rfl; exact rfl; exact rfl; assumption; exact rfl) | ((with_reducible apply post_seq)) | ((with_reducible apply post_block_n)) | ((with_reducible apply CS_skip)) | ((with_reducible apply CS_cond_d); exact rfl; all_goals intro hb; all_goals try (exfalso; omega))
        exact post_round (i := k) (k + 1) (by omega) (by first | omega | (dsimp only; omega)) ⟨rfl, rfl, rfl, rfl, rfl, rfl, rfl, trivial⟩ (fun _ hw => by (try dsimp only); rw [← mix_set (by simp [rs0_len]) (rs0_at hx), ← mix_set (by simp [ap0_len]) (ap0_at hx)]; exact hw)
      · have hk : k = ws.length := by omega
        subst hk
        rw [mix_full (by simp [rs0_len]) (by simp), mix_full (by simp [ap0_len]) (by simp)]
        repeat' first | ((with_reducible apply CS_seq)) | ((with_reducible apply CS_block)) | ((with_reducible apply CS_region)) | ((with_reducible apply RR_end)) | ((with_reducible apply LR_pure); exact rfl; exact rfl; exact rfl) | ((with_reducible apply post_seq)) | ((with_reducible apply post_then_exit)) | ((with_reducible apply post_block_eq)) | ((with_reducible apply CS_exit)) | ((with_reducible apply CS_cond_d); exact rfl; all_goals intro hb; all_goals try (exfalso; omega))
        refine CS_loop (ι := Nat) (fun i => [(0, .int .i64 a), (7, .slice (some ⟨g1, 0, none⟩) ws.length ws.length), (9, .slice (some ⟨g2, 0, none⟩) ws.length ws.length)]) (fun i => Wd w [intE g2 ws.length (apI a ws i).2, intE g1 ws.length (apI a ws i).1]) (fun i => i ≤ apD a ws) (fun i => apD a ws - i) 0 (by omega) ⟨rfl, rfl, rfl, trivial⟩ (fun _ hw => hw) ?_
        rintro n hn
        try dsimp only at hn ⊢
        have hok := apOk h hp n hn
        have hd := h.d hp
        have hbd := ap_bd h hp hn
        have hbd' : ∀ x ∈ (apI a ws n).1, -1000000000 ≤ x ∧ x ≤ 1000000000 := fun x hx => by have := hbd x hx; omega
        have hrb := ap_rs_bd h hp hn
        have hl1 := hok.l1
        have hl2 := hok.l2
        have hsm := hok.sum
        by_cases hlt : n < apD a ws
        · have hbl : best (apI a ws n).2 < ws.length := by have := best_lt (rs := (apI a ws n).2) (by omega); omega
          obtain ⟨x, hx⟩ : ∃ y, (apI a ws n).1[best (apI a ws n).2]? = some y := ⟨_, List.getElem?_eq_getElem (by omega)⟩
          have hxb := hbd x (List.mem_of_getElem? hx)
          have hnx := apI_next hx
          repeat' first | ((with_reducible apply (LR_call (f := 65))); exact rfl; exact rfl; exact rfl; exact fun w hw => itotal_ok _ (apI a ws n).1 w (own_sl 1 hw rfl rfl hl1.symm (by omega) (by omega)) hbd' (by omega)) | ((with_reducible apply CS_seq)) | ((with_reducible apply CS_block)) | ((with_reducible apply CS_region)) | ((with_reducible apply RR_end)) | ((with_reducible apply LR_pure); exact rfl; exact rfl; exact rfl) | ((with_reducible apply LR_len); exact rfl; exact rfl; exact rfl) | ((with_reducible apply post_seq)) | ((with_reducible apply CS_skip)) | ((with_reducible apply CS_cond_d); exact rfl; all_goals intro hb; all_goals try (exfalso; omega))
          all_goals first | (exfalso; contradiction) | (exfalso; omega) | (exfalso; simp at hb <;> omega) | skip
          refine CS_loop (ι := Nat) (fun i => [(0, .int .i64 a), (7, .slice (some ⟨g1, 0, none⟩) ws.length ws.length), (9, .slice (some ⟨g2, 0, none⟩) ws.length ws.length), (12, .int .i64 (bestTo (apI a ws n).2 i : Int)), (75, .int .i64 ws.length), (76, .int .i64 (i : Int))]) (fun i => Wd w [intE g2 ws.length (apI a ws n).2, intE g1 ws.length (apI a ws n).1]) (fun i => i ≤ ws.length) (fun i => ws.length - i) 0 (by omega) ⟨rfl, rfl, rfl, rfl, rfl, rfl, trivial⟩ (fun _ hw => hw) ?_
          rintro j hj
          try dsimp only at hj ⊢
          have hbj := bestTo_lt (apI a ws n).2 j
          by_cases hjl : j < ws.length
          · obtain ⟨r, hr⟩ : ∃ y, (apI a ws n).2[j]? = some y := ⟨_, List.getElem?_eq_getElem (by omega)⟩
            obtain ⟨q, hq⟩ : ∃ y, (apI a ws n).2[bestTo (apI a ws n).2 j]? = some y := ⟨_, List.getElem?_eq_getElem (by omega)⟩
            by_cases hgt : q < r
            · have hbn := bestTo_yes hq hr hgt
              repeat' first | ((with_reducible apply (LR_index_own (j))); exact rfl; exact rfl; exact rfl; exact rfl; omega; omega) | ((with_reducible apply (LR_index_own (bestTo (apI a ws n).2 j))); exact rfl; exact rfl; exact rfl; exact rfl; omega; omega) | ((with_reducible apply (LR_load_own 0)); exact rfl; exact rfl; exact rfl; exact rfl; exact nth_fld _ (j) _ 0 _ hr rfl) | ((with_reducible apply (LR_load_own 0)); exact rfl; exact rfl; exact rfl; exact rfl; exact nth_fld _ (bestTo (apI a ws n).2 j) _ 0 _ hq rfl) | ((with_reducible apply CS_seq)) | ((with_reducible apply CS_block)) | ((with_reducible apply CS_region)) | ((with_reducible apply CS_regionq_wd); kernel_rfl; kernel_rfl) | ((with_reducible apply RR_end)) | ((with_reducible apply LR_pure); exact rfl; exact rfl; exact rfl) | ((with_reducible apply LR_add); exact rfl; exact rfl; exact rfl; exact rfl; omega; omega) | ((with_reducible apply post_seq)) | ((with_reducible apply post_block_n)) | ((with_reducible apply CS_skip)) | ((with_reducible apply CS_cond_d); exact rfl; all_goals intro hb; all_goals try (exfalso; omega))
              all_goals first | (exfalso; contradiction) | (exfalso; omega) | (exfalso; simp at hb <;> omega) | skip
              exact post_round (i := j) (j + 1) (by omega) (by first | omega | (dsimp only; omega)) ⟨rfl, rfl, rfl, by rw [hbn]; rfl, rfl, rfl, trivial⟩ (fun _ hw => hw)
            · have hbn := bestTo_no hq hr hgt
              repeat' first | ((with_reducible apply (LR_index_own (j))); exact rfl; exact rfl; exact rfl; exact rfl; omega; omega) | ((with_reducible apply (LR_index_own (bestTo (apI a ws n).2 j))); exact rfl; exact rfl; exact rfl; exact rfl; omega; omega) | ((with_reducible apply (LR_load_own 0)); exact rfl; exact rfl; exact rfl; exact rfl; exact nth_fld _ (j) _ 0 _ hr rfl) | ((with_reducible apply (LR_load_own 0)); exact rfl; exact rfl; exact rfl; exact rfl; exact nth_fld _ (bestTo (apI a ws n).2 j) _ 0 _ hq rfl) | ((with_reducible apply CS_seq)) | ((with_reducible apply CS_block)) | ((with_reducible apply CS_region)) | ((with_reducible apply CS_regionq_wd); kernel_rfl; kernel_rfl) | ((with_reducible apply RR_end)) | ((with_reducible apply LR_pure); exact rfl; exact rfl; exact rfl) | ((with_reducible apply LR_add); exact rfl; exact rfl; exact rfl; exact rfl; omega; omega) | ((with_reducible apply post_seq)) | ((with_reducible apply post_block_n)) | ((with_reducible apply CS_skip)) | ((with_reducible apply CS_cond_d); exact rfl; all_goals intro hb; all_goals try (exfalso; omega))
              all_goals first | (exfalso; contradiction) | (exfalso; omega) | (exfalso; simp at hb <;> omega) | skip
              exact post_round (i := j) (j + 1) (by omega) (by first | omega | (dsimp only; omega)) ⟨rfl, rfl, rfl, by rw [hbn]; rfl, rfl, rfl, trivial⟩ (fun _ hw => hw)
          · have hjj : bestTo (apI a ws n).2 j = best (apI a ws n).2 := by unfold best; congr 1; omega
            rw [hjj]
            repeat' first | ((with_reducible apply (LR_index_own (best (apI a ws n).2))); exact rfl; exact rfl; exact rfl; exact rfl; omega; omega) | ((with_reducible apply (LR_load_own 1)); exact rfl; exact rfl; exact rfl; exact rfl; exact nth_fld _ (best (apI a ws n).2) _ 0 _ hx rfl) | ((with_reducible apply (LS_store1 1)); exact rfl; exact rfl; exact rfl; exact rfl; exact rfl; first | exact putF_set (apI a ws n).1 (best (apI a ws n).2) _ (by omega) | exact putF_set (apI a ws n).2 (best (apI a ws n).2) _ (by omega)) | ((with_reducible apply CS_seq)) | ((with_reducible apply CS_region)) | ((with_reducible apply RR_end)) | ((with_reducible apply LR_pure); exact rfl; exact rfl; exact rfl) | ((with_reducible apply LR_add); exact rfl; exact rfl; exact rfl; exact rfl; omega; omega) | ((with_reducible apply post_seq)) | ((with_reducible apply post_then_exit)) | ((with_reducible apply post_block_n)) | ((with_reducible apply post_block_eq)) | ((with_reducible apply CS_exit)) | ((with_reducible apply CS_cond_d); exact rfl; all_goals intro hb; all_goals try (exfalso; omega))
            exact post_round (i := n) (n + 1) (by omega) (by first | omega | (dsimp only; omega)) ⟨rfl, rfl, rfl, trivial⟩ (fun _ hw => by (try dsimp only); rw [← hnx.1, ← hnx.2]; exact hw)
        · have hnn : n = apD a ws := by omega
          subst hnn
          repeat' first | ((with_reducible apply (LR_call (f := 65))); exact rfl; exact rfl; exact rfl; exact fun w hw => itotal_ok _ (apI a ws (apD a ws)).1 w (own_sl 1 hw rfl rfl hl1.symm (by omega) (by omega)) hbd' (by omega)) | ((with_reducible apply CS_seq)) | ((with_reducible apply CS_region)) | ((with_reducible apply RR_end)) | ((with_reducible apply LR_pure); exact rfl; exact rfl; exact rfl) | ((with_reducible apply post_seq)) | ((with_reducible apply post_then_exit)) | ((with_reducible apply post_block_eq)) | ((with_reducible apply CS_ret)) | ((with_reducible apply CS_exit)) | ((with_reducible apply CS_cond_d); exact rfl; all_goals intro hb; all_goals try (exfalso; omega))
          all_goals first | (exfalso; contradiction) | (exfalso; omega) | (exfalso; simp at hb <;> omega) | skip
          apply post_ret1; exact rfl; exact rfl; intro w' hw'; exact ⟨g1, trivial, rfl, by rw [hz]; exact hw'.picks [1] rfl⟩
theorem sapportion_ok (a : Int) (v : Value) (ws : List Int) (w : World) (hs : Sl w v ws) (h : ApIn a ws) : Calls Tryz.prog 147 #[.int .i64 a, v] w
    (fun x w' => ∃ i : Nat, True ∧ x = .returned (.slice (some ⟨i, 0, none⟩) ws.length ws.length) ∧ Wd w [intE i ws.length (apL a ws)] w') := by
  have hml : maxLen = 9223372036854775807 := rfl
  obtain ⟨a0, a1, n0, n1, hwb⟩ := id h
  have hsum := h.sum
  by_cases h00 : ws.sum = 0
  · have hz := apL_zero (a := a) h00
    refine enter (vs := [.int .i64 a, v]) Tryz.func147 rfl Tryz.ntmps147 rfl ?_
    repeat' first | ((have _t := g1); (with_reducible apply (LS_make ws.length (0 : Int))); exact rfl; exact rfl; exact rfl; exact rfl; exact rfl; exact rfl; exact rfl; omega; (unfold maxLen; omega); intro g2) | ((with_reducible apply (LS_make ws.length (0 : Int))); exact rfl; exact rfl; exact rfl; exact rfl; exact rfl; exact rfl; exact rfl; omega; (unfold maxLen; omega); intro g1) | ((with_reducible apply (LR_call (f := 85))); exact rfl; exact rfl; exact rfl; exact fun w hw => ssum_ok v ws w (hs.mono hw) h.sum_le.2 (by omega)) | ((with_reducible apply CS_seq)) | ((with_reducible apply CS_region)) | ((with_reducible apply RR_end)) | ((with_reducible apply LR_pure); exact rfl; exact rfl; exact rfl) | ((with_reducible apply LR_len_sl); exact rfl; exact rfl; exact rfl; assumption) | ((with_reducible apply post_seq)) | ((with_reducible apply post_then_ret)) | ((with_reducible apply CS_ret)) | ((with_reducible apply CS_cond_d); exact rfl; all_goals intro hb; all_goals try (exfalso; omega))
    all_goals first | (exfalso; contradiction) | (exfalso; omega) | (exfalso; simp at hb <;> omega) | skip
    apply post_ret1; exact rfl; exact rfl; intro w' hw'; exact ⟨g1, trivial, rfl, by rw [hz]; exact hw'.picks [1] rfl⟩
  · have hp : 0 < ws.sum := by omega
    have hz := apL_pos (a := a) h00
    have hd := h.d hp
    have lm1 : ∀ k, (mix (ap0 a ws) (List.replicate ws.length 0) k).length = ws.length := fun k => by rw [mix_len (by simp [ap0_len])]; simp
    have lm2 : ∀ k, (mix (rs0 a ws) (List.replicate ws.length 0) k).length = ws.length := fun k => by rw [mix_len (by simp [rs0_len])]; simp
    have hab : ∀ x ∈ ap0 a ws, 0 ≤ x ∧ x ≤ 1000000 := at_all fun k x hx => by
      have hk := (List.getElem?_eq_some_iff.1 hx).1
      rw [ap0_len] at hk
      have hw := List.getElem?_eq_getElem hk
      rw [ap0_at hw] at hx
      cases hx
      have := ap_div_bd h hp hw
      exact ⟨this.1, this.2.1⟩
    have hs0 := sum_bd _ 0 1000000 hab
    refine enter (vs := [.int .i64 a, v]) Tryz.func147 rfl Tryz.ntmps147 rfl ?_
    repeat' first | ((have _t := g1); (with_reducible apply (LS_make ws.length (0 : Int))); exact rfl; exact rfl; exact rfl; exact rfl; exact rfl; exact rfl; exact rfl; omega; (unfold maxLen; omega); intro g2) | ((with_reducible apply (LS_make ws.length (0 : Int))); exact rfl; exact rfl; exact rfl; exact rfl; exact rfl; exact rfl; exact rfl; omega; (unfold maxLen; omega); intro g1) | ((with_reducible apply (LR_call (f := 85))); exact rfl; exact rfl; exact rfl; exact fun w hw => ssum_ok v ws w (hs.mono hw) h.sum_le.2 (by omega)) | ((with_reducible apply CS_seq)) | ((with_reducible apply CS_block)) | ((with_reducible apply CS_region)) | ((with_reducible apply RR_end)) | ((with_reducible apply LR_pure); exact rfl; exact rfl; exact rfl) | ((with_reducible apply LR_len_sl); exact rfl; exact rfl; exact rfl; assumption) | ((with_reducible apply post_seq)) | ((with_reducible apply CS_skip)) | ((with_reducible apply CS_cond_d); exact rfl; all_goals intro hb; all_goals try (exfalso; omega))
    all_goals first | (exfalso; contradiction) | (exfalso; omega) | (exfalso; simp at hb <;> omega) | skip
    refine CS_loop (ι := Nat) (fun i => [(0, .int .i64 a), (1, v), (5, .slice (some ⟨g1, 0, none⟩) ws.length ws.length), (6, .slice (some ⟨g2, 0, none⟩) ws.length ws.length), (7, .int .i64 ws.sum), (8, .int .i64 (a - ((ap0 a ws).take i).sum)), (9, .int .i64 (i : Int))]) (fun i => Wd w [intE g2 ws.length (mix (rs0 a ws) (List.replicate ws.length 0) i), intE g1 ws.length (mix (ap0 a ws) (List.replicate ws.length 0) i)]) (fun i => i ≤ ws.length) (fun i => ws.length - i) 0 (by omega) ⟨rfl, rfl, rfl, rfl, rfl, by simp; rfl, rfl, trivial⟩ (fun _ hw => by rw [mix_zero, mix_zero]; exact hw) ?_
    rintro k h1
    try dsimp only at h1 ⊢
    by_cases hi : k < ws.length
    · obtain ⟨x, hx⟩ : ∃ c, ws[k]? = some c := ⟨_, List.getElem?_eq_getElem hi⟩
      have hxb := hwb k x hx
      have hpr := h.prod hx
      have hl1 := lm1 k
      have hl2 := lm2 k
      have hdb := ap_div_bd h hp hx
      have htk := sum_take_bd hab k
      have htl : ((ap0 a ws).take k).length ≤ 8 := by simp [ap0_len]; omega
      have hat : ((mix (ap0 a ws) (List.replicate ws.length 0) k).set k (a * x / ws.sum))[k]? = some (a * x / ws.sum) := List.getElem?_set_self (by omega)
      repeat' first | ((with_reducible apply (LR_index_old (k))); exact rfl; exact rfl; exact rfl; exact rfl; exact hs; omega; exact hx; exact rfl; intro _ _) | ((with_reducible apply (LR_index_own (k))); exact rfl; exact rfl; exact rfl; exact rfl; omega; omega) | ((with_reducible apply (LR_load_own 1)); exact rfl; exact rfl; exact rfl; exact rfl; exact nth_fld _ (k) _ 0 _ hat rfl) | ((with_reducible apply (LS_store1 1)); exact rfl; exact rfl; exact rfl; exact rfl; exact rfl; first | exact putF_set (mix (ap0 a ws) (List.replicate ws.length 0) k) k _ (by omega) | exact putF_set (mix (rs0 a ws) (List.replicate ws.length 0) k) k _ (by omega)) | ((with_reducible apply CS_seq)) | ((with_reducible apply CS_block)) | ((with_reducible apply CS_region)) | ((with_reducible apply RR_end)) | ((with_reducible apply LR_pure); exact rfl; exact rfl; exact rfl) | ((with_reducible apply LR_add); exact rfl; exact rfl; exact rfl; exact rfl; omega; omega) | ((with_reducible apply LR_sub); exact rfl; exact rfl; exact rfl; exact rfl; omega; omega) | ((with_reducible apply LR_mul); exact rfl; exact rfl; exact rfl; exact rfl; omega; omega) | ((with_reducible apply LR_quo); exact rfl; exact rfl; exact rfl; exact rfl; omega; omega; omega) | ((with_reducible apply LR_rem); exact rfl; exact rfl; exact rfl; exact rfl; omega; omega) | ((with_reducible apply LR_load_old0); exact rfl; exact rfl; exact rfl; assumption; exact rfl) | ((with_reducible apply LR_len_sl); exact rfl; exact rfl; exact rfl; assumption) | ((with_reducible apply post_seq)) | ((with_reducible apply post_block_n)) | ((with_reducible apply CS_skip)) | ((with_reducible apply CS_cond_d); exact rfl; all_goals intro hb; all_goals try (exfalso; omega))
      exact post_round (i := k) (k + 1) (by omega) (by first | omega | (dsimp only; omega)) ⟨rfl, rfl, rfl, rfl, rfl, by rw [sum_take (ap0_at hx), ← Int.sub_sub]; rfl, rfl, trivial⟩ (fun _ hw => by (try dsimp only); rw [← mix_set (by simp [rs0_len]) (rs0_at hx), ← mix_set (by simp [ap0_len]) (ap0_at hx)]; exact hw)
    · have hk : k = ws.length := by omega
      subst hk
      rw [mix_full (by simp [rs0_len]) (by simp), mix_full (by simp [ap0_len]) (by simp), List.take_of_length_le (by rw [ap0_len]; omega)]
      repeat' first | ((with_reducible apply CS_seq)) | ((with_reducible apply CS_block)) | ((with_reducible apply CS_region)) | ((with_reducible apply RR_end)) | ((with_reducible apply LR_pure); exact rfl; exact rfl; exact rfl) | ((with_reducible apply LR_len_sl); exact rfl; exact rfl; exact rfl; assumption) | ((with_reducible apply post_seq)) | ((with_reducible apply post_then_exit)) | ((with_reducible apply post_block_eq)) | ((with_reducible apply CS_exit)) | ((with_reducible apply CS_cond_d); exact rfl; all_goals intro hb; all_goals try (exfalso; omega))
      refine CS_loop (ι := Nat) (fun i => [(5, .slice (some ⟨g1, 0, none⟩) ws.length ws.length), (6, .slice (some ⟨g2, 0, none⟩) ws.length ws.length), (8, .int .i64 (a - (ap0 a ws).sum - i))]) (fun i => Wd w [intE g2 ws.length (apI a ws i).2, intE g1 ws.length (apI a ws i).1]) (fun i => i ≤ apD a ws) (fun i => apD a ws - i) 0 (by omega) ⟨rfl, rfl, by simp; rfl, trivial⟩ (fun _ hw => hw) ?_
      rintro n hn
      try dsimp only at hn ⊢
      have hok := apOk h hp n hn
      have hbd := ap_bd h hp hn
      have hrb := ap_rs_bd h hp hn
      have hl1 := hok.l1
      have hl2 := hok.l2
      have hsm := hok.sum
      by_cases hlt : n < apD a ws
      · have hbl : best (apI a ws n).2 < ws.length := by have := best_lt (rs := (apI a ws n).2) (by omega); omega
        obtain ⟨x, hx⟩ : ∃ y, (apI a ws n).1[best (apI a ws n).2]? = some y := ⟨_, List.getElem?_eq_getElem (by omega)⟩
        have hxb := hbd x (List.mem_of_getElem? hx)
        have hnx := apI_next hx
        have hb1 : bestTo (apI a ws n).2 1 = 0 := by
          have := bestTo_lt (apI a ws n).2 1; omega
        repeat' first | ((with_reducible apply CS_seq)) | ((with_reducible apply CS_block)) | ((with_reducible apply CS_region)) | ((with_reducible apply RR_end)) | ((with_reducible apply LR_pure); exact rfl; exact rfl; exact rfl) | ((with_reducible apply post_seq)) | ((with_reducible apply CS_skip)) | ((with_reducible apply CS_cond_d); exact rfl; all_goals intro hb; all_goals try (exfalso; omega))
        all_goals first | (exfalso; contradiction) | (exfalso; omega) | (exfalso; simp at hb <;> omega) | skip
        refine CS_loop (ι := Nat) (fun i => [(5, .slice (some ⟨g1, 0, none⟩) ws.length ws.length), (6, .slice (some ⟨g2, 0, none⟩) ws.length ws.length), (8, .int .i64 (a - (ap0 a ws).sum - n)), (10, .int .i64 (bestTo (apI a ws n).2 i : Int)), (11, .int .i64 (i : Int))]) (fun i => Wd w [intE g2 ws.length (apI a ws n).2, intE g1 ws.length (apI a ws n).1]) (fun i => 1 ≤ i ∧ i ≤ ws.length) (fun i => ws.length - i) 1 ⟨by omega, by omega⟩ ⟨rfl, rfl, rfl, by rw [hb1]; rfl, rfl, trivial⟩ (fun _ hw => hw) ?_
        rintro j ⟨hj0, hj⟩
        try dsimp only at hj ⊢
        have hbj := bestTo_lt (apI a ws n).2 j
        by_cases hjl : j < ws.length
        · obtain ⟨r, hr⟩ : ∃ y, (apI a ws n).2[j]? = some y := ⟨_, List.getElem?_eq_getElem (by omega)⟩
          obtain ⟨q, hq⟩ : ∃ y, (apI a ws n).2[bestTo (apI a ws n).2 j]? = some y := ⟨_, List.getElem?_eq_getElem (by omega)⟩
          by_cases hgt : q < r
          · have hbn := bestTo_yes hq hr hgt
            repeat' first | ((with_reducible apply (LR_index_own (j))); exact rfl; exact rfl; exact rfl; exact rfl; omega; omega) | ((with_reducible apply (LR_index_own (bestTo (apI a ws n).2 j))); exact rfl; exact rfl; exact rfl; exact rfl; omega; omega) | ((with_reducible apply (LR_load_own 0)); exact rfl; exact rfl; exact rfl; exact rfl; exact nth_fld _ (j) _ 0 _ hr rfl) | ((with_reducible apply (LR_load_own 0)); exact rfl; exact rfl; exact rfl; exact rfl; exact nth_fld _ (bestTo (apI a ws n).2 j) _ 0 _ hq rfl) | ((with_reducible apply CS_seq)) | ((with_reducible apply CS_block)) | ((with_reducible apply CS_region)) | ((with_reducible apply CS_regionq_wd); kernel_rfl; kernel_rfl) | ((with_reducible apply RR_end)) | ((with_reducible apply LR_pure); exact rfl; exact rfl; exact rfl) | ((with_reducible apply LR_add); exact rfl; exact rfl; exact rfl; exact rfl; omega; omega) | ((with_reducible apply LR_len); exact rfl; exact rfl; exact rfl) | ((with_reducible apply post_seq)) | ((with_reducible apply post_block_n)) | ((with_reducible apply CS_skip)) | ((with_reducible apply CS_cond_d); exact rfl; all_goals intro hb; all_goals try (exfalso; omega))
            all_goals first | (exfalso; contradiction) | (exfalso; omega) | (exfalso; simp at hb <;> omega) | skip
            exact post_round (i := j) (j + 1) ⟨by omega, by omega⟩ (by first | omega | (dsimp only; omega)) ⟨rfl, rfl, rfl, by rw [hbn]; rfl, rfl, trivial⟩ (fun _ hw => hw)
          · have hbn := bestTo_no hq hr hgt
            repeat' first | ((with_reducible apply (LR_index_own (j))); exact rfl; exact rfl; exact rfl; exact rfl; omega; omega) | ((with_reducible apply (LR_index_own (bestTo (apI a ws n).2 j))); exact rfl; exact rfl; exact rfl; exact rfl; omega; omega) | ((with_reducible apply (LR_load_own 0)); exact rfl; exact rfl; exact rfl; exact rfl; exact nth_fld _ (j) _ 0 _ hr rfl) | ((with_reducible apply (LR_load_own 0)); exact rfl; exact rfl; exact rfl; exact rfl; exact nth_fld _ (bestTo (apI a ws n).2 j) _ 0 _ hq rfl) | ((with_reducible apply CS_seq)) | ((with_reducible apply CS_block)) | ((with_reducible apply CS_region)) | ((with_reducible apply CS_regionq_wd); kernel_rfl; kernel_rfl) | ((with_reducible apply RR_end)) | ((with_reducible apply LR_pure); exact rfl; exact rfl; exact rfl) | ((with_reducible apply LR_add); exact rfl; exact rfl; exact rfl; exact rfl; omega; omega) | ((with_reducible apply LR_len); exact rfl; exact rfl; exact rfl) | ((with_reducible apply post_seq)) | ((with_reducible apply post_block_n)) | ((with_reducible apply CS_skip)) | ((with_reducible apply CS_cond_d); exact rfl; all_goals intro hb; all_goals try (exfalso; omega))
            all_goals first | (exfalso; contradiction) | (exfalso; omega) | (exfalso; simp at hb <;> omega) | skip
            exact post_round (i := j) (j + 1) ⟨by omega, by omega⟩ (by first | omega | (dsimp only; omega)) ⟨rfl, rfl, rfl, by rw [hbn]; rfl, rfl, trivial⟩ (fun _ hw => hw)
        · have hjj : bestTo (apI a ws n).2 j = best (apI a ws n).2 := by unfold best; congr 1; omega
          rw [hjj]
          repeat' first | ((with_reducible apply (LR_index_own (best (apI a ws n).2))); exact rfl; exact rfl; exact rfl; exact rfl; omega; omega) | ((with_reducible apply (LR_load_own 1)); exact rfl; exact rfl; exact rfl; exact rfl; exact nth_fld _ (best (apI a ws n).2) _ 0 _ hx rfl) | ((with_reducible apply (LS_store1 1)); exact rfl; exact rfl; exact rfl; exact rfl; exact rfl; first | exact putF_set (apI a ws n).1 (best (apI a ws n).2) _ (by omega) | exact putF_set (apI a ws n).2 (best (apI a ws n).2) _ (by omega)) | ((with_reducible apply CS_seq)) | ((with_reducible apply CS_region)) | ((with_reducible apply RR_end)) | ((with_reducible apply LR_pure); exact rfl; exact rfl; exact rfl) | ((with_reducible apply LR_add); exact rfl; exact rfl; exact rfl; exact rfl; omega; omega) | ((with_reducible apply LR_sub); exact rfl; exact rfl; exact rfl; exact rfl; omega; omega) | ((with_reducible apply LR_len); exact rfl; exact rfl; exact rfl) | ((with_reducible apply post_seq)) | ((with_reducible apply post_then_exit)) | ((with_reducible apply post_block_n)) | ((with_reducible apply post_block_eq)) | ((with_reducible apply CS_exit)) | ((with_reducible apply CS_cond_d); exact rfl; all_goals intro hb; all_goals try (exfalso; omega))
          exact post_round (i := n) (n + 1) (by omega) (by first | omega | (dsimp only; omega)) ⟨rfl, rfl, by rw [show (a - (ap0 a ws).sum - ((n + 1 : Nat) : Int)) = a - (ap0 a ws).sum - n - 1 by omega]; rfl, trivial⟩ (fun _ hw => by (try dsimp only); rw [← hnx.1, ← hnx.2]; exact hw)
      · have hnn : n = apD a ws := by omega
        subst hnn
        repeat' first | ((with_reducible apply CS_seq)) | ((with_reducible apply CS_region)) | ((with_reducible apply RR_end)) | ((with_reducible apply LR_pure); exact rfl; exact rfl; exact rfl) | ((with_reducible apply post_seq)) | ((with_reducible apply post_then_exit)) | ((with_reducible apply post_block_eq)) | ((with_reducible apply CS_ret)) | ((with_reducible apply CS_exit)) | ((with_reducible apply CS_cond_d); exact rfl; all_goals intro hb; all_goals try (exfalso; omega))
        all_goals first | (exfalso; contradiction) | (exfalso; omega) | (exfalso; simp at hb <;> omega) | skip
        apply post_ret1; exact rfl; exact rfl; intro w' hw'; exact ⟨g1, trivial, rfl, by rw [hz]; exact hw'.picks [1] rfl⟩
end Go.Proofs.YtbgfkhliideegaaGreat
