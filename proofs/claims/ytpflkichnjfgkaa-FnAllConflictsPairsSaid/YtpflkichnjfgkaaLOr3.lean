/- The walks of the laws on the conflicts among rules. No condition beyond those that each theorem states. -/
import Derived.Test.YtpflkichnjfgkaaWOr8
import Derived.Test.YtpflkichnjfgkaaWDrO
namespace Go.Proofs.Ytpflkichnjfgkaa
open Go.RowKit
attribute [local irreducible] Calls
set_option maxHeartbeats 4000000 in
theorem FnAllConflictsOrder_ok (v : Value) (l : List By) (w : World) (hs : Sl w v l) (hby : BytesOk l) : Calls Try.prog 12 #[v] w (Gives (.bool true) w) := by
  have hlen := hs.len
  have hml : maxLen = 9223372036854775807 := rfl
  simp only [maxLen] at hlen
  refine enter (vs := [v]) Try.func12 rfl Try.ntmps12 rfl ?_
  repeat' first
    | ((with_reducible apply LR_len_sl); exact rfl; exact rfl; exact rfl; exact hs)
    | ((with_reducible apply (LS_callr (f := 32))); exact rfl; exact rfl; exact rfl; exact fun w hw => DrawAllConflicts_ok v l w (hs.mono hw) hby; rintro ⟨v1, rs⟩ w1 k1 ⟨z1, z2, z3⟩; dsimp only at z1 z2 z3 ⊢)
    | ((with_reducible apply (LS_callr (f := 24))); exact rfl; exact rfl; exact rfl; exact fun w hw => iAllConflicts_r v1 rs _ (z1.mono hw) (fun r hr => (z2 r hr).mono hw); rintro ⟨v2, ps⟩ w2 k2 y1; dsimp only at y1 ⊢; (have z1 := z1.mono k2); (have z2 : ROks w2 rs := fun r hr => (z2 r hr).mono k2); (have k2 := k1.thn k2))
    | ((with_reducible apply (LS_callr (f := 34))); exact rfl; exact rfl; exact rfl; exact fun w hw => sAllConflicts_r v1 rs _ (z1.mono hw) (fun r hr => (z2 r hr).mono hw); rintro ⟨v3, qs⟩ w3 k3 x1; dsimp only at x1 ⊢; (have z1 := z1.mono k3); (have z2 : ROks w3 rs := fun r hr => (z2 r hr).mono k3); (have y1 := y1.mono k3); (have k2 := k2.thn k3))
    | ((with_reducible apply (LR_call (f := 33))); exact rfl; exact rfl; exact rfl; exact fun w hw => equalLists_p (y1.mono hw) (x1.mono hw) (List.Perm.refl _))
    | ((with_reducible apply LR_len_sl); exact rfl; exact rfl; exact rfl; exact z1)
    | ((with_reducible apply CS_seq))
    | ((with_reducible apply CS_block))
    | ((with_reducible apply CS_region))
    | ((with_reducible apply RR_end))
    | ((with_reducible apply LR_pure); exact rfl; exact rfl; exact rfl)
    | ((with_reducible apply LR_sub); exact rfl; exact rfl; exact rfl; exact rfl; omega; omega)
    | ((with_reducible apply LS_buildSlice); exact rfl; exact rfl; exact rfl; exact rfl; exact rfl; exact rfl; exact rfl; intro _)
    | ((with_reducible apply post_seq))
    | ((with_reducible apply post_then_ret))
    | ((with_reducible apply CS_skip))
    | ((with_reducible apply CS_ret))
    | ((with_reducible apply CS_cond_f); exact rfl)
    | ((with_reducible apply CS_cond_d); exact rfl; all_goals intro hb; all_goals try (exfalso; omega))
  · apply ret_bool; exact rfl; exact rfl; rfl
  all_goals first | (exfalso; contradiction) | (exfalso; omega) | (exfalso; simp at hb <;> omega) | skip
  rename_i g0
  refine CS_loop (ι := Nat × Nat × Nat × List Ru) (fun i => [(3, v1), (4, v2), (5, .slice (some ⟨i.2.1, 0, none⟩) i.2.2.2.length i.2.2.1), (6, .int .i64 ((i.1 : Int) - 1))]) (fun i => Wd w3 [ruE i.2.1 i.2.2.1 i.2.2.2]) (fun i => i.1 ≤ rs.length ∧ i.2.2.2.Perm (rs.drop i.1) ∧ i.2.2.2.length ≤ i.2.2.1 ∧ i.2.2.1 ≤ maxLen) (fun i => i.1) (rs.length, g0, 0, []) ⟨by dsimp only; omega, by simp, by simp, by simp⟩ ⟨rfl, rfl, rfl, rfl, trivial⟩ (fun _ hw => hw.picks [0] rfl) ?_
  rintro ⟨k, g1, c1, s⟩ ⟨a1, a2, a3, a4⟩
  dsimp only at a1 a2 a3 a4 ⊢
  by_cases hk : 0 < k
  · obtain ⟨x, hx⟩ : ∃ y, rs[k-1]? = some y := ⟨_, List.getElem?_eq_getElem (by omega)⟩
    have hsl := a2.length_eq
    rw [List.length_drop] at hsl
    repeat' first
      | ((with_reducible apply (LR_index_old (k-1))); exact rfl; exact rfl; exact rfl; exact rfl; exact z1; omega; exact hx; exact rfl; intro _ _)
      | ((with_reducible apply (LS_append_one 1 0 s x)); exact rfl; exact rfl; exact rfl; exact rfl; exact rfl; exact rfl; exact rfl; exact rfl; exact rfl; exact rfl; exact rfl; omega; omega; omega; intro g4 c4 e1 e2)
      | ((with_reducible apply CS_seq))
      | ((with_reducible apply CS_block))
      | ((with_reducible apply CS_region))
      | ((with_reducible apply RR_end))
      | ((with_reducible apply LR_pure); exact rfl; exact rfl; exact rfl)
      | ((with_reducible apply LR_sub); exact rfl; exact rfl; exact rfl; exact rfl; omega; omega)
      | ((with_reducible apply LR_load_old_agg); exact rfl; exact rfl; exact rfl; assumption; exact rfl)
      | ((with_reducible apply LS_buildSlice); exact rfl; exact rfl; exact rfl; exact rfl; exact rfl; exact rfl; exact rfl; intro _)
      | ((with_reducible apply post_seq))
      | ((with_reducible apply post_block_n))
      | ((with_reducible apply CS_skip))
      | ((with_reducible apply CS_cond_d); exact rfl; all_goals intro hb; all_goals try (exfalso; omega))
    all_goals first | (exfalso; contradiction) | (exfalso; omega) | (exfalso; simp at hb <;> omega) | skip
    exact post_round (i := (k, g1, c1, s)) (k - 1, g4, c4, s ++ [x]) ⟨by dsimp only; omega, by
      dsimp only
      have h1 : rs.drop (k - 1) = x :: rs.drop k := by
        rw [List.drop_eq_getElem_cons (by omega), (List.getElem?_eq_some_iff.1 hx).2, show k - 1 + 1 = k by omega]
      rw [h1]
      exact (a2.append_right [x]).trans (List.perm_append_singleton x _), by simpa using e1, e2⟩ (by dsimp only; omega) ⟨rfl, rfl, by dsimp only; rw [List.length_append]; rfl, by dsimp only; rw [show (((k - 1 : Nat) : Int)) - 1 = (k : Int) - 1 - 1 by omega]; rfl, trivial⟩ (fun _ hw => hw.picks [0] rfl)
  · have hk0 : k = 0 := by omega
    subst hk0
    have hp : s.Perm rs := by simpa using a2
    repeat' first
      | ((with_reducible apply (LS_callr (f := 24))); exact rfl; exact rfl; exact rfl; exact fun w hw => iAllConflicts_r _ s _ (own_sl 0 hw rfl rfl rfl a3 a4) (fun r hr => (z2 r (hp.mem_iff.1 hr)).mono hw); rintro ⟨v5, us⟩ w5 k5 x5; dsimp only at x5 ⊢; (have y1 := y1.mono k5); (have k2 := k2.thn k5))
      | ((with_reducible apply (LR_call (f := 33))); exact rfl; exact rfl; exact rfl; exact fun w hw => equalLists_p (x5.mono hw) (y1.mono hw) hp)
      | ((with_reducible apply CS_seq))
      | ((with_reducible apply CS_region))
      | ((with_reducible apply RR_end))
      | ((with_reducible apply LR_pure); exact rfl; exact rfl; exact rfl)
      | ((with_reducible apply post_seq))
      | ((with_reducible apply post_then_exit))
      | ((with_reducible apply post_block_eq))
      | ((with_reducible apply CS_ret))
      | ((with_reducible apply CS_exit))
      | ((with_reducible apply CS_cond_f); exact rfl)
    all_goals first | (exfalso; contradiction) | (exfalso; omega) | (exfalso; simp at hb <;> omega) | skip
    apply ret_boolr k2; exact rfl; exact rfl; rfl
set_option maxHeartbeats 4000000 in
theorem FnAllConflictsPairs_ok (v : Value) (l : List By) (w : World) (hs : Sl w v l) (hby : BytesOk l) : Calls Try.prog 13 #[v] w (Gives (.bool true) w) := by
  have hlen := hs.len
  have hml : maxLen = 9223372036854775807 := rfl
  simp only [maxLen] at hlen
  refine enter (vs := [v]) Try.func13 rfl Try.ntmps13 rfl ?_
  repeat' first
    | ((with_reducible apply LR_len_sl); exact rfl; exact rfl; exact rfl; exact hs)
    | ((with_reducible apply (LS_callr (f := 32))); exact rfl; exact rfl; exact rfl; exact fun w hw => DrawAllConflicts_ok v l w (hs.mono hw) hby; rintro ⟨v1, rs⟩ w1 k1 ⟨z1, z2, z3⟩; dsimp only at z1 z2 z3 ⊢)
    | ((with_reducible apply (LS_callr (f := 24))); exact rfl; exact rfl; exact rfl; exact fun w hw => iAllConflicts_r v1 rs _ (z1.mono hw) (fun r hr => (z2 r hr).mono hw); rintro ⟨v2, ps⟩ w2 k2 y1; dsimp only at y1 ⊢; (have z1 := z1.mono k2); (have z2 : ROks w2 rs := fun r hr => (z2 r hr).mono k2); (have k2 := k1.thn k2))
    | ((with_reducible apply (LS_callr (f := 34))); exact rfl; exact rfl; exact rfl; exact fun w hw => sAllConflicts_r v1 rs _ (z1.mono hw) (fun r hr => (z2 r hr).mono hw); rintro ⟨v3, qs⟩ w3 k3 x1; dsimp only at x1 ⊢; (have z1 := z1.mono k3); (have z2 : ROks w3 rs := fun r hr => (z2 r hr).mono k3); (have y1 := y1.mono k3); (have k2 := k2.thn k3))
    | ((with_reducible apply (LR_call (f := 33))); exact rfl; exact rfl; exact rfl; exact fun w hw => equalLists_p (y1.mono hw) (x1.mono hw) (List.Perm.refl _))
    | ((with_reducible apply CS_seq))
    | ((with_reducible apply CS_block))
    | ((with_reducible apply CS_region))
    | ((with_reducible apply RR_end))
    | ((with_reducible apply LR_pure); exact rfl; exact rfl; exact rfl)
    | ((with_reducible apply post_seq))
    | ((with_reducible apply post_then_ret))
    | ((with_reducible apply CS_skip))
    | ((with_reducible apply CS_ret))
    | ((with_reducible apply CS_cond_f); exact rfl)
    | ((with_reducible apply CS_cond_d); exact rfl; all_goals intro hb; all_goals try (exfalso; omega))
  · apply ret_bool; exact rfl; exact rfl; rfl
  all_goals first | (exfalso; contradiction) | (exfalso; omega) | (exfalso; simp at hb <;> omega) | skip
  have hpl := y1.len
  have hlt : ∀ (i : Nat) (p : Pp), ps[i]? = some p → p.a < p.b := fun i p hp => by
    by_cases hV : VRs rs
    · have h1 := ((y1.yes hV).2 (pPr p)).1 (List.mem_map.2 ⟨p, List.mem_of_getElem? hp, rfl⟩)
      obtain ⟨_, _, _, _, _, _, h, _⟩ := h1
      exact h
    · have := y1.no hV; subst this; simp at hp
  have hlx : ∀ (i : Nat) (q p : Pp), 0 < i → ps[i-1]? = some q → ps[i]? = some p → lex (q.a, q.b) (p.a, p.b) := fun i q p hi hq hp => by
    by_cases hV : VRs rs
    · have h1 := (y1.yes hV).1
      rw [List.pairwise_map] at h1
      have h2 := List.pairwise_iff_getElem.1 h1 (i - 1) i (List.getElem?_eq_some_iff.1 hq).1 (List.getElem?_eq_some_iff.1 hp).1 (by omega)
      rw [(List.getElem?_eq_some_iff.1 hp).2, (List.getElem?_eq_some_iff.1 hq).2] at h2
      exact h2
    · have := y1.no hV; subst this; simp at hp
  refine CS_loop (ι := Nat) (fun i => [(4, v2), (5, .int .i64 (i : Int))]) (fun i => Wd w3 []) (fun i => i ≤ ps.length) (fun i => ps.length - i) 0 (by omega) ⟨rfl, rfl, trivial⟩ (fun _ hw => hw.nil) ?_
  intro k hkl
  by_cases hk : k < ps.length
  · obtain ⟨p, hp⟩ : ∃ y, ps[k]? = some y := ⟨_, List.getElem?_eq_getElem hk⟩
    have hpe := y1.el p (List.mem_of_getElem? hp)
    have hp0 : [p.a, p.b][0]? = some p.a := rfl
    have hp1 : [p.a, p.b][1]? = some p.b := rfl
    have hab := hlt k p hp
    by_cases h0 : 0 < k
    · obtain ⟨q, hq⟩ : ∃ y, ps[k-1]? = some y := ⟨_, List.getElem?_eq_getElem (by omega)⟩
      have hqe := y1.el q (List.mem_of_getElem? hq)
      have hq0 : [q.a, q.b][0]? = some q.a := rfl
      have hq1 : [q.a, q.b][1]? = some q.b := rfl
      have hqp := hlx k q p h0 hq hp
      unfold lex at hqp
      simp only at hqp
      repeat' first
        | ((with_reducible apply LR_len_sl); exact rfl; exact rfl; exact rfl; exact y1.sl)
        | ((with_reducible apply (LR_index_old (k))); exact rfl; exact rfl; exact rfl; exact rfl; exact y1.sl; omega; exact hp; exact rfl; intro _ _)
        | ((with_reducible apply (LR_index_old (k-1))); exact rfl; exact rfl; exact rfl; exact rfl; exact y1.sl; omega; exact hq; exact rfl; intro _ _)
        | ((with_reducible apply (LR_index_old (0))); exact rfl; exact rfl; exact rfl; exact rfl; exact hpe; omega; exact hp0; exact rfl; intro _ _)
        | ((with_reducible apply (LR_index_old (1))); exact rfl; exact rfl; exact rfl; exact rfl; exact hpe; omega; exact hp1; exact rfl; intro _ _)
        | ((with_reducible apply (LR_index_old (0))); exact rfl; exact rfl; exact rfl; exact rfl; exact hqe; omega; exact hq0; exact rfl; intro _ _)
        | ((with_reducible apply (LR_index_old (1))); exact rfl; exact rfl; exact rfl; exact rfl; exact hqe; omega; exact hq1; exact rfl; intro _ _)
        | ((with_reducible apply CS_seq))
        | ((with_reducible apply CS_block))
        | ((with_reducible apply CS_region))
        | ((with_reducible apply CS_regionq_wd); kernel_rfl; kernel_rfl)
        | ((with_reducible apply RR_end))
        | ((with_reducible apply LR_pure); exact rfl; exact rfl; exact rfl)
        | ((with_reducible apply LR_skip); exact rfl; exact rfl)
        | ((with_reducible apply LR_add); exact rfl; exact rfl; exact rfl; exact rfl; omega; omega)
        | ((with_reducible apply LR_sub); exact rfl; exact rfl; exact rfl; exact rfl; omega; omega)
        | ((with_reducible apply LR_load_old0); exact rfl; exact rfl; exact rfl; assumption; exact rfl)
        | ((with_reducible apply LR_len); exact rfl; exact rfl; exact rfl)
        | ((with_reducible apply post_seq))
        | ((with_reducible apply post_block_n))
        | ((with_reducible apply CS_skip))
        | ((with_reducible apply CS_cond_f); exact rfl)
        | ((with_reducible apply CS_cond_d); exact rfl; all_goals intro hb; all_goals try (exfalso; omega))
        | ((with_reducible apply LR_caseg_d); exact rfl; exact rfl; all_goals intro hb; all_goals try (exfalso; omega))
      all_goals first | (exfalso; contradiction) | (exfalso; omega) | (exfalso; simp at hb <;> omega) | skip
      all_goals exact post_round (i := k) (k + 1) (by omega) (by omega) ⟨rfl, rfl, trivial⟩ (fun _ hw => hw)
    · have hk0 : k = 0 := by omega
      subst hk0
      repeat' first
        | ((with_reducible apply LR_len_sl); exact rfl; exact rfl; exact rfl; exact y1.sl)
        | ((with_reducible apply (LR_index_old (0))); exact rfl; exact rfl; exact rfl; exact rfl; exact y1.sl; omega; exact hp; exact rfl; intro _ _)
        | ((with_reducible apply (LR_index_old (0))); exact rfl; exact rfl; exact rfl; exact rfl; exact hpe; omega; exact hp0; exact rfl; intro _ _)
        | ((with_reducible apply (LR_index_old (1))); exact rfl; exact rfl; exact rfl; exact rfl; exact hpe; omega; exact hp1; exact rfl; intro _ _)
        | ((with_reducible apply CS_seq))
        | ((with_reducible apply CS_block))
        | ((with_reducible apply CS_region))
        | ((with_reducible apply CS_regionq_wd); kernel_rfl; kernel_rfl)
        | ((with_reducible apply RR_end))
        | ((with_reducible apply LR_pure); exact rfl; exact rfl; exact rfl)
        | ((with_reducible apply LR_skip); exact rfl; exact rfl)
        | ((with_reducible apply LR_add); exact rfl; exact rfl; exact rfl; exact rfl; omega; omega)
        | ((with_reducible apply LR_load_old0); exact rfl; exact rfl; exact rfl; assumption; exact rfl)
        | ((with_reducible apply LR_len); exact rfl; exact rfl; exact rfl)
        | ((with_reducible apply post_seq))
        | ((with_reducible apply post_block_n))
        | ((with_reducible apply CS_skip))
        | ((with_reducible apply CS_cond_f); exact rfl)
        | ((with_reducible apply CS_cond_d); exact rfl; all_goals intro hb; all_goals try (exfalso; omega))
      all_goals first | (exfalso; contradiction) | (exfalso; omega) | (exfalso; simp at hb <;> omega) | skip
      all_goals exact post_round (i := 0) 1 (by omega) (by omega) ⟨rfl, rfl, trivial⟩ (fun _ hw => hw)
  · skip
    repeat' first
      | ((with_reducible apply LR_len_sl); exact rfl; exact rfl; exact rfl; exact y1.sl)
      | ((with_reducible apply CS_seq))
      | ((with_reducible apply CS_region))
      | ((with_reducible apply RR_end))
      | ((with_reducible apply LR_pure); exact rfl; exact rfl; exact rfl)
      | ((with_reducible apply post_seq))
      | ((with_reducible apply post_then_exit))
      | ((with_reducible apply post_block_eq))
      | ((with_reducible apply CS_ret))
      | ((with_reducible apply CS_exit))
      | ((with_reducible apply CS_cond_d); exact rfl; all_goals intro hb; all_goals try (exfalso; omega))
    all_goals first | (exfalso; contradiction) | (exfalso; omega) | (exfalso; simp at hb <;> omega) | skip
    all_goals (apply ret_boolr k2; exact rfl; exact rfl; rfl)
end Go.Proofs.Ytpflkichnjfgkaa
