/- The walks of the checks of what is left, of the parts of discounts, and of the reference's discounts. No condition beyond those that each theorem states. -/
import Derived.Test.YtbgfkhliideegaaGreatPEf
import Derived.Test.YtbgfkhliideegaaGreatWCa2
import Derived.Test.YtbgfkhliideegaaGreatWAp
import Derived.Test.YtbgfkhliideegaaGreatWRu1
namespace Go.Proofs.YtbgfkhliideegaaGreat
open Go.RowKit
attribute [local irreducible] Calls
abbrev rbE (g : Nat) (r : Ru) : Ent := ⟨g, 71, 11, Enc.enc r⟩
theorem mix_same {α : Type} {m l : List α} {k : Nat} {x : α} (hx : m[k]? = some x) (hy : l[k]? = some x) : mix m l (k + 1) = mix m l k := by
  obtain ⟨h1, h2⟩ := List.getElem?_eq_some_iff.1 hx
  obtain ⟨h3, h4⟩ := List.getElem?_eq_some_iff.1 hy
  unfold mix
  rw [List.take_add_one, hx, List.drop_eq_getElem_cons h3, h4]
  simp
theorem rep_at {n k : Nat} (h : k < n) : (List.replicate n (0 : Int))[k]? = some 0 := by simp [h]
def VLat (s : List Ar) (c : List Ln) (f : List Int) (k : Nat) : Prop := ∀ x m, f[k]? = some x → (amts s c)[k]? = some m → 0 ≤ x ∧ x ≤ m
theorem vl_next {s : List Ar} {c : List Ln} {f : List Int} {k : Nat} (h : ∀ j : Nat, j < k → VLat s c f j) (hk : VLat s c f k) : ∀ j : Nat, j < k + 1 → VLat s c f j := fun j hj => by
  by_cases hjk : j = k
  · subst hjk; exact hk
  · exact h j (by omega)
theorem VLat_iff {s : List Ar} {c : List Ln} {f : List Int} {k : Nat} {x m : Int} (hx : f[k]? = some x) (hm : (amts s c)[k]? = some m) : VLat s c f k ↔ 0 ≤ x ∧ x ≤ m :=
  ⟨fun h => h x m hx hm, fun h x' m' hx' hm' => by rw [hx] at hx'; rw [hm] at hm'; cases hx'; cases hm'; exact h⟩
theorem leftOk_ok (v0 : Value) (s : List Ar) (v : Value) (c : List Ln) (v2 : Value) (f : List Int) (w : World) (b : Bool) (hs0 : Sl w v0 s) (hs : Sl w v c) (hs2 : Sl w v2 f) (hB : VSC s c ∧ VL s c f ↔ b = true) : Calls Tryz.prog 94 #[v0, v, v2] w (Gives (.bool b) w) := by
  have hml : maxLen = 9223372036854775807 := rfl
  have hlen := hs.len
  have hlen2 := hs2.len
  by_cases h : VSC s c
  · have hv : VSC s c ↔ true = true := by simp [h]
    have hal := amts_len s c
    refine enter (vs := [v0, v, v2]) Tryz.func94 rfl Tryz.ntmps94 rfl ?_
    repeat' first
      | ((with_reducible apply (LS_callx (f := 55))); exact rfl; exact rfl; exact rfl; exact fun w hw => iLineAmounts_ok v0 s v c w (hs0.mono hw) (hs.mono hw) h; rintro ⟨g1, c1⟩ ⟨e1, e2⟩; dsimp only at e1 e2 ⊢)
      | ((with_reducible apply (LR_call (f := 86))); exact rfl; exact rfl; exact rfl; exact fun w hw => iValidCart_ok v0 s v c w _ (hs0.mono hw) (hs.mono hw) hv)
      | ((with_reducible apply LR_len_sl); exact rfl; exact rfl; exact rfl; exact hs2)
      | ((with_reducible apply LR_len_sl); exact rfl; exact rfl; exact rfl; exact hs)
      | ((with_reducible apply CS_seq))
      | ((with_reducible apply CS_block))
      | ((with_reducible apply CS_region))
      | ((with_reducible apply RR_end))
      | ((with_reducible apply LR_pure); exact rfl; exact rfl; exact rfl)
      | ((with_reducible apply LR_skip); exact rfl; exact rfl)
      | ((with_reducible apply LR_add); exact rfl; exact rfl; exact rfl; exact rfl; omega; omega)
      | ((with_reducible apply LR_neqb); exact rfl; exact rfl; exact rfl; exact rfl)
      | ((with_reducible apply LR_load_own 0); exact rfl; exact rfl; exact rfl; exact rfl; exact rfl)
      | ((with_reducible apply LR_load_own 1); exact rfl; exact rfl; exact rfl; exact rfl; exact rfl)
      | ((with_reducible apply LR_load_own 2); exact rfl; exact rfl; exact rfl; exact rfl; exact rfl)
      | ((with_reducible apply LR_load_own 3); exact rfl; exact rfl; exact rfl; exact rfl; exact rfl)
      | ((with_reducible apply LR_load_own 4); exact rfl; exact rfl; exact rfl; exact rfl; exact rfl)
      | ((with_reducible apply LR_load_old); exact rfl; exact rfl; exact rfl; assumption; exact rfl)
      | ((with_reducible apply LR_load_old0); exact rfl; exact rfl; exact rfl; assumption; exact rfl)
      | ((with_reducible apply LR_load_old_agg); exact rfl; exact rfl; exact rfl; assumption; exact rfl)
      | ((with_reducible apply LR_load_old_aggk); exact rfl; exact rfl; exact rfl; assumption; exact rfl)
      | ((with_reducible apply LR_load_own_agg 0); exact rfl; exact rfl; exact rfl; exact rfl; exact rfl)
      | ((with_reducible apply LR_load_own_agg 1); exact rfl; exact rfl; exact rfl; exact rfl; exact rfl)
      | ((with_reducible apply LR_load_own_agg 2); exact rfl; exact rfl; exact rfl; exact rfl; exact rfl)
      | ((with_reducible apply LR_load_own_agg 3); exact rfl; exact rfl; exact rfl; exact rfl; exact rfl)
      | ((with_reducible apply LR_load_own_agg 4); exact rfl; exact rfl; exact rfl; exact rfl; exact rfl)
      | ((with_reducible apply LR_len); exact rfl; exact rfl; exact rfl)
      | ((with_reducible apply LR_len_sl); exact rfl; exact rfl; exact rfl; assumption)
      | ((with_reducible apply LR_index_any); exact rfl; exact rfl; exact rfl; exact rfl; assumption; omega; omega; exact rfl; intro _ _ _ _)
      | ((with_reducible apply LR_load_cls0); exact rfl; exact rfl; exact rfl; assumption; exact rfl)
      | ((with_reducible apply LR_load_cls); exact rfl; exact rfl; exact rfl; assumption; exact rfl)
      | ((with_reducible apply LR_load_cls_agg); exact rfl; exact rfl; exact rfl; assumption; exact rfl)
      | ((with_reducible apply post_seq))
      | ((with_reducible apply post_then_ret))
      | ((with_reducible apply post_then_exit))
      | ((with_reducible apply post_block_n))
      | ((with_reducible apply post_block_ret))
      | ((with_reducible apply post_block_eq))
      | ((with_reducible apply post_block_ne); exact rfl)
      | ((with_reducible apply CS_skip))
      | ((with_reducible apply CS_ret))
      | ((with_reducible apply CS_exit))
      | ((with_reducible apply CS_cond_t); exact rfl)
      | ((with_reducible apply CS_cond_f); exact rfl)
      | ((with_reducible apply CS_cond_nd); exact rfl; all_goals intro hb; all_goals try (exfalso; omega))
      | ((with_reducible apply CS_cond_d); exact rfl; all_goals intro hb; all_goals try (exfalso; omega))
      | ((with_reducible apply CS_cond_n); exact rfl; all_goals intro hb; all_goals try (exfalso; omega))
      | ((with_reducible apply CS_cond); exact rfl; all_goals intro hb; all_goals try (exfalso; omega))
      | ((with_reducible apply LR_caseg_nd); exact rfl; exact rfl; all_goals intro hb; all_goals try (exfalso; omega))
      | ((with_reducible apply LR_caseg_d); exact rfl; exact rfl; all_goals intro hb; all_goals try (exfalso; omega))
      | ((with_reducible apply LR_caseg_n); exact rfl; exact rfl; all_goals intro hb; all_goals try (exfalso; omega))
      | ((with_reducible apply LR_caseg); exact rfl; exact rfl; all_goals intro hb; all_goals try (exfalso; omega))
      | ((with_reducible apply LR_casep_nd); exact rfl; all_goals intro hb; all_goals (fail_if_success guard_hyp hb :ₛ true = true); all_goals try (exfalso; omega))
      | ((with_reducible apply LR_casep_d); exact rfl; all_goals intro hb; all_goals (fail_if_success guard_hyp hb :ₛ true = true); all_goals try (exfalso; omega))
      | ((with_reducible apply LR_casep_n); exact rfl; all_goals intro hb; all_goals (fail_if_success guard_hyp hb :ₛ true = true); all_goals try (exfalso; omega))
      | ((with_reducible apply LR_casep); exact rfl; all_goals intro hb; all_goals (fail_if_success guard_hyp hb :ₛ true = true); all_goals try (exfalso; omega))
    all_goals first | (exfalso; contradiction) | (exfalso; omega) | (exfalso; simp at hb <;> omega) | skip
    · apply ret_bool; exact rfl; exact rfl; exact bfalse hB fun h' => by have := h'.2.1; omega
    · refine CS_loop (ι := Nat) (fun i => [(7, .slice (some ⟨g1, 0, none⟩) (amts s c).length c1), (24, v2), (25, .int .i64 f.length), (26, .int .i64 (i : Int))]) (fun i => Wd w [intE g1 c1 (amts s c)]) (fun i => i ≤ f.length ∧ ∀ j : Nat, j < i → VLat s c f j) (fun i => f.length - i) 0 ⟨by omega, fun j hj => by omega⟩ ⟨rfl, rfl, rfl, rfl, trivial⟩ (fun _ hw => hw) ?_
      rintro k ⟨h0, h1⟩
      by_cases hi : k < f.length
      · obtain ⟨x, hx⟩ : ∃ y, f[k]? = some y := ⟨_, List.getElem?_eq_getElem hi⟩
        obtain ⟨m, hm⟩ : ∃ y, (amts s c)[k]? = some y := ⟨_, List.getElem?_eq_getElem (by omega)⟩
        have hbad : ¬ VLat s c f k → false = b := fun h => bfalse hB fun h' => h (h'.2.2 k hi)
        have hgo := fun hk => vl_next h1 (k := k) hk
        rw [VLat_iff hx hm] at hbad hgo
        repeat' first
          | ((with_reducible apply (LR_index_old (k))); exact rfl; exact rfl; exact rfl; exact rfl; exact hs2; omega; exact hx; exact rfl; intro _ _)
          | ((with_reducible apply (LR_index_own (k))); exact rfl; exact rfl; exact rfl; exact rfl; omega; omega)
          | ((with_reducible apply (LR_load_own 0)); exact rfl; exact rfl; exact rfl; exact rfl; exact nth_fld _ (k) _ 0 _ hm rfl)
          | ((with_reducible apply (LR_call (f := 126))); exact rfl; exact rfl; exact rfl; exact fun w hw => within_ok _ _ _ w)
          | ((with_reducible apply CS_seq))
          | ((with_reducible apply CS_block))
          | ((with_reducible apply CS_region))
          | ((with_reducible apply RR_end))
          | ((with_reducible apply LR_pure); exact rfl; exact rfl; exact rfl)
          | ((with_reducible apply LR_skip); exact rfl; exact rfl)
          | ((with_reducible apply LR_add); exact rfl; exact rfl; exact rfl; exact rfl; omega; omega)
          | ((with_reducible apply LR_neqb); exact rfl; exact rfl; exact rfl; exact rfl)
          | ((with_reducible apply LR_load_own 0); exact rfl; exact rfl; exact rfl; exact rfl; exact rfl)
          | ((with_reducible apply LR_load_own 1); exact rfl; exact rfl; exact rfl; exact rfl; exact rfl)
          | ((with_reducible apply LR_load_own 2); exact rfl; exact rfl; exact rfl; exact rfl; exact rfl)
          | ((with_reducible apply LR_load_own 3); exact rfl; exact rfl; exact rfl; exact rfl; exact rfl)
          | ((with_reducible apply LR_load_own 4); exact rfl; exact rfl; exact rfl; exact rfl; exact rfl)
          | ((with_reducible apply LR_load_old); exact rfl; exact rfl; exact rfl; assumption; exact rfl)
          | ((with_reducible apply LR_load_old0); exact rfl; exact rfl; exact rfl; assumption; exact rfl)
          | ((with_reducible apply LR_load_old_agg); exact rfl; exact rfl; exact rfl; assumption; exact rfl)
          | ((with_reducible apply LR_load_old_aggk); exact rfl; exact rfl; exact rfl; assumption; exact rfl)
          | ((with_reducible apply LR_load_own_agg 0); exact rfl; exact rfl; exact rfl; exact rfl; exact rfl)
          | ((with_reducible apply LR_load_own_agg 1); exact rfl; exact rfl; exact rfl; exact rfl; exact rfl)
          | ((with_reducible apply LR_load_own_agg 2); exact rfl; exact rfl; exact rfl; exact rfl; exact rfl)
          | ((with_reducible apply LR_load_own_agg 3); exact rfl; exact rfl; exact rfl; exact rfl; exact rfl)
          | ((with_reducible apply LR_load_own_agg 4); exact rfl; exact rfl; exact rfl; exact rfl; exact rfl)
          | ((with_reducible apply LR_len); exact rfl; exact rfl; exact rfl)
          | ((with_reducible apply LR_len_sl); exact rfl; exact rfl; exact rfl; assumption)
          | ((with_reducible apply LR_index_any); exact rfl; exact rfl; exact rfl; exact rfl; assumption; omega; omega; exact rfl; intro _ _ _ _)
          | ((with_reducible apply LR_load_cls0); exact rfl; exact rfl; exact rfl; assumption; exact rfl)
          | ((with_reducible apply LR_load_cls); exact rfl; exact rfl; exact rfl; assumption; exact rfl)
          | ((with_reducible apply LR_load_cls_agg); exact rfl; exact rfl; exact rfl; assumption; exact rfl)
          | ((with_reducible apply post_seq))
          | ((with_reducible apply post_then_ret))
          | ((with_reducible apply post_then_exit))
          | ((with_reducible apply post_block_n))
          | ((with_reducible apply post_block_ret))
          | ((with_reducible apply post_block_eq))
          | ((with_reducible apply post_block_ne); exact rfl)
          | ((with_reducible apply CS_skip))
          | ((with_reducible apply CS_ret))
          | ((with_reducible apply CS_exit))
          | ((with_reducible apply CS_cond_t); exact rfl)
          | ((with_reducible apply CS_cond_f); exact rfl)
          | ((with_reducible apply CS_cond_nd); exact rfl; all_goals intro hb; all_goals try (exfalso; omega))
          | ((with_reducible apply CS_cond_d); exact rfl; all_goals intro hb; all_goals try (exfalso; omega))
          | ((with_reducible apply CS_cond_n); exact rfl; all_goals intro hb; all_goals try (exfalso; omega))
          | ((with_reducible apply CS_cond); exact rfl; all_goals intro hb; all_goals try (exfalso; omega))
          | ((with_reducible apply LR_caseg_nd); exact rfl; exact rfl; all_goals intro hb; all_goals try (exfalso; omega))
          | ((with_reducible apply LR_caseg_d); exact rfl; exact rfl; all_goals intro hb; all_goals try (exfalso; omega))
          | ((with_reducible apply LR_caseg_n); exact rfl; exact rfl; all_goals intro hb; all_goals try (exfalso; omega))
          | ((with_reducible apply LR_caseg); exact rfl; exact rfl; all_goals intro hb; all_goals try (exfalso; omega))
          | ((with_reducible apply LR_casep_nd); exact rfl; all_goals intro hb; all_goals (fail_if_success guard_hyp hb :ₛ true = true); all_goals try (exfalso; omega))
          | ((with_reducible apply LR_casep_d); exact rfl; all_goals intro hb; all_goals (fail_if_success guard_hyp hb :ₛ true = true); all_goals try (exfalso; omega))
          | ((with_reducible apply LR_casep_n); exact rfl; all_goals intro hb; all_goals (fail_if_success guard_hyp hb :ₛ true = true); all_goals try (exfalso; omega))
          | ((with_reducible apply LR_casep); exact rfl; all_goals intro hb; all_goals (fail_if_success guard_hyp hb :ₛ true = true); all_goals try (exfalso; omega))
        all_goals (try simp only [wi_true, wi_false] at *)
        all_goals first
          | (apply ret_bool; exact rfl; exact rfl; exact hbad (by omega))
          | exact post_round (i := k) (k + 1) ⟨by omega, hgo (by omega)⟩ (by omega) ⟨rfl, rfl, rfl, rfl, trivial⟩ (fun _ hw => hw)
      · skip
        repeat' first
          | ((with_reducible apply CS_seq))
          | ((with_reducible apply CS_block))
          | ((with_reducible apply CS_region))
          | ((with_reducible apply RR_end))
          | ((with_reducible apply LR_pure); exact rfl; exact rfl; exact rfl)
          | ((with_reducible apply LR_skip); exact rfl; exact rfl)
          | ((with_reducible apply LR_add); exact rfl; exact rfl; exact rfl; exact rfl; omega; omega)
          | ((with_reducible apply LR_neqb); exact rfl; exact rfl; exact rfl; exact rfl)
          | ((with_reducible apply LR_load_own 0); exact rfl; exact rfl; exact rfl; exact rfl; exact rfl)
          | ((with_reducible apply LR_load_own 1); exact rfl; exact rfl; exact rfl; exact rfl; exact rfl)
          | ((with_reducible apply LR_load_own 2); exact rfl; exact rfl; exact rfl; exact rfl; exact rfl)
          | ((with_reducible apply LR_load_own 3); exact rfl; exact rfl; exact rfl; exact rfl; exact rfl)
          | ((with_reducible apply LR_load_own 4); exact rfl; exact rfl; exact rfl; exact rfl; exact rfl)
          | ((with_reducible apply LR_load_old); exact rfl; exact rfl; exact rfl; assumption; exact rfl)
          | ((with_reducible apply LR_load_old0); exact rfl; exact rfl; exact rfl; assumption; exact rfl)
          | ((with_reducible apply LR_load_old_agg); exact rfl; exact rfl; exact rfl; assumption; exact rfl)
          | ((with_reducible apply LR_load_old_aggk); exact rfl; exact rfl; exact rfl; assumption; exact rfl)
          | ((with_reducible apply LR_load_own_agg 0); exact rfl; exact rfl; exact rfl; exact rfl; exact rfl)
          | ((with_reducible apply LR_load_own_agg 1); exact rfl; exact rfl; exact rfl; exact rfl; exact rfl)
          | ((with_reducible apply LR_load_own_agg 2); exact rfl; exact rfl; exact rfl; exact rfl; exact rfl)
          | ((with_reducible apply LR_load_own_agg 3); exact rfl; exact rfl; exact rfl; exact rfl; exact rfl)
          | ((with_reducible apply LR_load_own_agg 4); exact rfl; exact rfl; exact rfl; exact rfl; exact rfl)
          | ((with_reducible apply LR_len); exact rfl; exact rfl; exact rfl)
          | ((with_reducible apply LR_len_sl); exact rfl; exact rfl; exact rfl; assumption)
          | ((with_reducible apply LR_index_any); exact rfl; exact rfl; exact rfl; exact rfl; assumption; omega; omega; exact rfl; intro _ _ _ _)
          | ((with_reducible apply LR_load_cls0); exact rfl; exact rfl; exact rfl; assumption; exact rfl)
          | ((with_reducible apply LR_load_cls); exact rfl; exact rfl; exact rfl; assumption; exact rfl)
          | ((with_reducible apply LR_load_cls_agg); exact rfl; exact rfl; exact rfl; assumption; exact rfl)
          | ((with_reducible apply post_seq))
          | ((with_reducible apply post_then_ret))
          | ((with_reducible apply post_then_exit))
          | ((with_reducible apply post_block_n))
          | ((with_reducible apply post_block_ret))
          | ((with_reducible apply post_block_eq))
          | ((with_reducible apply post_block_ne); exact rfl)
          | ((with_reducible apply CS_skip))
          | ((with_reducible apply CS_ret))
          | ((with_reducible apply CS_exit))
          | ((with_reducible apply CS_cond_t); exact rfl)
          | ((with_reducible apply CS_cond_f); exact rfl)
          | ((with_reducible apply CS_cond_nd); exact rfl; all_goals intro hb; all_goals try (exfalso; omega))
          | ((with_reducible apply CS_cond_d); exact rfl; all_goals intro hb; all_goals try (exfalso; omega))
          | ((with_reducible apply CS_cond_n); exact rfl; all_goals intro hb; all_goals try (exfalso; omega))
          | ((with_reducible apply CS_cond); exact rfl; all_goals intro hb; all_goals try (exfalso; omega))
          | ((with_reducible apply LR_caseg_nd); exact rfl; exact rfl; all_goals intro hb; all_goals try (exfalso; omega))
          | ((with_reducible apply LR_caseg_d); exact rfl; exact rfl; all_goals intro hb; all_goals try (exfalso; omega))
          | ((with_reducible apply LR_caseg_n); exact rfl; exact rfl; all_goals intro hb; all_goals try (exfalso; omega))
          | ((with_reducible apply LR_caseg); exact rfl; exact rfl; all_goals intro hb; all_goals try (exfalso; omega))
          | ((with_reducible apply LR_casep_nd); exact rfl; all_goals intro hb; all_goals (fail_if_success guard_hyp hb :ₛ true = true); all_goals try (exfalso; omega))
          | ((with_reducible apply LR_casep_d); exact rfl; all_goals intro hb; all_goals (fail_if_success guard_hyp hb :ₛ true = true); all_goals try (exfalso; omega))
          | ((with_reducible apply LR_casep_n); exact rfl; all_goals intro hb; all_goals (fail_if_success guard_hyp hb :ₛ true = true); all_goals try (exfalso; omega))
          | ((with_reducible apply LR_casep); exact rfl; all_goals intro hb; all_goals (fail_if_success guard_hyp hb :ₛ true = true); all_goals try (exfalso; omega))
        apply ret_bool; exact rfl; exact rfl; exact btrue hB ⟨h, by omega, fun j hj => h1 j (by omega)⟩
  · have hv : VSC s c ↔ false = true := by simp [h]
    refine enter (vs := [v0, v, v2]) Tryz.func94 rfl Tryz.ntmps94 rfl ?_
    repeat' first
      | ((with_reducible apply (LS_callx (f := 55))); exact rfl; exact rfl; exact rfl; exact fun w hw => iLineAmounts_no v0 s v c w (hs0.mono hw) (hs.mono hw) h; rintro g1 _)
      | ((with_reducible apply (LR_call (f := 86))); exact rfl; exact rfl; exact rfl; exact fun w hw => iValidCart_ok v0 s v c w _ (hs0.mono hw) (hs.mono hw) hv)
      | ((with_reducible apply CS_seq))
      | ((with_reducible apply CS_block))
      | ((with_reducible apply CS_region))
      | ((with_reducible apply RR_end))
      | ((with_reducible apply LR_pure); exact rfl; exact rfl; exact rfl)
      | ((with_reducible apply LR_skip); exact rfl; exact rfl)
      | ((with_reducible apply LR_add); exact rfl; exact rfl; exact rfl; exact rfl; omega; omega)
      | ((with_reducible apply LR_neqb); exact rfl; exact rfl; exact rfl; exact rfl)
      | ((with_reducible apply LR_load_own 0); exact rfl; exact rfl; exact rfl; exact rfl; exact rfl)
      | ((with_reducible apply LR_load_own 1); exact rfl; exact rfl; exact rfl; exact rfl; exact rfl)
      | ((with_reducible apply LR_load_own 2); exact rfl; exact rfl; exact rfl; exact rfl; exact rfl)
      | ((with_reducible apply LR_load_own 3); exact rfl; exact rfl; exact rfl; exact rfl; exact rfl)
      | ((with_reducible apply LR_load_own 4); exact rfl; exact rfl; exact rfl; exact rfl; exact rfl)
      | ((with_reducible apply LR_load_old); exact rfl; exact rfl; exact rfl; assumption; exact rfl)
      | ((with_reducible apply LR_load_old0); exact rfl; exact rfl; exact rfl; assumption; exact rfl)
      | ((with_reducible apply LR_load_old_agg); exact rfl; exact rfl; exact rfl; assumption; exact rfl)
      | ((with_reducible apply LR_load_old_aggk); exact rfl; exact rfl; exact rfl; assumption; exact rfl)
      | ((with_reducible apply LR_load_own_agg 0); exact rfl; exact rfl; exact rfl; exact rfl; exact rfl)
      | ((with_reducible apply LR_load_own_agg 1); exact rfl; exact rfl; exact rfl; exact rfl; exact rfl)
      | ((with_reducible apply LR_load_own_agg 2); exact rfl; exact rfl; exact rfl; exact rfl; exact rfl)
      | ((with_reducible apply LR_load_own_agg 3); exact rfl; exact rfl; exact rfl; exact rfl; exact rfl)
      | ((with_reducible apply LR_load_own_agg 4); exact rfl; exact rfl; exact rfl; exact rfl; exact rfl)
      | ((with_reducible apply LR_len); exact rfl; exact rfl; exact rfl)
      | ((with_reducible apply LR_len_sl); exact rfl; exact rfl; exact rfl; assumption)
      | ((with_reducible apply LR_index_any); exact rfl; exact rfl; exact rfl; exact rfl; assumption; omega; omega; exact rfl; intro _ _ _ _)
      | ((with_reducible apply LR_load_cls0); exact rfl; exact rfl; exact rfl; assumption; exact rfl)
      | ((with_reducible apply LR_load_cls); exact rfl; exact rfl; exact rfl; assumption; exact rfl)
      | ((with_reducible apply LR_load_cls_agg); exact rfl; exact rfl; exact rfl; assumption; exact rfl)
      | ((with_reducible apply post_seq))
      | ((with_reducible apply post_then_ret))
      | ((with_reducible apply post_then_exit))
      | ((with_reducible apply post_block_n))
      | ((with_reducible apply post_block_ret))
      | ((with_reducible apply post_block_eq))
      | ((with_reducible apply post_block_ne); exact rfl)
      | ((with_reducible apply CS_skip))
      | ((with_reducible apply CS_ret))
      | ((with_reducible apply CS_exit))
      | ((with_reducible apply CS_cond_t); exact rfl)
      | ((with_reducible apply CS_cond_f); exact rfl)
      | ((with_reducible apply CS_cond_nd); exact rfl; all_goals intro hb; all_goals try (exfalso; omega))
      | ((with_reducible apply CS_cond_d); exact rfl; all_goals intro hb; all_goals try (exfalso; omega))
      | ((with_reducible apply CS_cond_n); exact rfl; all_goals intro hb; all_goals try (exfalso; omega))
      | ((with_reducible apply CS_cond); exact rfl; all_goals intro hb; all_goals try (exfalso; omega))
      | ((with_reducible apply LR_caseg_nd); exact rfl; exact rfl; all_goals intro hb; all_goals try (exfalso; omega))
      | ((with_reducible apply LR_caseg_d); exact rfl; exact rfl; all_goals intro hb; all_goals try (exfalso; omega))
      | ((with_reducible apply LR_caseg_n); exact rfl; exact rfl; all_goals intro hb; all_goals try (exfalso; omega))
      | ((with_reducible apply LR_caseg); exact rfl; exact rfl; all_goals intro hb; all_goals try (exfalso; omega))
      | ((with_reducible apply LR_casep_nd); exact rfl; all_goals intro hb; all_goals (fail_if_success guard_hyp hb :ₛ true = true); all_goals try (exfalso; omega))
      | ((with_reducible apply LR_casep_d); exact rfl; all_goals intro hb; all_goals (fail_if_success guard_hyp hb :ₛ true = true); all_goals try (exfalso; omega))
      | ((with_reducible apply LR_casep_n); exact rfl; all_goals intro hb; all_goals (fail_if_success guard_hyp hb :ₛ true = true); all_goals try (exfalso; omega))
      | ((with_reducible apply LR_casep); exact rfl; all_goals intro hb; all_goals (fail_if_success guard_hyp hb :ₛ true = true); all_goals try (exfalso; omega))
    all_goals first | (exfalso; contradiction) | (exfalso; omega) | (exfalso; simp at hb <;> omega) | skip
    apply ret_bool; exact rfl; exact rfl; exact bfalse hB fun h' => h h'.1
theorem smeant_ok (v0 : Value) (s : List Ar) (r : Ru) (l : Ln) (w : World) (b : Bool) (hs0 : Sl w v0 s) (j : Nat) (hj : l.art = j) (ha : s[j]? = some (arOf s l.art)) (hB : mnt s r l ↔ b = true) : Calls Tryz.prog 159 #[v0, ruV r, lnV l] w (Gives (.bool b) w) := by
  unfold mnt at hB
  refine enter (vs := [v0, ruV r, lnV l]) Tryz.func159 rfl Tryz.ntmps159 rfl ?_
  repeat' first
    | ((with_reducible apply (LR_index_old (j))); exact rfl; exact rfl; exact rfl; exact rfl; exact hs0; omega; exact ha; exact rfl; intro _ _)
    | ((with_reducible apply CS_seq))
    | ((with_reducible apply CS_region))
    | ((with_reducible apply CS_regionq_wd); kernel_rfl; kernel_rfl)
    | ((with_reducible apply RR_end))
    | ((with_reducible apply LR_pure); exact rfl; exact rfl; exact rfl)
    | ((with_reducible apply LR_skip); exact rfl; exact rfl)
    | ((with_reducible apply LR_eqb); exact rfl; exact rfl; exact rfl; exact rfl)
    | ((with_reducible apply LR_field_own); exact rfl; exact rfl; exact rfl)
    | ((with_reducible apply LR_field); exact rfl; exact rfl; exact rfl)
    | ((with_reducible apply LR_load_own 0); exact rfl; exact rfl; exact rfl; exact rfl; exact rfl)
    | ((with_reducible apply LR_load_own 1); exact rfl; exact rfl; exact rfl; exact rfl; exact rfl)
    | ((with_reducible apply LR_load_own 2); exact rfl; exact rfl; exact rfl; exact rfl; exact rfl)
    | ((with_reducible apply LR_load_own 3); exact rfl; exact rfl; exact rfl; exact rfl; exact rfl)
    | ((with_reducible apply LR_load_own 4); exact rfl; exact rfl; exact rfl; exact rfl; exact rfl)
    | ((with_reducible apply LR_load_old); exact rfl; exact rfl; exact rfl; assumption; exact rfl)
    | ((with_reducible apply LR_load_old0); exact rfl; exact rfl; exact rfl; assumption; exact rfl)
    | ((with_reducible apply LR_load_old_agg); exact rfl; exact rfl; exact rfl; assumption; exact rfl)
    | ((with_reducible apply LR_load_old_aggk); exact rfl; exact rfl; exact rfl; assumption; exact rfl)
    | ((with_reducible apply LR_load_own_agg 0); exact rfl; exact rfl; exact rfl; exact rfl; exact rfl)
    | ((with_reducible apply LR_load_own_agg 1); exact rfl; exact rfl; exact rfl; exact rfl; exact rfl)
    | ((with_reducible apply LR_load_own_agg 2); exact rfl; exact rfl; exact rfl; exact rfl; exact rfl)
    | ((with_reducible apply LR_load_own_agg 3); exact rfl; exact rfl; exact rfl; exact rfl; exact rfl)
    | ((with_reducible apply LR_load_own_agg 4); exact rfl; exact rfl; exact rfl; exact rfl; exact rfl)
    | ((with_reducible apply LR_index_any); exact rfl; exact rfl; exact rfl; exact rfl; assumption; omega; omega; exact rfl; intro _ _ _ _)
    | ((with_reducible apply LR_load_cls0); exact rfl; exact rfl; exact rfl; assumption; exact rfl)
    | ((with_reducible apply LR_load_cls); exact rfl; exact rfl; exact rfl; assumption; exact rfl)
    | ((with_reducible apply LR_load_cls_agg); exact rfl; exact rfl; exact rfl; assumption; exact rfl)
    | ((with_reducible apply LS_box); exact rfl; exact rfl; exact rfl; exact rfl; intro _)
    | ((with_reducible apply post_seq))
    | ((with_reducible apply post_then_ret))
    | ((with_reducible apply post_then_exit))
    | ((with_reducible apply CS_skip))
    | ((with_reducible apply CS_ret))
    | ((with_reducible apply CS_exit))
    | ((with_reducible apply LR_caseg_nd); exact rfl; exact rfl; all_goals intro hb; all_goals try (exfalso; omega))
    | ((with_reducible apply LR_caseg_d); exact rfl; exact rfl; all_goals intro hb; all_goals try (exfalso; omega))
    | ((with_reducible apply LR_caseg_n); exact rfl; exact rfl; all_goals intro hb; all_goals try (exfalso; omega))
    | ((with_reducible apply LR_caseg); exact rfl; exact rfl; all_goals intro hb; all_goals try (exfalso; omega))
    | ((with_reducible apply LR_casep_nd); exact rfl; all_goals intro hb; all_goals (fail_if_success guard_hyp hb :ₛ true = true); all_goals try (exfalso; omega))
    | ((with_reducible apply LR_casep_d); exact rfl; all_goals intro hb; all_goals (fail_if_success guard_hyp hb :ₛ true = true); all_goals try (exfalso; omega))
    | ((with_reducible apply LR_casep_n); exact rfl; all_goals intro hb; all_goals (fail_if_success guard_hyp hb :ₛ true = true); all_goals try (exfalso; omega))
    | ((with_reducible apply LR_casep); exact rfl; all_goals intro hb; all_goals (fail_if_success guard_hyp hb :ₛ true = true); all_goals try (exfalso; omega))
  all_goals first | (exfalso; contradiction) | (exfalso; omega) | (exfalso; simp at hb <;> omega) | skip
  all_goals first
    | (apply ret_bool; exact rfl; exact rfl; exact btrue hB (by omega))
    | (apply ret_bool; exact rfl; exact rfl; exact b_of (by rw [← hB]; simp; omega))
theorem wsF_one {s : List Ar} {r : Ru} {l : Ln} {x : Int} (hk : r.kind = 1) : wsF s r l x = mtF s r l x * r.val / 1000 := by
  unfold wsF mtF
  by_cases hm : mnt s r l <;> simp [hm, hk]
theorem wsF_three {s : List Ar} {r : Ru} {l : Ln} {x : Int} (hk : r.kind = 3) (h0 : 0 ≤ l.cnt / r.val * (arOf s l.art).price) : wsF s r l x = min (mtF s r l x) (l.cnt / r.val * (arOf s l.art).price) := by
  unfold wsF mtF
  by_cases hm : mnt s r l
  · simp [hm, hk]
  · simp only [hm, if_false]; omega
theorem wsF_two {s : List Ar} {r : Ru} {l : Ln} {x : Int} (hk : r.kind = 2) : wsF s r l x = 0 := by
  unfold wsF
  split
  · rw [if_neg (by omega), if_neg (by omega)]
  · rfl
theorem wsF_not {s : List Ar} {r : Ru} {l : Ln} {x : Int} (h : ¬ mnt s r l) : wsF s r l x = 0 := by unfold wsF; rw [if_neg h]
theorem mtF_not {s : List Ar} {r : Ru} {l : Ln} {x : Int} (h : ¬ mnt s r l) : mtF s r l x = 0 := by unfold mtF; rw [if_neg h]
theorem mtF_yes {s : List Ar} {r : Ru} {l : Ln} {x : Int} (h : mnt s r l) : mtF s r l x = x := by unfold mtF; rw [if_pos h]
theorem free_bd {r : Ru} {l : Ln} {p : Int} (hv : 2 ≤ r.val) (h1 : 1 ≤ l.cnt) (h2 : l.cnt ≤ 20) (h3 : 1 ≤ p) (h4 : p ≤ 5000) : 0 ≤ l.cnt / r.val ∧ l.cnt / r.val ≤ 20 ∧ 0 ≤ l.cnt / r.val * p ∧ l.cnt / r.val * p ≤ 100000 := by
  have a1 : 0 ≤ l.cnt / r.val := Int.ediv_nonneg (by omega) (by omega)
  have a2 : l.cnt / r.val ≤ l.cnt := Int.ediv_le_self _ (by omega)
  have a3 := mul_bd (A := 20) (R := 5000) a1 (by omega) (show 0 ≤ p by omega) h4
  exact ⟨a1, by omega, a3.1, by omega⟩
end Go.Proofs.YtbgfkhliideegaaGreat
