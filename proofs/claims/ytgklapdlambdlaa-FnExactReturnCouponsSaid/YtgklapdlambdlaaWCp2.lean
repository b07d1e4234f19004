/- The walks of the helpers that turn and compare lists. No condition beyond those that each theorem states. -/
import Derived.Test.YtgklapdlambdlaaPCp
import Derived.Test.YtgklapdlambdlaaLst
namespace Go.Proofs.Ytgklapdlambdlaa
open Go.RowKit
abbrev cpV (c : Cp) : Value := .agg #[.int .i64 c.num, .int .i64 c.uses, .int .i64 c.til]
theorem szCouponS_ok (v : Value) (l : List Cp) (n : Int) (w : World) (hs : Sl w v l) (h1 : 0 ≤ n) (h2 : n ≤ 1000000000) : Calls Try.prog 28 #[v, .int .i64 n] w (Gives (.int .i64 (if n - l.length < 0 then -1 else n - l.length)) w) := by
  have hlen := hs.len
  simp only [maxLen] at hlen
  by_cases hc : n - l.length < 0
  · rw [if_pos hc]
    refine enter (vs := [v, .int .i64 n]) Try.func28 rfl Try.ntmps28 rfl ?_
    repeat' first
      | ((with_reducible apply CS_seq))
      | ((with_reducible apply CS_region))
      | ((with_reducible apply RR_end))
      | ((with_reducible apply LR_pure); exact rfl; exact rfl; exact rfl)
      | ((with_reducible apply LR_sub); exact rfl; exact rfl; exact rfl; exact rfl; omega; omega)
      | ((with_reducible apply LR_len); exact rfl; exact rfl; exact rfl)
      | ((with_reducible apply LR_len_sl); exact rfl; exact rfl; exact rfl; assumption)
      | ((with_reducible apply post_seq))
      | ((with_reducible apply post_then_ret))
      | ((with_reducible apply post_then_exit))
      | ((with_reducible apply CS_skip))
      | ((with_reducible apply CS_ret))
      | ((with_reducible apply CS_exit))
      | ((with_reducible apply CS_cond_t); exact rfl)
      | ((with_reducible apply CS_cond_f); exact rfl)
      | ((with_reducible apply CS_cond_nd); exact rfl; all_goals intro hb; all_goals try (exfalso; omega))
      | ((with_reducible apply CS_cond_d); exact rfl; all_goals intro hb; all_goals try (exfalso; omega))
      | ((with_reducible apply CS_cond_n); exact rfl; all_goals intro hb; all_goals try (exfalso; omega))
      | ((with_reducible apply CS_cond); exact rfl; all_goals intro hb; all_goals try (exfalso; omega))
    all_goals (apply ret_int; exact rfl; exact rfl; rfl)
  · rw [if_neg hc]
    refine enter (vs := [v, .int .i64 n]) Try.func28 rfl Try.ntmps28 rfl ?_
    repeat' first
      | ((with_reducible apply CS_seq))
      | ((with_reducible apply CS_region))
      | ((with_reducible apply RR_end))
      | ((with_reducible apply LR_pure); exact rfl; exact rfl; exact rfl)
      | ((with_reducible apply LR_sub); exact rfl; exact rfl; exact rfl; exact rfl; omega; omega)
      | ((with_reducible apply LR_len); exact rfl; exact rfl; exact rfl)
      | ((with_reducible apply LR_len_sl); exact rfl; exact rfl; exact rfl; assumption)
      | ((with_reducible apply post_seq))
      | ((with_reducible apply post_then_ret))
      | ((with_reducible apply post_then_exit))
      | ((with_reducible apply CS_skip))
      | ((with_reducible apply CS_ret))
      | ((with_reducible apply CS_exit))
      | ((with_reducible apply CS_cond_t); exact rfl)
      | ((with_reducible apply CS_cond_f); exact rfl)
      | ((with_reducible apply CS_cond_nd); exact rfl; all_goals intro hb; all_goals try (exfalso; omega))
      | ((with_reducible apply CS_cond_d); exact rfl; all_goals intro hb; all_goals try (exfalso; omega))
      | ((with_reducible apply CS_cond_n); exact rfl; all_goals intro hb; all_goals try (exfalso; omega))
      | ((with_reducible apply CS_cond); exact rfl; all_goals intro hb; all_goals try (exfalso; omega))
    all_goals (apply ret_int; exact rfl; exact rfl; rfl)
theorem sz_neg {v : Value} {l : List Cp} {n : Int} {w : World} (hs : Sl w v l) (h1 : 0 ≤ n) (h2 : n ≤ 1000000000) (hc : n - l.length < 0) : Calls Try.prog 28 #[v, .int .i64 n] w (Gives (.int .i64 (-1)) w) := by
  have := szCouponS_ok v l n w hs h1 h2
  rwa [if_pos hc] at this
theorem sz_pos {v : Value} {l : List Cp} {n : Int} {w : World} (hs : Sl w v l) (h1 : 0 ≤ n) (h2 : n ≤ 1000000000) (hc : ¬ n - l.length < 0) : Calls Try.prog 28 #[v, .int .i64 n] w (Gives (.int .i64 (n - l.length)) w) := by
  have := szCouponS_ok v l n w hs h1 h2
  rwa [if_neg hc] at this
theorem toCoupon_ok (c : Cp) (w : World) : Calls Try.prog 59 #[cpV c] w (Gives (cpV c) w) := by
  refine enter (vs := [cpV c]) Try.func59 rfl Try.ntmps59 rfl ?_
  repeat' first
    | ((with_reducible apply CS_seq))
    | ((with_reducible apply CS_region))
    | ((with_reducible apply RR_end))
    | ((with_reducible apply LR_pure); exact rfl; exact rfl; exact rfl)
    | ((with_reducible apply LR_field_own); exact rfl; exact rfl; exact rfl)
    | ((with_reducible apply LR_field); exact rfl; exact rfl; exact rfl)
    | ((with_reducible apply LR_load_own 0); exact rfl; exact rfl; exact rfl; exact rfl; exact rfl)
    | ((with_reducible apply LR_load_own 1); exact rfl; exact rfl; exact rfl; exact rfl; exact rfl)
    | ((with_reducible apply LR_load_own 2); exact rfl; exact rfl; exact rfl; exact rfl; exact rfl)
    | ((with_reducible apply LR_load_own 3); exact rfl; exact rfl; exact rfl; exact rfl; exact rfl)
    | ((with_reducible apply LR_load_own 4); exact rfl; exact rfl; exact rfl; exact rfl; exact rfl)
    | ((with_reducible apply LR_load_old); exact rfl; exact rfl; exact rfl; assumption; exact rfl)
    | ((with_reducible apply LR_load_old0); exact rfl; exact rfl; exact rfl; assumption; exact rfl)
    | ((with_reducible apply LR_load_old_agg); exact rfl; exact rfl; exact rfl; assumption; exact rfl)
    | ((with_reducible apply LR_load_old_aggk); exact rfl; exact rfl; exact rfl; assumption; exact rfl)
    | ((with_reducible apply LR_load_own_agg 0); exact rfl; exact rfl; exact rfl; exact rfl; exact rfl)
    | ((with_reducible apply LR_load_own_agg 1); exact rfl; exact rfl; exact rfl; exact rfl; exact rfl)
    | ((with_reducible apply LR_load_own_agg 2); exact rfl; exact rfl; exact rfl; exact rfl; exact rfl)
    | ((with_reducible apply LR_load_own_agg 3); exact rfl; exact rfl; exact rfl; exact rfl; exact rfl)
    | ((with_reducible apply LR_load_cls0); exact rfl; exact rfl; exact rfl; assumption; exact rfl)
    | ((with_reducible apply LR_load_cls); exact rfl; exact rfl; exact rfl; assumption; exact rfl)
    | ((with_reducible apply LR_load_cls_agg); exact rfl; exact rfl; exact rfl; assumption; exact rfl)
    | ((with_reducible apply LS_alloc); exact rfl; exact rfl; exact rfl; intro _)
    | ((with_reducible apply LS_box); exact rfl; exact rfl; exact rfl; exact rfl; intro _)
    | ((with_reducible apply LS_store1 0); exact rfl; exact rfl; exact rfl; exact rfl; exact rfl; exact rfl)
    | ((with_reducible apply LS_store1 1); exact rfl; exact rfl; exact rfl; exact rfl; exact rfl; exact rfl)
    | ((with_reducible apply LS_store1 2); exact rfl; exact rfl; exact rfl; exact rfl; exact rfl; exact rfl)
    | ((with_reducible apply LS_store1 3); exact rfl; exact rfl; exact rfl; exact rfl; exact rfl; exact rfl)
    | ((with_reducible apply LS_store_agg 0); exact rfl; exact rfl; exact rfl; exact rfl; exact rfl; exact rfl; exact rfl; exact rfl)
    | ((with_reducible apply LS_store_agg 1); exact rfl; exact rfl; exact rfl; exact rfl; exact rfl; exact rfl; exact rfl; exact rfl)
    | ((with_reducible apply LS_store_agg 2); exact rfl; exact rfl; exact rfl; exact rfl; exact rfl; exact rfl; exact rfl; exact rfl)
    | ((with_reducible apply LS_store_agg 3); exact rfl; exact rfl; exact rfl; exact rfl; exact rfl; exact rfl; exact rfl; exact rfl)
    | ((with_reducible apply post_seq))
    | ((with_reducible apply post_then_ret))
    | ((with_reducible apply post_then_exit))
    | ((with_reducible apply CS_skip))
    | ((with_reducible apply CS_ret))
    | ((with_reducible apply CS_exit))
  refine post_ret_cell 0 rfl rfl rfl rfl fun w' hw' => ?_
  exact ⟨rfl, hw'.below⟩
theorem eqCoupon_ok (c : Cp) (w : World) : Calls Try.prog 60 #[cpV c, cpV c] w (Gives (.bool true) w) := by
  refine enter (vs := [cpV c, cpV c]) Try.func60 rfl Try.ntmps60 rfl ?_
  repeat' first
    | ((with_reducible apply CS_seq))
    | ((with_reducible apply CS_region))
    | ((with_reducible apply RR_end))
    | ((with_reducible apply LR_pure); exact rfl; exact rfl; exact rfl)
    | ((with_reducible apply LR_neqb); exact rfl; exact rfl; exact rfl; exact rfl)
    | ((with_reducible apply LR_field_own); exact rfl; exact rfl; exact rfl)
    | ((with_reducible apply LR_field); exact rfl; exact rfl; exact rfl)
    | ((with_reducible apply LR_load_own 0); exact rfl; exact rfl; exact rfl; exact rfl; exact rfl)
    | ((with_reducible apply LR_load_own 1); exact rfl; exact rfl; exact rfl; exact rfl; exact rfl)
    | ((with_reducible apply LR_load_own 2); exact rfl; exact rfl; exact rfl; exact rfl; exact rfl)
    | ((with_reducible apply LR_load_own 3); exact rfl; exact rfl; exact rfl; exact rfl; exact rfl)
    | ((with_reducible apply LR_load_own 4); exact rfl; exact rfl; exact rfl; exact rfl; exact rfl)
    | ((with_reducible apply LR_load_old); exact rfl; exact rfl; exact rfl; assumption; exact rfl)
    | ((with_reducible apply LR_load_old0); exact rfl; exact rfl; exact rfl; assumption; exact rfl)
    | ((with_reducible apply LR_load_old_agg); exact rfl; exact rfl; exact rfl; assumption; exact rfl)
    | ((with_reducible apply LR_load_old_aggk); exact rfl; exact rfl; exact rfl; assumption; exact rfl)
    | ((with_reducible apply LR_load_own_agg 0); exact rfl; exact rfl; exact rfl; exact rfl; exact rfl)
    | ((with_reducible apply LR_load_own_agg 1); exact rfl; exact rfl; exact rfl; exact rfl; exact rfl)
    | ((with_reducible apply LR_load_own_agg 2); exact rfl; exact rfl; exact rfl; exact rfl; exact rfl)
    | ((with_reducible apply LR_load_own_agg 3); exact rfl; exact rfl; exact rfl; exact rfl; exact rfl)
    | ((with_reducible apply LR_load_cls0); exact rfl; exact rfl; exact rfl; assumption; exact rfl)
    | ((with_reducible apply LR_load_cls); exact rfl; exact rfl; exact rfl; assumption; exact rfl)
    | ((with_reducible apply LR_load_cls_agg); exact rfl; exact rfl; exact rfl; assumption; exact rfl)
    | ((with_reducible apply LS_box); exact rfl; exact rfl; exact rfl; exact rfl; intro _)
    | ((with_reducible apply post_seq))
    | ((with_reducible apply post_then_ret))
    | ((with_reducible apply post_then_exit))
    | ((with_reducible apply CS_skip))
    | ((with_reducible apply CS_ret))
    | ((with_reducible apply CS_exit))
    | ((with_reducible apply CS_cond_t); exact rfl)
    | ((with_reducible apply CS_cond_f); exact rfl)
    | ((with_reducible apply CS_cond_nd); exact rfl; all_goals intro hb; all_goals try (exfalso; omega))
    | ((with_reducible apply CS_cond_d); exact rfl; all_goals intro hb; all_goals try (exfalso; omega))
    | ((with_reducible apply CS_cond_n); exact rfl; all_goals intro hb; all_goals try (exfalso; omega))
    | ((with_reducible apply CS_cond); exact rfl; all_goals intro hb; all_goals try (exfalso; omega))
  all_goals first | (exfalso; contradiction) | skip
  all_goals (apply ret_bool; exact rfl; exact rfl; rfl)
def cpSt (l : List Cp) (i : Nat) : List Cp := l.take i ++ List.replicate (l.length - i) ⟨0, 0, 0⟩
theorem cpSt_len (l : List Cp) (i : Nat) (h : i ≤ l.length) : (cpSt l i).length = l.length := by simp [cpSt]; omega
theorem cpSt_set (l : List Cp) (i : Nat) (c : Cp) (h : l[i]? = some c) : (cpSt l i).set i c = cpSt l (i + 1) := by
  have hlt := (List.getElem?_eq_some_iff.1 h).1
  apply List.ext_getElem?
  intro j
  have hm : min i l.length = i := by omega
  have hm2 : min (i + 1) l.length = i + 1 := by omega
  simp only [cpSt, List.getElem?_set, List.getElem?_append, List.length_take, List.getElem?_take, List.getElem?_replicate, List.length_append, List.length_replicate, hm, hm2]
  by_cases h1 : i = j
  · subst h1
    rw [if_pos rfl, if_pos (by omega), if_pos (by omega), if_pos (by omega), h]
  · rw [if_neg h1]
    by_cases h2 : j < i
    · have h4 : j < i + 1 := by omega
      simp [h2, h4]
    · have h4 : ¬ j < i + 1 := by omega
      simp only [h2, h4, if_false]
      by_cases h3 : j - i < l.length - i
      · have h5 : j - (i + 1) < l.length - (i + 1) := by omega
        simp [h3, h5]
      · have h5 : ¬ j - (i + 1) < l.length - (i + 1) := by omega
        simp [h3, h5]
theorem toCouponS_ok (v : Value) (l : List Cp) (w : World) (hs : Sl w v l) (hl : l.length ≤ 1048576) : Calls Try.prog 29 #[v] w (fun x w' => ∃ g : Nat, True ∧ x = .returned (.slice (some ⟨g, 0, none⟩) l.length l.length) ∧ Wd w [⟨g, 43, l.length * 3, flat l⟩] w') := by
  refine enter (vs := [v]) Try.func29 rfl Try.ntmps29 rfl ?_
  repeat' first
    | ((with_reducible apply (LS_make l.length (⟨0, 0, 0⟩ : Cp))); exact rfl; exact rfl; exact rfl; exact rfl; exact rfl; exact rfl; exact rfl; omega; (unfold maxLen; omega); intro g)
    | ((with_reducible apply CS_seq))
    | ((with_reducible apply CS_block))
    | ((with_reducible apply CS_region))
    | ((with_reducible apply RR_end))
    | ((with_reducible apply LR_pure); exact rfl; exact rfl; exact rfl)
    | ((with_reducible apply LR_add); exact rfl; exact rfl; exact rfl; exact rfl; omega; omega)
    | ((with_reducible apply LR_load_own 0); exact rfl; exact rfl; exact rfl; exact rfl; exact rfl)
    | ((with_reducible apply LR_load_own 1); exact rfl; exact rfl; exact rfl; exact rfl; exact rfl)
    | ((with_reducible apply LR_load_own 2); exact rfl; exact rfl; exact rfl; exact rfl; exact rfl)
    | ((with_reducible apply LR_load_own 3); exact rfl; exact rfl; exact rfl; exact rfl; exact rfl)
    | ((with_reducible apply LR_load_own 4); exact rfl; exact rfl; exact rfl; exact rfl; exact rfl)
    | ((with_reducible apply LR_load_old); exact rfl; exact rfl; exact rfl; assumption; exact rfl)
    | ((with_reducible apply LR_load_old0); exact rfl; exact rfl; exact rfl; assumption; exact rfl)
    | ((with_reducible apply LR_load_old_agg); exact rfl; exact rfl; exact rfl; assumption; exact rfl)
    | ((with_reducible apply LR_load_old_aggk); exact rfl; exact rfl; exact rfl; assumption; exact rfl)
    | ((with_reducible apply LR_load_own_agg 0); exact rfl; exact rfl; exact rfl; exact rfl; exact rfl)
    | ((with_reducible apply LR_load_own_agg 1); exact rfl; exact rfl; exact rfl; exact rfl; exact rfl)
    | ((with_reducible apply LR_load_own_agg 2); exact rfl; exact rfl; exact rfl; exact rfl; exact rfl)
    | ((with_reducible apply LR_load_own_agg 3); exact rfl; exact rfl; exact rfl; exact rfl; exact rfl)
    | ((with_reducible apply LR_len); exact rfl; exact rfl; exact rfl)
    | ((with_reducible apply LR_len_sl); exact rfl; exact rfl; exact rfl; assumption)
    | ((with_reducible apply LR_index_any); exact rfl; exact rfl; exact rfl; exact rfl; assumption; omega; omega; exact rfl; intro _ _ _ _)
    | ((with_reducible apply LR_load_cls0); exact rfl; exact rfl; exact rfl; assumption; exact rfl)
    | ((with_reducible apply LR_load_cls); exact rfl; exact rfl; exact rfl; assumption; exact rfl)
    | ((with_reducible apply LR_load_cls_agg); exact rfl; exact rfl; exact rfl; assumption; exact rfl)
    | ((with_reducible apply LS_store1 0); exact rfl; exact rfl; exact rfl; exact rfl; exact rfl; exact rfl)
    | ((with_reducible apply LS_store1 1); exact rfl; exact rfl; exact rfl; exact rfl; exact rfl; exact rfl)
    | ((with_reducible apply LS_store1 2); exact rfl; exact rfl; exact rfl; exact rfl; exact rfl; exact rfl)
    | ((with_reducible apply LS_store1 3); exact rfl; exact rfl; exact rfl; exact rfl; exact rfl; exact rfl)
    | ((with_reducible apply LS_store_agg 0); exact rfl; exact rfl; exact rfl; exact rfl; exact rfl; exact rfl; exact rfl; exact rfl)
    | ((with_reducible apply LS_store_agg 1); exact rfl; exact rfl; exact rfl; exact rfl; exact rfl; exact rfl; exact rfl; exact rfl)
    | ((with_reducible apply LS_store_agg 2); exact rfl; exact rfl; exact rfl; exact rfl; exact rfl; exact rfl; exact rfl; exact rfl)
    | ((with_reducible apply LS_store_agg 3); exact rfl; exact rfl; exact rfl; exact rfl; exact rfl; exact rfl; exact rfl; exact rfl)
    | ((with_reducible apply post_seq))
    | ((with_reducible apply post_then_ret))
    | ((with_reducible apply post_then_exit))
    | ((with_reducible apply post_block_n))
    | ((with_reducible apply post_block_ret))
    | ((with_reducible apply post_block_eq))
    | ((with_reducible apply post_block_ne); exact rfl)
    | ((with_reducible apply CS_skip))
    | ((with_reducible apply CS_ret))
    | ((with_reducible apply CS_exit))
    | ((with_reducible apply CS_cond_t); exact rfl)
    | ((with_reducible apply CS_cond_f); exact rfl)
    | ((with_reducible apply CS_cond_nd); exact rfl; all_goals intro hb; all_goals try (exfalso; omega))
    | ((with_reducible apply CS_cond_d); exact rfl; all_goals intro hb; all_goals try (exfalso; omega))
    | ((with_reducible apply CS_cond_n); exact rfl; all_goals intro hb; all_goals try (exfalso; omega))
    | ((with_reducible apply CS_cond); exact rfl; all_goals intro hb; all_goals try (exfalso; omega))
  refine CS_loop (ι := Int) (fun i => [(0, v), (3, .slice (some ⟨g, 0, none⟩) l.length l.length), (4, .int .i64 i)]) (fun i => Wd w [⟨g, 43, l.length * Enc.k Cp, flat (cpSt l i.toNat)⟩]) (fun i => 0 ≤ i ∧ i ≤ l.length) (fun i => (l.length - i).toNat) 0 ⟨by omega, by omega⟩ ⟨rfl, rfl, rfl, trivial⟩ (fun _ hw => by simpa [cpSt] using hw) ?_
  rintro i ⟨h0, h1⟩
  obtain ⟨k, rfl⟩ : ∃ k : Nat, i = k := ⟨i.toNat, by omega⟩
  simp only [Int.toNat_natCast]
  by_cases hi : k < l.length
  · obtain ⟨c, hc⟩ : ∃ c, l[k]? = some c := ⟨_, List.getElem?_eq_getElem hi⟩
    repeat' first
      | ((with_reducible apply (LR_call (f := 59))); exact rfl; exact rfl; exact rfl; exact fun w hw => toCoupon_ok c w)
      | ((with_reducible apply (LR_index_old (k))); exact rfl; exact rfl; exact rfl; exact rfl; exact hs; omega; exact hc; exact rfl; intro _ _)
      | ((with_reducible apply (LR_index_own k)); exact rfl; exact rfl; exact rfl; exact rfl; omega; omega)
      | ((with_reducible apply (LS_store_agg 0)); exact rfl; exact rfl; exact rfl; exact rfl; exact rfl; exact rfl; exact rfl; exact putF_set (cpSt l k) k c (by rw [cpSt_len l k (by omega)]; exact hi))
      | ((with_reducible apply CS_seq))
      | ((with_reducible apply CS_block))
      | ((with_reducible apply CS_region))
      | ((with_reducible apply RR_end))
      | ((with_reducible apply LR_pure); exact rfl; exact rfl; exact rfl)
      | ((with_reducible apply LR_add); exact rfl; exact rfl; exact rfl; exact rfl; omega; omega)
      | ((with_reducible apply LR_load_own 0); exact rfl; exact rfl; exact rfl; exact rfl; exact rfl)
      | ((with_reducible apply LR_load_own 1); exact rfl; exact rfl; exact rfl; exact rfl; exact rfl)
      | ((with_reducible apply LR_load_own 2); exact rfl; exact rfl; exact rfl; exact rfl; exact rfl)
      | ((with_reducible apply LR_load_own 3); exact rfl; exact rfl; exact rfl; exact rfl; exact rfl)
      | ((with_reducible apply LR_load_own 4); exact rfl; exact rfl; exact rfl; exact rfl; exact rfl)
      | ((with_reducible apply LR_load_old); exact rfl; exact rfl; exact rfl; assumption; exact rfl)
      | ((with_reducible apply LR_load_old0); exact rfl; exact rfl; exact rfl; assumption; exact rfl)
      | ((with_reducible apply LR_load_old_agg); exact rfl; exact rfl; exact rfl; assumption; exact rfl)
      | ((with_reducible apply LR_load_old_aggk); exact rfl; exact rfl; exact rfl; assumption; exact rfl)
      | ((with_reducible apply LR_load_own_agg 0); exact rfl; exact rfl; exact rfl; exact rfl; exact rfl)
      | ((with_reducible apply LR_load_own_agg 1); exact rfl; exact rfl; exact rfl; exact rfl; exact rfl)
      | ((with_reducible apply LR_load_own_agg 2); exact rfl; exact rfl; exact rfl; exact rfl; exact rfl)
      | ((with_reducible apply LR_load_own_agg 3); exact rfl; exact rfl; exact rfl; exact rfl; exact rfl)
      | ((with_reducible apply LR_len); exact rfl; exact rfl; exact rfl)
      | ((with_reducible apply LR_len_sl); exact rfl; exact rfl; exact rfl; assumption)
      | ((with_reducible apply LR_index_any); exact rfl; exact rfl; exact rfl; exact rfl; assumption; omega; omega; exact rfl; intro _ _ _ _)
      | ((with_reducible apply LR_load_cls0); exact rfl; exact rfl; exact rfl; assumption; exact rfl)
      | ((with_reducible apply LR_load_cls); exact rfl; exact rfl; exact rfl; assumption; exact rfl)
      | ((with_reducible apply LR_load_cls_agg); exact rfl; exact rfl; exact rfl; assumption; exact rfl)
      | ((with_reducible apply LS_store1 0); exact rfl; exact rfl; exact rfl; exact rfl; exact rfl; exact rfl)
      | ((with_reducible apply LS_store1 1); exact rfl; exact rfl; exact rfl; exact rfl; exact rfl; exact rfl)
      | ((with_reducible apply LS_store1 2); exact rfl; exact rfl; exact rfl; exact rfl; exact rfl; exact rfl)
      | ((with_reducible apply LS_store1 3); exact rfl; exact rfl; exact rfl; exact rfl; exact rfl; exact rfl)
      | ((with_reducible apply LS_store_agg 0); exact rfl; exact rfl; exact rfl; exact rfl; exact rfl; exact rfl; exact rfl; exact rfl)
      | ((with_reducible apply LS_store_agg 1); exact rfl; exact rfl; exact rfl; exact rfl; exact rfl; exact rfl; exact rfl; exact rfl)
      | ((with_reducible apply LS_store_agg 2); exact rfl; exact rfl; exact rfl; exact rfl; exact rfl; exact rfl; exact rfl; exact rfl)
      | ((with_reducible apply LS_store_agg 3); exact rfl; exact rfl; exact rfl; exact rfl; exact rfl; exact rfl; exact rfl; exact rfl)
      | ((with_reducible apply post_seq))
      | ((with_reducible apply post_then_ret))
      | ((with_reducible apply post_then_exit))
      | ((with_reducible apply post_block_n))
      | ((with_reducible apply post_block_ret))
      | ((with_reducible apply post_block_eq))
      | ((with_reducible apply post_block_ne); exact rfl)
      | ((with_reducible apply CS_skip))
      | ((with_reducible apply CS_ret))
      | ((with_reducible apply CS_exit))
      | ((with_reducible apply CS_cond_t); exact rfl)
      | ((with_reducible apply CS_cond_f); exact rfl)
      | ((with_reducible apply CS_cond_nd); exact rfl; all_goals intro hb; all_goals try (exfalso; omega))
      | ((with_reducible apply CS_cond_d); exact rfl; all_goals intro hb; all_goals try (exfalso; omega))
      | ((with_reducible apply CS_cond_n); exact rfl; all_goals intro hb; all_goals try (exfalso; omega))
      | ((with_reducible apply CS_cond); exact rfl; all_goals intro hb; all_goals try (exfalso; omega))
    refine post_round (i := (k : Int)) ((k : Int) + 1) ⟨by omega, by omega⟩ (by omega) ⟨rfl, rfl, rfl, trivial⟩ (fun _ hw => ?_)
    rw [cpSt_set l k c hc] at hw
    exact hw
  · have he : k = l.length := by omega
    repeat' first
      | ((with_reducible apply CS_seq))
      | ((with_reducible apply CS_block))
      | ((with_reducible apply CS_region))
      | ((with_reducible apply RR_end))
      | ((with_reducible apply LR_pure); exact rfl; exact rfl; exact rfl)
      | ((with_reducible apply LR_add); exact rfl; exact rfl; exact rfl; exact rfl; omega; omega)
      | ((with_reducible apply LR_load_own 0); exact rfl; exact rfl; exact rfl; exact rfl; exact rfl)
      | ((with_reducible apply LR_load_own 1); exact rfl; exact rfl; exact rfl; exact rfl; exact rfl)
      | ((with_reducible apply LR_load_own 2); exact rfl; exact rfl; exact rfl; exact rfl; exact rfl)
      | ((with_reducible apply LR_load_own 3); exact rfl; exact rfl; exact rfl; exact rfl; exact rfl)
      | ((with_reducible apply LR_load_own 4); exact rfl; exact rfl; exact rfl; exact rfl; exact rfl)
      | ((with_reducible apply LR_load_old); exact rfl; exact rfl; exact rfl; assumption; exact rfl)
      | ((with_reducible apply LR_load_old0); exact rfl; exact rfl; exact rfl; assumption; exact rfl)
      | ((with_reducible apply LR_load_old_agg); exact rfl; exact rfl; exact rfl; assumption; exact rfl)
      | ((with_reducible apply LR_load_old_aggk); exact rfl; exact rfl; exact rfl; assumption; exact rfl)
      | ((with_reducible apply LR_load_own_agg 0); exact rfl; exact rfl; exact rfl; exact rfl; exact rfl)
      | ((with_reducible apply LR_load_own_agg 1); exact rfl; exact rfl; exact rfl; exact rfl; exact rfl)
      | ((with_reducible apply LR_load_own_agg 2); exact rfl; exact rfl; exact rfl; exact rfl; exact rfl)
      | ((with_reducible apply LR_load_own_agg 3); exact rfl; exact rfl; exact rfl; exact rfl; exact rfl)
      | ((with_reducible apply LR_len); exact rfl; exact rfl; exact rfl)
      | ((with_reducible apply LR_len_sl); exact rfl; exact rfl; exact rfl; assumption)
      | ((with_reducible apply LR_index_any); exact rfl; exact rfl; exact rfl; exact rfl; assumption; omega; omega; exact rfl; intro _ _ _ _)
      | ((with_reducible apply LR_load_cls0); exact rfl; exact rfl; exact rfl; assumption; exact rfl)
      | ((with_reducible apply LR_load_cls); exact rfl; exact rfl; exact rfl; assumption; exact rfl)
      | ((with_reducible apply LR_load_cls_agg); exact rfl; exact rfl; exact rfl; assumption; exact rfl)
      | ((with_reducible apply LS_store1 0); exact rfl; exact rfl; exact rfl; exact rfl; exact rfl; exact rfl)
      | ((with_reducible apply LS_store1 1); exact rfl; exact rfl; exact rfl; exact rfl; exact rfl; exact rfl)
      | ((with_reducible apply LS_store1 2); exact rfl; exact rfl; exact rfl; exact rfl; exact rfl; exact rfl)
      | ((with_reducible apply LS_store1 3); exact rfl; exact rfl; exact rfl; exact rfl; exact rfl; exact rfl)
      | ((with_reducible apply LS_store_agg 0); exact rfl; exact rfl; exact rfl; exact rfl; exact rfl; exact rfl; exact rfl; exact rfl)
      | ((with_reducible apply LS_store_agg 1); exact rfl; exact rfl; exact rfl; exact rfl; exact rfl; exact rfl; exact rfl; exact rfl)
      | ((with_reducible apply LS_store_agg 2); exact rfl; exact rfl; exact rfl; exact rfl; exact rfl; exact rfl; exact rfl; exact rfl)
      | ((with_reducible apply LS_store_agg 3); exact rfl; exact rfl; exact rfl; exact rfl; exact rfl; exact rfl; exact rfl; exact rfl)
      | ((with_reducible apply post_seq))
      | ((with_reducible apply post_then_ret))
      | ((with_reducible apply post_then_exit))
      | ((with_reducible apply post_block_n))
      | ((with_reducible apply post_block_ret))
      | ((with_reducible apply post_block_eq))
      | ((with_reducible apply post_block_ne); exact rfl)
      | ((with_reducible apply CS_skip))
      | ((with_reducible apply CS_ret))
      | ((with_reducible apply CS_exit))
      | ((with_reducible apply CS_cond_t); exact rfl)
      | ((with_reducible apply CS_cond_f); exact rfl)
      | ((with_reducible apply CS_cond_nd); exact rfl; all_goals intro hb; all_goals try (exfalso; omega))
      | ((with_reducible apply CS_cond_d); exact rfl; all_goals intro hb; all_goals try (exfalso; omega))
      | ((with_reducible apply CS_cond_n); exact rfl; all_goals intro hb; all_goals try (exfalso; omega))
      | ((with_reducible apply CS_cond); exact rfl; all_goals intro hb; all_goals try (exfalso; omega))
    apply post_ret1; exact rfl; exact rfl; intro w' hw'; refine ⟨g, trivial, rfl, ?_⟩
    have hf : cpSt l k = l := by rw [he]; simp [cpSt]
    rw [hf] at hw'
    exact hw'
end Go.Proofs.Ytgklapdlambdlaa
