/- The walks of the helpers that turn, compare, measure and mark articles and lines. No condition beyond those that each theorem states. -/
import Derived.Test.YtbgfkhliideegaaGreatPCa
import Derived.Test.YtbgfkhliideegaaGreatWAp
import Derived.Test.YtbgfkhliideegaaGreatWExR
namespace Go.Proofs.YtbgfkhliideegaaGreat
open Go.RowKit
attribute [local irreducible] Calls
theorem toArticle_ok (s : Ar) (w : World) : Calls Tryz.prog 67 #[arV s] w (Gives (arV s) w) := by
  refine enter (vs := [arV s]) Tryz.func67 rfl Tryz.ntmps67 rfl ?_
  repeat' first | ((with_reducible apply CS_seq)) | ((with_reducible apply CS_region)) | ((with_reducible apply RR_end)) | ((with_reducible apply LR_field_own); exact rfl; exact rfl; exact rfl) | ((with_reducible apply LR_load_own 2); exact rfl; exact rfl; exact rfl; exact rfl; exact rfl) | ((with_reducible apply LR_load_own_agg 0); exact rfl; exact rfl; exact rfl; exact rfl; exact rfl) | ((with_reducible apply LS_alloc); exact rfl; exact rfl; exact rfl; intro _) | ((with_reducible apply LS_box); exact rfl; exact rfl; exact rfl; exact rfl; intro _) | ((with_reducible apply LS_store1 0); exact rfl; exact rfl; exact rfl; exact rfl; exact rfl; exact rfl) | ((with_reducible apply LS_store_agg 1); exact rfl; exact rfl; exact rfl; exact rfl; exact rfl; exact rfl; exact rfl; exact rfl) | ((with_reducible apply post_seq)) | ((with_reducible apply CS_ret))
  refine post_ret_cell 0 rfl rfl rfl rfl fun w' hw' => ?_
  exact ⟨rfl, hw'.below⟩
theorem toArticleS_ok (v : Value) (l : List Ar) (w : World) (hs : Sl w v l) (hl : l.length ≤ 1048576) : Calls Tryz.prog 30 #[v] w (fun x w' => ∃ g : Nat, True ∧ x = .returned (.slice (some ⟨g, 0, none⟩) l.length l.length) ∧ Wd w [arE g l.length l] w') := by
  refine enter (vs := [v]) Tryz.func30 rfl Tryz.ntmps30 rfl ?_
  repeat' first | ((with_reducible apply (LS_make l.length (⟨0, 0, 0, 0⟩ : Ar))); exact rfl; exact rfl; exact rfl; exact rfl; exact rfl; exact rfl; exact rfl; omega; (unfold maxLen; omega); intro g) | ((with_reducible apply CS_seq)) | ((with_reducible apply CS_block)) | ((with_reducible apply CS_region)) | ((with_reducible apply RR_end)) | ((with_reducible apply LR_pure); exact rfl; exact rfl; exact rfl) | ((with_reducible apply LR_len_sl); exact rfl; exact rfl; exact rfl; assumption) | ((with_reducible apply post_seq))
  refine CS_loop (ι := Nat) (fun i => [(0, v), (3, .slice (some ⟨g, 0, none⟩) l.length l.length), (4, .int .i64 (i : Int))]) (fun i => Wd w [arE g l.length (mix l (List.replicate l.length (⟨0, 0, 0, 0⟩ : Ar)) i)]) (fun i => i ≤ l.length) (fun i => l.length - i) 0 (by omega) ⟨rfl, rfl, rfl, trivial⟩ (fun _ hw => by rw [mix_zero]; exact hw) ?_
  rintro k h1
  by_cases hi : k < l.length
  · obtain ⟨c, hc⟩ : ∃ c, l[k]? = some c := ⟨_, List.getElem?_eq_getElem hi⟩
    repeat' first | ((with_reducible apply (LR_call (f := 67))); exact rfl; exact rfl; exact rfl; exact fun w hw => toArticle_ok c w) | ((with_reducible apply (LR_index_old (k))); exact rfl; exact rfl; exact rfl; exact rfl; exact hs; omega; exact hc; exact rfl; intro _ _) | ((with_reducible apply (LR_index_own (k))); exact rfl; exact rfl; exact rfl; exact rfl; omega; omega) | ((with_reducible apply (LS_store_agg 0)); exact rfl; exact rfl; exact rfl; exact rfl; exact rfl; exact rfl; exact rfl; exact putF_set (mix l (List.replicate l.length (⟨0, 0, 0, 0⟩ : Ar)) k) k c (by rw [mix_len (by simp)]; simpa using hi)) | ((with_reducible apply CS_seq)) | ((with_reducible apply CS_block)) | ((with_reducible apply CS_region)) | ((with_reducible apply RR_end)) | ((with_reducible apply LR_pure); exact rfl; exact rfl; exact rfl) | ((with_reducible apply LR_add); exact rfl; exact rfl; exact rfl; exact rfl; omega; omega) | ((with_reducible apply LR_load_old_agg); exact rfl; exact rfl; exact rfl; assumption; exact rfl) | ((with_reducible apply LR_len_sl); exact rfl; exact rfl; exact rfl; assumption) | ((with_reducible apply post_seq)) | ((with_reducible apply post_block_n)) | ((with_reducible apply CS_skip)) | ((with_reducible apply CS_cond_d); exact rfl; all_goals intro hb; all_goals try (exfalso; omega))
    refine post_round (i := k) (k + 1) (by omega) (by omega) ⟨rfl, rfl, rfl, trivial⟩ (fun _ hw => ?_)
    rw [mix_set (by simp) hc] at hw
    exact hw
  · have he : k = l.length := by omega
    repeat' first | ((with_reducible apply CS_seq)) | ((with_reducible apply CS_region)) | ((with_reducible apply RR_end)) | ((with_reducible apply LR_pure); exact rfl; exact rfl; exact rfl) | ((with_reducible apply LR_len_sl); exact rfl; exact rfl; exact rfl; assumption) | ((with_reducible apply post_seq)) | ((with_reducible apply post_then_exit)) | ((with_reducible apply post_block_eq)) | ((with_reducible apply CS_ret)) | ((with_reducible apply CS_exit)) | ((with_reducible apply CS_cond_d); exact rfl; all_goals intro hb; all_goals try (exfalso; omega))
    apply post_ret1; exact rfl; exact rfl; intro w' hw'; refine ⟨g, trivial, rfl, ?_⟩
    have hf : mix l (List.replicate l.length (⟨0, 0, 0, 0⟩ : Ar)) k = l := mix_full (by simp) (by simpa using he)
    rw [hf] at hw'
    exact hw'
theorem szArticleS_ok (v : Value) (l : List Ar) (left : Int) (w : World) (hs : Sl w v l) (h1 : 0 ≤ left) (h2 : left ≤ 1000000000) : Calls Tryz.prog 27 #[v, .int .i64 left] w (fun x w' => ∃ n : Int, szOk left l.length n ∧ x = .returned (.int .i64 n) ∧ Wd w [] w') := by
  have hlen := hs.len
  simp only [maxLen] at hlen
  refine enter (vs := [v, .int .i64 left]) Tryz.func27 rfl Tryz.ntmps27 rfl ?_
  repeat' first | ((with_reducible apply LR_len_sl); exact rfl; exact rfl; exact rfl; exact hs) | ((with_reducible apply CS_seq)) | ((with_reducible apply CS_region)) | ((with_reducible apply RR_end)) | ((with_reducible apply LR_pure); exact rfl; exact rfl; exact rfl) | ((with_reducible apply LR_sub); exact rfl; exact rfl; exact rfl; exact rfl; omega; omega) | ((with_reducible apply post_seq)) | ((with_reducible apply post_then_ret)) | ((with_reducible apply CS_skip)) | ((with_reducible apply CS_ret)) | ((with_reducible apply CS_cond_d); exact rfl; all_goals intro hb; all_goals try (exfalso; omega))
  all_goals (apply post_ret1; exact rfl; exact rfl; intro w' hw'; exact ⟨_, by unfold szOk; omega, rfl, hw'⟩)
theorem eqArticle_ok (s : Ar) (w : World) : Calls Tryz.prog 70 #[arV s, arV s] w (Gives (.bool true) w) := by
  refine enter (vs := [arV s, arV s]) Tryz.func70 rfl Tryz.ntmps70 rfl ?_
  repeat' first | ((with_reducible apply CS_seq)) | ((with_reducible apply CS_region)) | ((with_reducible apply RR_end)) | ((with_reducible apply LR_pure); exact rfl; exact rfl; exact rfl) | ((with_reducible apply LR_field_own); exact rfl; exact rfl; exact rfl) | ((with_reducible apply LR_load_own 0); exact rfl; exact rfl; exact rfl; exact rfl; exact rfl) | ((with_reducible apply LR_load_own 1); exact rfl; exact rfl; exact rfl; exact rfl; exact rfl) | ((with_reducible apply LS_box); exact rfl; exact rfl; exact rfl; exact rfl; intro _) | ((with_reducible apply post_seq)) | ((with_reducible apply CS_skip)) | ((with_reducible apply CS_ret)) | ((with_reducible apply CS_cond_nd); exact rfl; all_goals intro hb; all_goals try (exfalso; omega))
  all_goals first | (exfalso; contradiction) | (exfalso; omega) | (exfalso; simp at hb <;> omega) | skip
  all_goals (apply ret_bool; exact rfl; exact rfl; rfl)
theorem eqArticleS_ok (v v' : Value) (l : List Ar) (w : World) (hs : Sl w v l) (hs' : Sl w v' l) : Calls Tryz.prog 35 #[v, v'] w (Gives (.bool true) w) := by
  have hlen := hs.len
  simp only [maxLen] at hlen
  refine enter (vs := [v, v']) Tryz.func35 rfl Tryz.ntmps35 rfl ?_
  repeat' first | ((with_reducible apply LR_len_sl); exact rfl; exact rfl; exact rfl; exact hs) | ((with_reducible apply LR_len_sl); exact rfl; exact rfl; exact rfl; exact hs') | ((with_reducible apply CS_seq)) | ((with_reducible apply CS_block)) | ((with_reducible apply CS_region)) | ((with_reducible apply RR_end)) | ((with_reducible apply LR_pure); exact rfl; exact rfl; exact rfl) | ((with_reducible apply post_seq)) | ((with_reducible apply CS_skip)) | ((with_reducible apply CS_cond_nd); exact rfl; all_goals intro hb; all_goals try (exfalso; omega))
  all_goals first | (exfalso; contradiction) | (exfalso; omega) | (exfalso; simp at hb <;> omega) | skip
  refine CS_loop (ι := Nat) (fun i => [(0, v), (1, v'), (5, .int .i64 (i : Int))]) (fun _ => Wd w []) (fun i => i ≤ l.length) (fun i => l.length - i) 0 (by omega) ⟨rfl, rfl, rfl, trivial⟩ (fun _ hw => hw) ?_
  rintro k h1
  by_cases hi : k < l.length
  · obtain ⟨c, hc⟩ : ∃ c, l[k]? = some c := ⟨_, List.getElem?_eq_getElem hi⟩
    repeat' first | ((with_reducible apply (LR_call (f := 70))); exact rfl; exact rfl; exact rfl; exact fun w hw => eqArticle_ok _ w) | ((with_reducible apply (LR_index_old (k))); exact rfl; exact rfl; exact rfl; exact rfl; exact hs; omega; exact hc; exact rfl; intro _ _) | ((with_reducible apply (LR_index_old (k))); exact rfl; exact rfl; exact rfl; exact rfl; exact hs'; omega; exact hc; exact rfl; intro _ _) | ((with_reducible apply CS_seq)) | ((with_reducible apply CS_block)) | ((with_reducible apply CS_region)) | ((with_reducible apply CS_regionq_wd); kernel_rfl; kernel_rfl) | ((with_reducible apply RR_end)) | ((with_reducible apply LR_pure); exact rfl; exact rfl; exact rfl) | ((with_reducible apply LR_add); exact rfl; exact rfl; exact rfl; exact rfl; omega; omega) | ((with_reducible apply LR_load_old_agg); exact rfl; exact rfl; exact rfl; assumption; exact rfl) | ((with_reducible apply LR_len_sl); exact rfl; exact rfl; exact rfl; assumption) | ((with_reducible apply post_seq)) | ((with_reducible apply post_block_n)) | ((with_reducible apply CS_skip)) | ((with_reducible apply CS_cond_f); exact rfl) | ((with_reducible apply CS_cond_d); exact rfl; all_goals intro hb; all_goals try (exfalso; omega))
    all_goals first | (exfalso; contradiction) | (exfalso; omega) | (exfalso; simp at hb <;> omega) | skip
    exact post_round (i := k) (k + 1) (by omega) (by omega) ⟨rfl, rfl, rfl, trivial⟩ (fun _ hw => hw.nil)
  · skip
    repeat' first | ((with_reducible apply LR_len_sl); exact rfl; exact rfl; exact rfl; exact hs) | ((with_reducible apply CS_seq)) | ((with_reducible apply CS_region)) | ((with_reducible apply RR_end)) | ((with_reducible apply LR_pure); exact rfl; exact rfl; exact rfl) | ((with_reducible apply post_seq)) | ((with_reducible apply post_then_exit)) | ((with_reducible apply post_block_eq)) | ((with_reducible apply CS_ret)) | ((with_reducible apply CS_exit)) | ((with_reducible apply CS_cond_d); exact rfl; all_goals intro hb; all_goals try (exfalso; omega))
    apply ret_bool; exact rfl; exact rfl; rfl
def mkAr (k : Int) (n : Nat) : List Ar := (List.range n).map fun j : Nat => ⟨k + 4 * (j : Int), k + 4 * (j : Int) + 1, k + 4 * (j : Int) + 1 + 1, k + 4 * (j : Int) + 1 + 1 + 1⟩
theorem mkAr_len (k : Int) (n : Nat) : (mkAr k n).length = n := by simp [mkAr]
theorem mkAr_at {k : Int} {n j : Nat} (h : j < n) : (mkAr k n)[j]? = some ⟨k + 4 * (j : Int), k + 4 * (j : Int) + 1, k + 4 * (j : Int) + 1 + 1, k + 4 * (j : Int) + 1 + 1 + 1⟩ := by simp [mkAr, h]
theorem markArticleS_ok (w0 : World) (h : List Ent) (w : World) (g c : Nat) (xs : List Ar) (k0 : Int) (hw : Wd w0 (arE g c xs :: h) w) (hx : xs.length ≤ 1000000000) (h0 : 0 ≤ k0) (h1 : k0 ≤ 10000000000) :
    Calls Tryz.prog 38 #[.slice (some ⟨g, 0, none⟩) xs.length c, .int .i64 k0] w
      (fun x w' => ∃ _ : Unit, True ∧ x = .returned (.int .i64 (k0 + 4 * xs.length)) ∧ Wd w0 (arE g c (mkAr k0 xs.length) :: h) w') := by
  have hm := mkAr_len k0 xs.length
  refine enter_in (vs := [.slice (some ⟨g, 0, none⟩) xs.length c, .int .i64 k0]) hw Tryz.func38 rfl Tryz.ntmps38 rfl ?_
  repeat' first | ((with_reducible apply CS_seq)) | ((with_reducible apply CS_block)) | ((with_reducible apply CS_region)) | ((with_reducible apply RR_end)) | ((with_reducible apply LR_pure); exact rfl; exact rfl; exact rfl) | ((with_reducible apply post_seq))
  refine CS_loop (ι := Nat) (fun i => [(0, .slice (some ⟨g, 0, none⟩) xs.length c), (1, .int .i64 (k0 + 4 * (i : Int))), (5, .int .i64 (i : Int))]) (fun i => Wd w0 (arE g c (mix (mkAr k0 xs.length) xs i) :: h)) (fun i => i ≤ xs.length) (fun i => xs.length - i) 0 (by omega) ⟨rfl, by rw [show k0 + 4 * ((0 : Nat) : Int) = k0 by omega]; rfl, rfl, trivial⟩ (fun _ hw => by rw [mix_zero]; exact hw) ?_
  rintro k hk
  by_cases hi : k < xs.length
  · have hml := mix_len hm k
    obtain ⟨c0, hc0⟩ : ∃ c, (mix (mkAr k0 xs.length) xs k)[k]? = some c := ⟨_, List.getElem?_eq_getElem (show k < (mix (mkAr k0 xs.length) xs k).length by omega)⟩
    have hc1 : (((mix (mkAr k0 xs.length) xs k).set k ⟨k0 + 4 * (k : Int), c0.grp, c0.rate, c0.wgt⟩))[k]? = some ⟨k0 + 4 * (k : Int), c0.grp, c0.rate, c0.wgt⟩ := by rw [List.getElem?_set, if_pos rfl, if_pos (by (try simp only [List.length_set]); omega)]
    have hc2 : ((((mix (mkAr k0 xs.length) xs k).set k ⟨k0 + 4 * (k : Int), c0.grp, c0.rate, c0.wgt⟩).set k ⟨k0 + 4 * (k : Int), k0 + 4 * (k : Int) + 1, c0.rate, c0.wgt⟩))[k]? = some ⟨k0 + 4 * (k : Int), k0 + 4 * (k : Int) + 1, c0.rate, c0.wgt⟩ := by rw [List.getElem?_set, if_pos rfl, if_pos (by (try simp only [List.length_set]); omega)]
    have hc3 : (((((mix (mkAr k0 xs.length) xs k).set k ⟨k0 + 4 * (k : Int), c0.grp, c0.rate, c0.wgt⟩).set k ⟨k0 + 4 * (k : Int), k0 + 4 * (k : Int) + 1, c0.rate, c0.wgt⟩).set k ⟨k0 + 4 * (k : Int), k0 + 4 * (k : Int) + 1, k0 + 4 * (k : Int) + 1 + 1, c0.wgt⟩))[k]? = some ⟨k0 + 4 * (k : Int), k0 + 4 * (k : Int) + 1, k0 + 4 * (k : Int) + 1 + 1, c0.wgt⟩ := by rw [List.getElem?_set, if_pos rfl, if_pos (by (try simp only [List.length_set]); omega)]
    repeat' first | ((with_reducible apply (LR_index_own (k))); exact rfl; exact rfl; exact rfl; exact rfl; omega; omega) | ((with_reducible apply (LS_store1 0)); exact rfl; exact rfl; exact rfl; exact rfl; exact rfl; first | exact putF_fld _ k c0 ⟨k0 + 4 * (k : Int), c0.grp, c0.rate, c0.wgt⟩ 0 _ hc0 (by decide) rfl | exact putF_fld _ k ⟨k0 + 4 * (k : Int), c0.grp, c0.rate, c0.wgt⟩ ⟨k0 + 4 * (k : Int), k0 + 4 * (k : Int) + 1, c0.rate, c0.wgt⟩ 1 _ hc1 (by decide) rfl | exact putF_fld _ k ⟨k0 + 4 * (k : Int), k0 + 4 * (k : Int) + 1, c0.rate, c0.wgt⟩ ⟨k0 + 4 * (k : Int), k0 + 4 * (k : Int) + 1, k0 + 4 * (k : Int) + 1 + 1, c0.wgt⟩ 2 _ hc2 (by decide) rfl | exact putF_fld _ k ⟨k0 + 4 * (k : Int), k0 + 4 * (k : Int) + 1, k0 + 4 * (k : Int) + 1 + 1, c0.wgt⟩ ⟨k0 + 4 * (k : Int), k0 + 4 * (k : Int) + 1, k0 + 4 * (k : Int) + 1 + 1, k0 + 4 * (k : Int) + 1 + 1 + 1⟩ 3 _ hc3 (by decide) rfl) | ((with_reducible apply CS_seq)) | ((with_reducible apply CS_block)) | ((with_reducible apply CS_region)) | ((with_reducible apply RR_end)) | ((with_reducible apply LR_pure); exact rfl; exact rfl; exact rfl) | ((with_reducible apply LR_add); exact rfl; exact rfl; exact rfl; exact rfl; omega; omega) | ((with_reducible apply LR_field_own); exact rfl; exact rfl; exact rfl) | ((with_reducible apply LR_len); exact rfl; exact rfl; exact rfl) | ((with_reducible apply post_seq)) | ((with_reducible apply post_block_n)) | ((with_reducible apply CS_skip)) | ((with_reducible apply CS_cond_d); exact rfl; all_goals intro hb; all_goals try (exfalso; omega))
    refine post_round (i := k) (k + 1) (by omega) (by omega) ⟨rfl, by rw [show k0 + 4 * ((k + 1 : Nat) : Int) = k0 + 4 * (k : Int) + 1 + 1 + 1 + 1 by omega]; rfl, rfl, trivial⟩ (fun _ hw => ?_)
    simp only [List.set_set] at hw
    have hmk := mkAr_at (k := k0) hi
    rw [mix_set hm hmk] at hw
    exact hw
  · have he : k = xs.length := by omega
    repeat' first | ((with_reducible apply CS_seq)) | ((with_reducible apply CS_region)) | ((with_reducible apply RR_end)) | ((with_reducible apply LR_pure); exact rfl; exact rfl; exact rfl) | ((with_reducible apply LR_len); exact rfl; exact rfl; exact rfl) | ((with_reducible apply post_seq)) | ((with_reducible apply post_then_exit)) | ((with_reducible apply post_block_eq)) | ((with_reducible apply CS_ret)) | ((with_reducible apply CS_exit)) | ((with_reducible apply CS_cond_d); exact rfl; all_goals intro hb; all_goals try (exfalso; omega))
    apply post_ret1; exact rfl; exact rfl; intro w' hw'; refine ⟨(), trivial, by rw [he], ?_⟩
    rw [he, mix_end hm] at hw'
    exact hw'
theorem toLine_ok (s : Ln) (w : World) : Calls Tryz.prog 68 #[lnV s] w (Gives (lnV s) w) := by
  refine enter (vs := [lnV s]) Tryz.func68 rfl Tryz.ntmps68 rfl ?_
  repeat' first | ((with_reducible apply CS_seq)) | ((with_reducible apply CS_region)) | ((with_reducible apply RR_end)) | ((with_reducible apply LR_field_own); exact rfl; exact rfl; exact rfl) | ((with_reducible apply LR_load_own 2); exact rfl; exact rfl; exact rfl; exact rfl; exact rfl) | ((with_reducible apply LR_load_own_agg 0); exact rfl; exact rfl; exact rfl; exact rfl; exact rfl) | ((with_reducible apply LS_alloc); exact rfl; exact rfl; exact rfl; intro _) | ((with_reducible apply LS_box); exact rfl; exact rfl; exact rfl; exact rfl; intro _) | ((with_reducible apply LS_store1 0); exact rfl; exact rfl; exact rfl; exact rfl; exact rfl; exact rfl) | ((with_reducible apply LS_store_agg 1); exact rfl; exact rfl; exact rfl; exact rfl; exact rfl; exact rfl; exact rfl; exact rfl) | ((with_reducible apply post_seq)) | ((with_reducible apply CS_ret))
  refine post_ret_cell 0 rfl rfl rfl rfl fun w' hw' => ?_
  exact ⟨rfl, hw'.below⟩
theorem toLineS_ok (v : Value) (l : List Ln) (w : World) (hs : Sl w v l) (hl : l.length ≤ 1048576) : Calls Tryz.prog 31 #[v] w (fun x w' => ∃ g : Nat, True ∧ x = .returned (.slice (some ⟨g, 0, none⟩) l.length l.length) ∧ Wd w [lnE g l.length l] w') := by
  refine enter (vs := [v]) Tryz.func31 rfl Tryz.ntmps31 rfl ?_
  repeat' first | ((with_reducible apply (LS_make l.length (⟨0, 0⟩ : Ln))); exact rfl; exact rfl; exact rfl; exact rfl; exact rfl; exact rfl; exact rfl; omega; (unfold maxLen; omega); intro g) | ((with_reducible apply CS_seq)) | ((with_reducible apply CS_block)) | ((with_reducible apply CS_region)) | ((with_reducible apply RR_end)) | ((with_reducible apply LR_pure); exact rfl; exact rfl; exact rfl) | ((with_reducible apply LR_len_sl); exact rfl; exact rfl; exact rfl; assumption) | ((with_reducible apply post_seq))
  refine CS_loop (ι := Nat) (fun i => [(0, v), (3, .slice (some ⟨g, 0, none⟩) l.length l.length), (4, .int .i64 (i : Int))]) (fun i => Wd w [lnE g l.length (mix l (List.replicate l.length (⟨0, 0⟩ : Ln)) i)]) (fun i => i ≤ l.length) (fun i => l.length - i) 0 (by omega) ⟨rfl, rfl, rfl, trivial⟩ (fun _ hw => by rw [mix_zero]; exact hw) ?_
  rintro k h1
  by_cases hi : k < l.length
  · obtain ⟨c, hc⟩ : ∃ c, l[k]? = some c := ⟨_, List.getElem?_eq_getElem hi⟩
    repeat' first | ((with_reducible apply (LR_call (f := 68))); exact rfl; exact rfl; exact rfl; exact fun w hw => toLine_ok c w) | ((with_reducible apply (LR_index_old (k))); exact rfl; exact rfl; exact rfl; exact rfl; exact hs; omega; exact hc; exact rfl; intro _ _) | ((with_reducible apply (LR_index_own (k))); exact rfl; exact rfl; exact rfl; exact rfl; omega; omega) | ((with_reducible apply (LS_store_agg 0)); exact rfl; exact rfl; exact rfl; exact rfl; exact rfl; exact rfl; exact rfl; exact putF_set (mix l (List.replicate l.length (⟨0, 0⟩ : Ln)) k) k c (by rw [mix_len (by simp)]; simpa using hi)) | ((with_reducible apply CS_seq)) | ((with_reducible apply CS_block)) | ((with_reducible apply CS_region)) | ((with_reducible apply RR_end)) | ((with_reducible apply LR_pure); exact rfl; exact rfl; exact rfl) | ((with_reducible apply LR_add); exact rfl; exact rfl; exact rfl; exact rfl; omega; omega) | ((with_reducible apply LR_load_old_agg); exact rfl; exact rfl; exact rfl; assumption; exact rfl) | ((with_reducible apply LR_len_sl); exact rfl; exact rfl; exact rfl; assumption) | ((with_reducible apply post_seq)) | ((with_reducible apply post_block_n)) | ((with_reducible apply CS_skip)) | ((with_reducible apply CS_cond_d); exact rfl; all_goals intro hb; all_goals try (exfalso; omega))
    refine post_round (i := k) (k + 1) (by omega) (by omega) ⟨rfl, rfl, rfl, trivial⟩ (fun _ hw => ?_)
    rw [mix_set (by simp) hc] at hw
    exact hw
  · have he : k = l.length := by omega
    repeat' first | ((with_reducible apply CS_seq)) | ((with_reducible apply CS_region)) | ((with_reducible apply RR_end)) | ((with_reducible apply LR_pure); exact rfl; exact rfl; exact rfl) | ((with_reducible apply LR_len_sl); exact rfl; exact rfl; exact rfl; assumption) | ((with_reducible apply post_seq)) | ((with_reducible apply post_then_exit)) | ((with_reducible apply post_block_eq)) | ((with_reducible apply CS_ret)) | ((with_reducible apply CS_exit)) | ((with_reducible apply CS_cond_d); exact rfl; all_goals intro hb; all_goals try (exfalso; omega))
    apply post_ret1; exact rfl; exact rfl; intro w' hw'; refine ⟨g, trivial, rfl, ?_⟩
    have hf : mix l (List.replicate l.length (⟨0, 0⟩ : Ln)) k = l := mix_full (by simp) (by simpa using he)
    rw [hf] at hw'
    exact hw'
theorem szLineS_ok (v : Value) (l : List Ln) (left : Int) (w : World) (hs : Sl w v l) (h1 : 0 ≤ left) (h2 : left ≤ 1000000000) : Calls Tryz.prog 28 #[v, .int .i64 left] w (fun x w' => ∃ n : Int, szOk left l.length n ∧ x = .returned (.int .i64 n) ∧ Wd w [] w') := by
  have hlen := hs.len
  simp only [maxLen] at hlen
  refine enter (vs := [v, .int .i64 left]) Tryz.func28 rfl Tryz.ntmps28 rfl ?_
  repeat' first | ((with_reducible apply LR_len_sl); exact rfl; exact rfl; exact rfl; exact hs) | ((with_reducible apply CS_seq)) | ((with_reducible apply CS_region)) | ((with_reducible apply RR_end)) | ((with_reducible apply LR_pure); exact rfl; exact rfl; exact rfl) | ((with_reducible apply LR_sub); exact rfl; exact rfl; exact rfl; exact rfl; omega; omega) | ((with_reducible apply post_seq)) | ((with_reducible apply post_then_ret)) | ((with_reducible apply CS_skip)) | ((with_reducible apply CS_ret)) | ((with_reducible apply CS_cond_d); exact rfl; all_goals intro hb; all_goals try (exfalso; omega))
  all_goals (apply post_ret1; exact rfl; exact rfl; intro w' hw'; exact ⟨_, by unfold szOk; omega, rfl, hw'⟩)
theorem eqLine_ok (s : Ln) (w : World) : Calls Tryz.prog 71 #[lnV s, lnV s] w (Gives (.bool true) w) := by
  refine enter (vs := [lnV s, lnV s]) Tryz.func71 rfl Tryz.ntmps71 rfl ?_
  repeat' first | ((with_reducible apply CS_seq)) | ((with_reducible apply CS_region)) | ((with_reducible apply RR_end)) | ((with_reducible apply LR_pure); exact rfl; exact rfl; exact rfl) | ((with_reducible apply LR_field_own); exact rfl; exact rfl; exact rfl) | ((with_reducible apply LR_load_own 0); exact rfl; exact rfl; exact rfl; exact rfl; exact rfl) | ((with_reducible apply LR_load_own 1); exact rfl; exact rfl; exact rfl; exact rfl; exact rfl) | ((with_reducible apply LS_box); exact rfl; exact rfl; exact rfl; exact rfl; intro _) | ((with_reducible apply post_seq)) | ((with_reducible apply CS_skip)) | ((with_reducible apply CS_ret)) | ((with_reducible apply CS_cond_nd); exact rfl; all_goals intro hb; all_goals try (exfalso; omega))
  all_goals first | (exfalso; contradiction) | (exfalso; omega) | (exfalso; simp at hb <;> omega) | skip
  all_goals (apply ret_bool; exact rfl; exact rfl; rfl)
theorem eqLineS_ok (v v' : Value) (l : List Ln) (w : World) (hs : Sl w v l) (hs' : Sl w v' l) : Calls Tryz.prog 36 #[v, v'] w (Gives (.bool true) w) := by
  have hlen := hs.len
  simp only [maxLen] at hlen
  refine enter (vs := [v, v']) Tryz.func36 rfl Tryz.ntmps36 rfl ?_
  repeat' first | ((with_reducible apply LR_len_sl); exact rfl; exact rfl; exact rfl; exact hs) | ((with_reducible apply LR_len_sl); exact rfl; exact rfl; exact rfl; exact hs') | ((with_reducible apply CS_seq)) | ((with_reducible apply CS_block)) | ((with_reducible apply CS_region)) | ((with_reducible apply RR_end)) | ((with_reducible apply LR_pure); exact rfl; exact rfl; exact rfl) | ((with_reducible apply post_seq)) | ((with_reducible apply CS_skip)) | ((with_reducible apply CS_cond_nd); exact rfl; all_goals intro hb; all_goals try (exfalso; omega))
  all_goals first | (exfalso; contradiction) | (exfalso; omega) | (exfalso; simp at hb <;> omega) | skip
  refine CS_loop (ι := Nat) (fun i => [(0, v), (1, v'), (5, .int .i64 (i : Int))]) (fun _ => Wd w []) (fun i => i ≤ l.length) (fun i => l.length - i) 0 (by omega) ⟨rfl, rfl, rfl, trivial⟩ (fun _ hw => hw) ?_
  rintro k h1
  by_cases hi : k < l.length
  · obtain ⟨c, hc⟩ : ∃ c, l[k]? = some c := ⟨_, List.getElem?_eq_getElem hi⟩
    repeat' first | ((with_reducible apply (LR_call (f := 71))); exact rfl; exact rfl; exact rfl; exact fun w hw => eqLine_ok _ w) | ((with_reducible apply (LR_index_old (k))); exact rfl; exact rfl; exact rfl; exact rfl; exact hs; omega; exact hc; exact rfl; intro _ _) | ((with_reducible apply (LR_index_old (k))); exact rfl; exact rfl; exact rfl; exact rfl; exact hs'; omega; exact hc; exact rfl; intro _ _) | ((with_reducible apply CS_seq)) | ((with_reducible apply CS_block)) | ((with_reducible apply CS_region)) | ((with_reducible apply CS_regionq_wd); kernel_rfl; kernel_rfl) | ((with_reducible apply RR_end)) | ((with_reducible apply LR_pure); exact rfl; exact rfl; exact rfl) | ((with_reducible apply LR_add); exact rfl; exact rfl; exact rfl; exact rfl; omega; omega) | ((with_reducible apply LR_load_old_agg); exact rfl; exact rfl; exact rfl; assumption; exact rfl) | ((with_reducible apply LR_len_sl); exact rfl; exact rfl; exact rfl; assumption) | ((with_reducible apply post_seq)) | ((with_reducible apply post_block_n)) | ((with_reducible apply CS_skip)) | ((with_reducible apply CS_cond_f); exact rfl) | ((with_reducible apply CS_cond_d); exact rfl; all_goals intro hb; all_goals try (exfalso; omega))
    all_goals first | (exfalso; contradiction) | (exfalso; omega) | (exfalso; simp at hb <;> omega) | skip
    exact post_round (i := k) (k + 1) (by omega) (by omega) ⟨rfl, rfl, rfl, trivial⟩ (fun _ hw => hw.nil)
  · skip
    repeat' first | ((with_reducible apply LR_len_sl); exact rfl; exact rfl; exact rfl; exact hs) | ((with_reducible apply CS_seq)) | ((with_reducible apply CS_region)) | ((with_reducible apply RR_end)) | ((with_reducible apply LR_pure); exact rfl; exact rfl; exact rfl) | ((with_reducible apply post_seq)) | ((with_reducible apply post_then_exit)) | ((with_reducible apply post_block_eq)) | ((with_reducible apply CS_ret)) | ((with_reducible apply CS_exit)) | ((with_reducible apply CS_cond_d); exact rfl; all_goals intro hb; all_goals try (exfalso; omega))
    apply ret_bool; exact rfl; exact rfl; rfl
def mkLn (k : Int) (n : Nat) : List Ln := (List.range n).map fun j : Nat => ⟨k + 2 * (j : Int), k + 2 * (j : Int) + 1⟩
theorem mkLn_len (k : Int) (n : Nat) : (mkLn k n).length = n := by simp [mkLn]
theorem mkLn_at {k : Int} {n j : Nat} (h : j < n) : (mkLn k n)[j]? = some ⟨k + 2 * (j : Int), k + 2 * (j : Int) + 1⟩ := by simp [mkLn, h]
theorem markLineS_ok (w0 : World) (h : List Ent) (w : World) (g c : Nat) (xs : List Ln) (k0 : Int) (hw : Wd w0 (lnE g c xs :: h) w) (hx : xs.length ≤ 1000000000) (h0 : 0 ≤ k0) (h1 : k0 ≤ 10000000000) :
    Calls Tryz.prog 39 #[.slice (some ⟨g, 0, none⟩) xs.length c, .int .i64 k0] w
      (fun x w' => ∃ _ : Unit, True ∧ x = .returned (.int .i64 (k0 + 2 * xs.length)) ∧ Wd w0 (lnE g c (mkLn k0 xs.length) :: h) w') := by
  have hm := mkLn_len k0 xs.length
  refine enter_in (vs := [.slice (some ⟨g, 0, none⟩) xs.length c, .int .i64 k0]) hw Tryz.func39 rfl Tryz.ntmps39 rfl ?_
  repeat' first | ((with_reducible apply CS_seq)) | ((with_reducible apply CS_block)) | ((with_reducible apply CS_region)) | ((with_reducible apply RR_end)) | ((with_reducible apply LR_pure); exact rfl; exact rfl; exact rfl) | ((with_reducible apply post_seq))
  refine CS_loop (ι := Nat) (fun i => [(0, .slice (some ⟨g, 0, none⟩) xs.length c), (1, .int .i64 (k0 + 2 * (i : Int))), (5, .int .i64 (i : Int))]) (fun i => Wd w0 (lnE g c (mix (mkLn k0 xs.length) xs i) :: h)) (fun i => i ≤ xs.length) (fun i => xs.length - i) 0 (by omega) ⟨rfl, by rw [show k0 + 2 * ((0 : Nat) : Int) = k0 by omega]; rfl, rfl, trivial⟩ (fun _ hw => by rw [mix_zero]; exact hw) ?_
  rintro k hk
  by_cases hi : k < xs.length
  · have hml := mix_len hm k
    obtain ⟨c0, hc0⟩ : ∃ c, (mix (mkLn k0 xs.length) xs k)[k]? = some c := ⟨_, List.getElem?_eq_getElem (show k < (mix (mkLn k0 xs.length) xs k).length by omega)⟩
    have hc1 : (((mix (mkLn k0 xs.length) xs k).set k ⟨k0 + 2 * (k : Int), c0.cnt⟩))[k]? = some ⟨k0 + 2 * (k : Int), c0.cnt⟩ := by rw [List.getElem?_set, if_pos rfl, if_pos (by (try simp only [List.length_set]); omega)]
    repeat' first | ((with_reducible apply (LR_index_own (k))); exact rfl; exact rfl; exact rfl; exact rfl; omega; omega) | ((with_reducible apply (LS_store1 0)); exact rfl; exact rfl; exact rfl; exact rfl; exact rfl; first | exact putF_fld _ k c0 ⟨k0 + 2 * (k : Int), c0.cnt⟩ 0 _ hc0 (by decide) rfl | exact putF_fld _ k ⟨k0 + 2 * (k : Int), c0.cnt⟩ ⟨k0 + 2 * (k : Int), k0 + 2 * (k : Int) + 1⟩ 1 _ hc1 (by decide) rfl) | ((with_reducible apply CS_seq)) | ((with_reducible apply CS_block)) | ((with_reducible apply CS_region)) | ((with_reducible apply RR_end)) | ((with_reducible apply LR_pure); exact rfl; exact rfl; exact rfl) | ((with_reducible apply LR_add); exact rfl; exact rfl; exact rfl; exact rfl; omega; omega) | ((with_reducible apply LR_field_own); exact rfl; exact rfl; exact rfl) | ((with_reducible apply LR_len); exact rfl; exact rfl; exact rfl) | ((with_reducible apply post_seq)) | ((with_reducible apply post_block_n)) | ((with_reducible apply CS_skip)) | ((with_reducible apply CS_cond_d); exact rfl; all_goals intro hb; all_goals try (exfalso; omega))
    refine post_round (i := k) (k + 1) (by omega) (by omega) ⟨rfl, by rw [show k0 + 2 * ((k + 1 : Nat) : Int) = k0 + 2 * (k : Int) + 1 + 1 by omega]; rfl, rfl, trivial⟩ (fun _ hw => ?_)
    simp only [List.set_set] at hw
    have hmk := mkLn_at (k := k0) hi
    rw [mix_set hm hmk] at hw
    exact hw
  · have he : k = xs.length := by omega
    repeat' first | ((with_reducible apply CS_seq)) | ((with_reducible apply CS_region)) | ((with_reducible apply RR_end)) | ((with_reducible apply LR_pure); exact rfl; exact rfl; exact rfl) | ((with_reducible apply LR_len); exact rfl; exact rfl; exact rfl) | ((with_reducible apply post_seq)) | ((with_reducible apply post_then_exit)) | ((with_reducible apply post_block_eq)) | ((with_reducible apply CS_ret)) | ((with_reducible apply CS_exit)) | ((with_reducible apply CS_cond_d); exact rfl; all_goals intro hb; all_goals try (exfalso; omega))
    apply post_ret1; exact rfl; exact rfl; intro w' hw'; refine ⟨(), trivial, by rw [he], ?_⟩
    rw [he, mix_end hm] at hw'
    exact hw'
end Go.Proofs.YtbgfkhliideegaaGreat
