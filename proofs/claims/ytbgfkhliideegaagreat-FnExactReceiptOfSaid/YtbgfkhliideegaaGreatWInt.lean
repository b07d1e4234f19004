/- The walks of small functions on ints and lists of ints. No condition beyond those that each theorem states. -/
import Derived.Test.YtbgfkhliideegaaGreatPInt
namespace Go.Proofs.YtbgfkhliideegaaGreat
open Go.RowKit
theorem within_ok (n a b : Int) (w : World) : Calls Tryz.prog 126 #[.int .i64 n, .int .i64 a, .int .i64 b] w (Gives (.bool (wi n a b)) w) := by
  refine enter (vs := [.int .i64 n, .int .i64 a, .int .i64 b]) Tryz.func126 rfl Tryz.ntmps126 rfl ?_
  repeat' first | ((with_reducible apply CS_seq)) | ((with_reducible apply CS_region)) | ((with_reducible apply RR_end)) | ((with_reducible apply LR_pure); exact rfl; exact rfl; exact rfl) | ((with_reducible apply LR_skip); exact rfl; exact rfl) | ((with_reducible apply post_seq)) | ((with_reducible apply CS_ret)) | ((with_reducible apply LR_caseg_d); exact rfl; exact rfl; all_goals intro hb; all_goals try (exfalso; omega))
  all_goals (apply ret_bool; exact rfl; exact rfl; simp [wi, *])
theorem inRange_ok (n a b : Int) (w : World) : Calls Tryz.prog 106 #[.int .i64 n, .int .i64 a, .int .i64 b] w (Gives (.bool (wi n a b)) w) := by
  refine enter (vs := [.int .i64 n, .int .i64 a, .int .i64 b]) Tryz.func106 rfl Tryz.ntmps106 rfl ?_
  repeat' first | ((with_reducible apply CS_seq)) | ((with_reducible apply CS_region)) | ((with_reducible apply RR_end)) | ((with_reducible apply LR_pure); exact rfl; exact rfl; exact rfl) | ((with_reducible apply LR_skip); exact rfl; exact rfl) | ((with_reducible apply post_seq)) | ((with_reducible apply CS_ret)) | ((with_reducible apply LR_caseg_d); exact rfl; exact rfl; all_goals intro hb; all_goals try (exfalso; omega))
  all_goals (apply ret_bool; exact rfl; exact rfl; simp [wi, *])
theorem money_ok (n : Int) (w : World) : Calls Tryz.prog 128 #[.int .i64 n] w (Gives (.bool (wi n 0 1000000)) w) := by
  refine enter (vs := [.int .i64 n]) Tryz.func128 rfl Tryz.ntmps128 rfl ?_
  repeat' first | ((with_reducible apply (LR_call (f := 126))); exact rfl; exact rfl; exact rfl; exact fun w hw => within_ok _ _ _ w) | ((with_reducible apply CS_seq)) | ((with_reducible apply CS_region)) | ((with_reducible apply RR_end)) | ((with_reducible apply LR_pure); exact rfl; exact rfl; exact rfl) | ((with_reducible apply post_seq)) | ((with_reducible apply CS_ret))
  all_goals (apply ret_bool; exact rfl; exact rfl; rfl)
theorem within_b {n lo hi : Int} {b : Bool} (h : wi n lo hi = b) (w : World) : Calls Tryz.prog 126 #[.int .i64 n, .int .i64 lo, .int .i64 hi] w (Gives (.bool b) w) := h ▸ within_ok n lo hi w
theorem inRange_b {n lo hi : Int} {b : Bool} (h : wi n lo hi = b) (w : World) : Calls Tryz.prog 106 #[.int .i64 n, .int .i64 lo, .int .i64 hi] w (Gives (.bool b) w) := h ▸ inRange_ok n lo hi w
theorem money_b {n : Int} {b : Bool} (h : wi n 0 1000000 = b) (w : World) : Calls Tryz.prog 128 #[.int .i64 n] w (Gives (.bool b) w) := h ▸ money_ok n w
theorem hasNumber_ok (v : Value) (l : List Int) (n : Int) (w : World) (b : Bool) (hs : Sl w v l) (hB : n ∈ l ↔ b = true) : Calls Tryz.prog 92 #[v, .int .i64 n] w (Gives (.bool b) w) := by
  have hlen := hs.len
  simp only [maxLen] at hlen
  refine enter (vs := [v, .int .i64 n]) Tryz.func92 rfl Tryz.ntmps92 rfl ?_
  repeat' first | ((with_reducible apply CS_seq)) | ((with_reducible apply CS_block)) | ((with_reducible apply CS_region)) | ((with_reducible apply RR_end)) | ((with_reducible apply LR_pure); exact rfl; exact rfl; exact rfl) | ((with_reducible apply LR_len_sl); exact rfl; exact rfl; exact rfl; assumption) | ((with_reducible apply post_seq))
  refine CS_loop (ι := Int) (fun i => [(1, .int .i64 n), (7, v), (8, .int .i64 l.length), (9, .int .i64 i)]) (fun _ => Wd w []) (fun i => 0 ≤ i ∧ i ≤ l.length ∧ ∀ j : Nat, (j : Int) < i → l[j]? ≠ some n) (fun i => (l.length - i).toNat) 0 ⟨by omega, by omega, fun j h => by omega⟩ ⟨rfl, rfl, rfl, rfl, trivial⟩ (fun _ hw => hw) ?_
  rintro i ⟨h0, h1, h2⟩
  obtain ⟨k, hk⟩ : ∃ k : Nat, i = k := ⟨i.toNat, by omega⟩
  by_cases hi : k < l.length
  · obtain ⟨c, hc⟩ : ∃ c, l[k]? = some c := ⟨_, List.getElem?_eq_getElem hi⟩
    by_cases hcn : c = n
    · subst hcn
      repeat' first | ((with_reducible apply (LR_index_old (k))); exact rfl; exact rfl; exact rfl; exact rfl; exact hs; omega; exact hc; exact rfl; intro _ _) | ((with_reducible apply CS_seq)) | ((with_reducible apply CS_block)) | ((with_reducible apply CS_region)) | ((with_reducible apply RR_end)) | ((with_reducible apply LR_pure); exact rfl; exact rfl; exact rfl) | ((with_reducible apply LR_load_old0); exact rfl; exact rfl; exact rfl; assumption; exact rfl) | ((with_reducible apply post_seq)) | ((with_reducible apply post_then_ret)) | ((with_reducible apply post_block_ret)) | ((with_reducible apply CS_skip)) | ((with_reducible apply CS_ret)) | ((with_reducible apply CS_cond_d); exact rfl; all_goals intro hb; all_goals try (exfalso; omega))
      all_goals first | (exfalso; contradiction) | skip
      apply ret_bool; exact rfl; exact rfl; exact btrue hB (List.mem_of_getElem? hc)
    · skip
      repeat' first | ((with_reducible apply (LR_index_old (k))); exact rfl; exact rfl; exact rfl; exact rfl; exact hs; omega; exact hc; exact rfl; intro _ _) | ((with_reducible apply CS_seq)) | ((with_reducible apply CS_block)) | ((with_reducible apply CS_region)) | ((with_reducible apply RR_end)) | ((with_reducible apply LR_pure); exact rfl; exact rfl; exact rfl) | ((with_reducible apply LR_add); exact rfl; exact rfl; exact rfl; exact rfl; omega; omega) | ((with_reducible apply LR_load_old0); exact rfl; exact rfl; exact rfl; assumption; exact rfl) | ((with_reducible apply post_seq)) | ((with_reducible apply post_block_n)) | ((with_reducible apply CS_skip)) | ((with_reducible apply CS_cond_d); exact rfl; all_goals intro hb; all_goals try (exfalso; omega))
      all_goals first | (exfalso; contradiction) | skip
      exact post_round (i := i) (i + 1) ⟨by omega, by omega, fun j hj => by
        by_cases hjk : j = k
        · rw [hjk, hc]; intro h; cases h; exact hcn rfl
        · exact h2 j (by omega)⟩ (by omega) ⟨rfl, rfl, rfl, rfl, trivial⟩ (fun _ hw => hw.nil)
  · skip
    repeat' first | ((with_reducible apply CS_seq)) | ((with_reducible apply CS_region)) | ((with_reducible apply RR_end)) | ((with_reducible apply LR_pure); exact rfl; exact rfl; exact rfl) | ((with_reducible apply post_seq)) | ((with_reducible apply post_then_exit)) | ((with_reducible apply post_block_eq)) | ((with_reducible apply CS_ret)) | ((with_reducible apply CS_exit)) | ((with_reducible apply CS_cond_d); exact rfl; all_goals intro hb; all_goals try (exfalso; omega))
    apply ret_bool; exact rfl; exact rfl
    exact bfalse hB fun h => by
      obtain ⟨j, hj⟩ := List.mem_iff_getElem?.1 h
      have := (List.getElem?_eq_some_iff.1 hj).1
      exact h2 j (by omega) hj
theorem isIn_ok (v : Value) (l : List Int) (n : Int) (w : World) (b : Bool) (hs : Sl w v l) (hB : n ∈ l ↔ b = true) : Calls Tryz.prog 26 #[v, .int .i64 n] w (Gives (.bool b) w) := by
  have hlen := hs.len
  simp only [maxLen] at hlen
  refine enter (vs := [v, .int .i64 n]) Tryz.func26 rfl Tryz.ntmps26 rfl ?_
  repeat' first | ((with_reducible apply CS_seq)) | ((with_reducible apply CS_block)) | ((with_reducible apply CS_region)) | ((with_reducible apply RR_end)) | ((with_reducible apply LR_pure); exact rfl; exact rfl; exact rfl) | ((with_reducible apply post_seq))
  refine CS_loop (ι := Int) (fun i => [(0, v), (1, .int .i64 n), (5, .int .i64 i)]) (fun _ => Wd w []) (fun i => 0 ≤ i ∧ i ≤ l.length ∧ ∀ j : Nat, (j : Int) < i → l[j]? ≠ some n) (fun i => (l.length - i).toNat) 0 ⟨by omega, by omega, fun j h => by omega⟩ ⟨rfl, rfl, rfl, trivial⟩ (fun _ hw => hw) ?_
  rintro i ⟨h0, h1, h2⟩
  obtain ⟨k, hk⟩ : ∃ k : Nat, i = k := ⟨i.toNat, by omega⟩
  by_cases hi : k < l.length
  · obtain ⟨c, hc⟩ : ∃ c, l[k]? = some c := ⟨_, List.getElem?_eq_getElem hi⟩
    by_cases hcn : c = n
    · subst hcn
      repeat' first | ((with_reducible apply (LR_index_old (k))); exact rfl; exact rfl; exact rfl; exact rfl; exact hs; omega; exact hc; exact rfl; intro _ _) | ((with_reducible apply CS_seq)) | ((with_reducible apply CS_block)) | ((with_reducible apply CS_region)) | ((with_reducible apply RR_end)) | ((with_reducible apply LR_pure); exact rfl; exact rfl; exact rfl) | ((with_reducible apply LR_load_old0); exact rfl; exact rfl; exact rfl; assumption; exact rfl) | ((with_reducible apply LR_len_sl); exact rfl; exact rfl; exact rfl; assumption) | ((with_reducible apply post_seq)) | ((with_reducible apply post_then_ret)) | ((with_reducible apply post_block_ret)) | ((with_reducible apply CS_skip)) | ((with_reducible apply CS_ret)) | ((with_reducible apply CS_cond_d); exact rfl; all_goals intro hb; all_goals try (exfalso; omega))
      all_goals first | (exfalso; contradiction) | skip
      apply ret_bool; exact rfl; exact rfl; exact btrue hB (List.mem_of_getElem? hc)
    · skip
      repeat' first | ((with_reducible apply (LR_index_old (k))); exact rfl; exact rfl; exact rfl; exact rfl; exact hs; omega; exact hc; exact rfl; intro _ _) | ((with_reducible apply CS_seq)) | ((with_reducible apply CS_block)) | ((with_reducible apply CS_region)) | ((with_reducible apply RR_end)) | ((with_reducible apply LR_pure); exact rfl; exact rfl; exact rfl) | ((with_reducible apply LR_add); exact rfl; exact rfl; exact rfl; exact rfl; omega; omega) | ((with_reducible apply LR_load_old0); exact rfl; exact rfl; exact rfl; assumption; exact rfl) | ((with_reducible apply LR_len_sl); exact rfl; exact rfl; exact rfl; assumption) | ((with_reducible apply post_seq)) | ((with_reducible apply post_block_n)) | ((with_reducible apply CS_skip)) | ((with_reducible apply CS_cond_d); exact rfl; all_goals intro hb; all_goals try (exfalso; omega))
      all_goals first | (exfalso; contradiction) | skip
      exact post_round (i := i) (i + 1) ⟨by omega, by omega, fun j hj => by
        by_cases hjk : j = k
        · rw [hjk, hc]; intro h; cases h; exact hcn rfl
        · exact h2 j (by omega)⟩ (by omega) ⟨rfl, rfl, rfl, trivial⟩ (fun _ hw => hw.nil)
  · skip
    repeat' first | ((with_reducible apply CS_seq)) | ((with_reducible apply CS_region)) | ((with_reducible apply RR_end)) | ((with_reducible apply LR_pure); exact rfl; exact rfl; exact rfl) | ((with_reducible apply LR_len_sl); exact rfl; exact rfl; exact rfl; assumption) | ((with_reducible apply post_seq)) | ((with_reducible apply post_then_exit)) | ((with_reducible apply post_block_eq)) | ((with_reducible apply CS_ret)) | ((with_reducible apply CS_exit)) | ((with_reducible apply CS_cond_d); exact rfl; all_goals intro hb; all_goals try (exfalso; omega))
    apply ret_bool; exact rfl; exact rfl
    exact bfalse hB fun h => by
      obtain ⟨j, hj⟩ := List.mem_iff_getElem?.1 h
      have := (List.getElem?_eq_some_iff.1 hj).1
      exact h2 j (by omega) hj
theorem eqIntS_ok (v v' : Value) (l : List Int) (w : World) (hs : Sl w v l) (hs' : Sl w v' l) : Calls Tryz.prog 34 #[v, v'] w (Gives (.bool true) w) := by
  have hlen := hs.len
  simp only [maxLen] at hlen
  refine enter (vs := [v, v']) Tryz.func34 rfl Tryz.ntmps34 rfl ?_
  repeat' first | ((with_reducible apply LR_len_sl); exact rfl; exact rfl; exact rfl; exact hs) | ((with_reducible apply LR_len_sl); exact rfl; exact rfl; exact rfl; exact hs') | ((with_reducible apply CS_seq)) | ((with_reducible apply CS_block)) | ((with_reducible apply CS_region)) | ((with_reducible apply RR_end)) | ((with_reducible apply LR_pure); exact rfl; exact rfl; exact rfl) | ((with_reducible apply post_seq)) | ((with_reducible apply CS_skip)) | ((with_reducible apply CS_cond_nd); exact rfl; all_goals intro hb; all_goals try (exfalso; omega))
  all_goals first | (exfalso; contradiction) | skip
  refine CS_loop (ι := Int) (fun i => [(0, v), (1, v'), (5, .int .i64 i)]) (fun _ => Wd w []) (fun i => 0 ≤ i ∧ i ≤ l.length) (fun i => (l.length - i).toNat) 0 ⟨by omega, by omega⟩ ⟨rfl, rfl, rfl, trivial⟩ (fun _ hw => hw) ?_
  rintro i ⟨h0, h1⟩
  obtain ⟨k, hk⟩ : ∃ k : Nat, i = k := ⟨i.toNat, by omega⟩
  by_cases hi : k < l.length
  · obtain ⟨c, hc⟩ : ∃ c, l[k]? = some c := ⟨_, List.getElem?_eq_getElem hi⟩
    repeat' first | ((with_reducible apply (LR_index_old (k))); exact rfl; exact rfl; exact rfl; exact rfl; exact hs; omega; exact hc; exact rfl; intro _ _) | ((with_reducible apply (LR_index_old (k))); exact rfl; exact rfl; exact rfl; exact rfl; exact hs'; omega; exact hc; exact rfl; intro _ _) | ((with_reducible apply CS_seq)) | ((with_reducible apply CS_block)) | ((with_reducible apply CS_region)) | ((with_reducible apply CS_regionq_wd); kernel_rfl; kernel_rfl) | ((with_reducible apply RR_end)) | ((with_reducible apply LR_pure); exact rfl; exact rfl; exact rfl) | ((with_reducible apply LR_add); exact rfl; exact rfl; exact rfl; exact rfl; omega; omega) | ((with_reducible apply LR_load_old0); exact rfl; exact rfl; exact rfl; assumption; exact rfl) | ((with_reducible apply LR_len_sl); exact rfl; exact rfl; exact rfl; assumption) | ((with_reducible apply post_seq)) | ((with_reducible apply post_block_n)) | ((with_reducible apply CS_skip)) | ((with_reducible apply CS_cond_nd); exact rfl; all_goals intro hb; all_goals try (exfalso; omega)) | ((with_reducible apply CS_cond_d); exact rfl; all_goals intro hb; all_goals try (exfalso; omega))
    all_goals first | (exfalso; contradiction) | skip
    exact post_round (i := i) (i + 1) ⟨by omega, by omega⟩ (by omega) ⟨rfl, rfl, rfl, trivial⟩ (fun _ hw => hw.nil)
  · skip
    repeat' first | ((with_reducible apply CS_seq)) | ((with_reducible apply CS_region)) | ((with_reducible apply RR_end)) | ((with_reducible apply LR_pure); exact rfl; exact rfl; exact rfl) | ((with_reducible apply LR_len_sl); exact rfl; exact rfl; exact rfl; assumption) | ((with_reducible apply post_seq)) | ((with_reducible apply post_then_exit)) | ((with_reducible apply post_block_eq)) | ((with_reducible apply CS_ret)) | ((with_reducible apply CS_exit)) | ((with_reducible apply CS_cond_d); exact rfl; all_goals intro hb; all_goals try (exfalso; omega))
    apply ret_bool; exact rfl; exact rfl; rfl
theorem equalInts_ok (v v' : Value) (l : List Int) (w : World) (hs : Sl w v l) (hs' : Sl w v' l) : Calls Tryz.prog 23 #[v, v'] w (Gives (.bool true) w) := by
  have hlen := hs.len
  simp only [maxLen] at hlen
  refine enter (vs := [v, v']) Tryz.func23 rfl Tryz.ntmps23 rfl ?_
  repeat' first | ((with_reducible apply LR_len_sl); exact rfl; exact rfl; exact rfl; exact hs) | ((with_reducible apply LR_len_sl); exact rfl; exact rfl; exact rfl; exact hs') | ((with_reducible apply CS_seq)) | ((with_reducible apply CS_block)) | ((with_reducible apply CS_region)) | ((with_reducible apply RR_end)) | ((with_reducible apply LR_pure); exact rfl; exact rfl; exact rfl) | ((with_reducible apply post_seq)) | ((with_reducible apply CS_skip)) | ((with_reducible apply CS_cond_nd); exact rfl; all_goals intro hb; all_goals try (exfalso; omega))
  all_goals first | (exfalso; contradiction) | skip
  refine CS_loop (ι := Int) (fun i => [(0, v), (1, v'), (5, .int .i64 i)]) (fun _ => Wd w []) (fun i => 0 ≤ i ∧ i ≤ l.length) (fun i => (l.length - i).toNat) 0 ⟨by omega, by omega⟩ ⟨rfl, rfl, rfl, trivial⟩ (fun _ hw => hw) ?_
  rintro i ⟨h0, h1⟩
  obtain ⟨k, hk⟩ : ∃ k : Nat, i = k := ⟨i.toNat, by omega⟩
  by_cases hi : k < l.length
  · obtain ⟨c, hc⟩ : ∃ c, l[k]? = some c := ⟨_, List.getElem?_eq_getElem hi⟩
    repeat' first | ((with_reducible apply (LR_index_old (k))); exact rfl; exact rfl; exact rfl; exact rfl; exact hs; omega; exact hc; exact rfl; intro _ _) | ((with_reducible apply (LR_index_old (k))); exact rfl; exact rfl; exact rfl; exact rfl; exact hs'; omega; exact hc; exact rfl; intro _ _) | ((with_reducible apply CS_seq)) | ((with_reducible apply CS_block)) | ((with_reducible apply CS_region)) | ((with_reducible apply CS_regionq_wd); kernel_rfl; kernel_rfl) | ((with_reducible apply RR_end)) | ((with_reducible apply LR_pure); exact rfl; exact rfl; exact rfl) | ((with_reducible apply LR_add); exact rfl; exact rfl; exact rfl; exact rfl; omega; omega) | ((with_reducible apply LR_load_old0); exact rfl; exact rfl; exact rfl; assumption; exact rfl) | ((with_reducible apply LR_len_sl); exact rfl; exact rfl; exact rfl; assumption) | ((with_reducible apply post_seq)) | ((with_reducible apply post_block_n)) | ((with_reducible apply CS_skip)) | ((with_reducible apply CS_cond_nd); exact rfl; all_goals intro hb; all_goals try (exfalso; omega)) | ((with_reducible apply CS_cond_d); exact rfl; all_goals intro hb; all_goals try (exfalso; omega))
    all_goals first | (exfalso; contradiction) | skip
    exact post_round (i := i) (i + 1) ⟨by omega, by omega⟩ (by omega) ⟨rfl, rfl, rfl, trivial⟩ (fun _ hw => hw.nil)
  · skip
    repeat' first | ((with_reducible apply CS_seq)) | ((with_reducible apply CS_region)) | ((with_reducible apply RR_end)) | ((with_reducible apply LR_pure); exact rfl; exact rfl; exact rfl) | ((with_reducible apply LR_len_sl); exact rfl; exact rfl; exact rfl; assumption) | ((with_reducible apply post_seq)) | ((with_reducible apply post_then_exit)) | ((with_reducible apply post_block_eq)) | ((with_reducible apply CS_ret)) | ((with_reducible apply CS_exit)) | ((with_reducible apply CS_cond_d); exact rfl; all_goals intro hb; all_goals try (exfalso; omega))
    apply ret_bool; exact rfl; exact rfl; rfl
theorem couponsOk_ok (v : Value) (l : List Int) (w : World) (b : Bool) (hs : Sl w v l) (hB : CO l ↔ b = true) : Calls Tryz.prog 87 #[v] w (Gives (.bool b) w) := by
  have hlen := hs.len
  simp only [maxLen] at hlen
  rw [CO_at] at hB
  refine enter (vs := [v]) Tryz.func87 rfl Tryz.ntmps87 rfl ?_
  repeat' first | ((with_reducible apply CS_seq)) | ((with_reducible apply CS_block)) | ((with_reducible apply CS_region)) | ((with_reducible apply RR_end)) | ((with_reducible apply LR_pure); exact rfl; exact rfl; exact rfl) | ((with_reducible apply LR_len_sl); exact rfl; exact rfl; exact rfl; assumption) | ((with_reducible apply post_seq))
  refine CS_loop (ι := Int) (fun i => [(0, v), (5, v), (6, .int .i64 l.length), (7, .int .i64 i)]) (fun _ => Wd w []) (fun i => 0 ≤ i ∧ i ≤ l.length ∧ ∀ j : Nat, (j : Int) < i → coAt l j) (fun i => (l.length - i).toNat) 0 ⟨by omega, by omega, fun j h => by omega⟩ ⟨rfl, rfl, rfl, rfl, trivial⟩ (fun _ hw => hw) ?_
  rintro i ⟨h0, h1, h2⟩
  obtain ⟨k, hk⟩ : ∃ k : Nat, i = k := ⟨i.toNat, by omega⟩
  by_cases hi : k < l.length
  · obtain ⟨c, hc⟩ : ∃ c, l[k]? = some c := ⟨_, List.getElem?_eq_getElem hi⟩
    have hbad : ¬ coAt l k → false = b := fun h => bfalse hB fun h' => h (h'.2 k hi)
    have hgo : coAt l k → ∀ j : Nat, (j : Int) < i + 1 → coAt l j := fun h j hj => by
      by_cases hjk : j = k
      · rw [hjk]; exact h
      · exact h2 j (by omega)
    by_cases h00 : k = 0
    · subst h00
      have hA : coAt l 0 ↔ (1 ≤ c ∧ c ≤ 9) := by
        constructor
        · intro h; exact (h c hc).1
        · intro h c2 hc2; rw [hc] at hc2; cases hc2; exact ⟨h, fun _ h => by omega⟩
      rw [hA] at hbad hgo
      repeat' first | ((with_reducible apply (LR_call (f := 126))); exact rfl; exact rfl; exact rfl; exact fun w hw => within_ok _ _ _ w) | ((with_reducible apply (LR_index_old (0))); exact rfl; exact rfl; exact rfl; exact rfl; exact hs; omega; exact hc; exact rfl; intro _ _) | ((with_reducible apply CS_seq)) | ((with_reducible apply CS_block)) | ((with_reducible apply CS_region)) | ((with_reducible apply RR_end)) | ((with_reducible apply LR_pure); exact rfl; exact rfl; exact rfl) | ((with_reducible apply LR_skip); exact rfl; exact rfl) | ((with_reducible apply LR_add); exact rfl; exact rfl; exact rfl; exact rfl; omega; omega) | ((with_reducible apply LR_load_old0); exact rfl; exact rfl; exact rfl; assumption; exact rfl) | ((with_reducible apply post_seq)) | ((with_reducible apply post_then_ret)) | ((with_reducible apply post_block_n)) | ((with_reducible apply post_block_ret)) | ((with_reducible apply CS_skip)) | ((with_reducible apply CS_ret)) | ((with_reducible apply CS_cond_t); exact rfl) | ((with_reducible apply CS_cond_f); exact rfl) | ((with_reducible apply CS_cond_d); exact rfl; all_goals intro hb; all_goals try (exfalso; omega)) | ((with_reducible apply LR_caseg_d); exact rfl; exact rfl; all_goals intro hb; all_goals try (exfalso; omega)) | ((with_reducible apply LR_caseg_n); exact rfl; exact rfl; all_goals intro hb; all_goals try (exfalso; omega))
      all_goals (try simp only [wi_true, wi_false] at *)
      all_goals first
        | (apply ret_bool; exact rfl; exact rfl; exact hbad (by omega))
        | exact post_round (i := i) (i + 1) ⟨by omega, by omega, hgo (by omega)⟩ (by omega) ⟨rfl, rfl, rfl, rfl, trivial⟩ (fun _ hw => hw.nil)
    · obtain ⟨c', hc'⟩ : ∃ c, l[k-1]? = some c := ⟨_, List.getElem?_eq_getElem (by omega)⟩
      have hA : coAt l k ↔ (1 ≤ c ∧ c ≤ 9) ∧ c' < c := by
        constructor
        · intro h; have := h c hc; exact ⟨this.1, this.2 c' (by omega) hc'⟩
        · intro h c2 hc2; rw [hc] at hc2; cases hc2; exact ⟨h.1, fun c3 _ h3 => by rw [hc'] at h3; cases h3; exact h.2⟩
      rw [hA] at hbad hgo
      repeat' first | ((with_reducible apply (LR_call (f := 126))); exact rfl; exact rfl; exact rfl; exact fun w hw => within_ok _ _ _ w) | ((with_reducible apply (LR_index_old (k))); exact rfl; exact rfl; exact rfl; exact rfl; exact hs; omega; exact hc; exact rfl; intro _ _) | ((with_reducible apply (LR_index_old (k-1))); exact rfl; exact rfl; exact rfl; exact rfl; exact hs; omega; exact hc'; exact rfl; intro _ _) | ((with_reducible apply CS_seq)) | ((with_reducible apply CS_block)) | ((with_reducible apply CS_region)) | ((with_reducible apply RR_end)) | ((with_reducible apply LR_pure); exact rfl; exact rfl; exact rfl) | ((with_reducible apply LR_skip); exact rfl; exact rfl) | ((with_reducible apply LR_add); exact rfl; exact rfl; exact rfl; exact rfl; omega; omega) | ((with_reducible apply LR_sub); exact rfl; exact rfl; exact rfl; exact rfl; omega; omega) | ((with_reducible apply LR_load_old0); exact rfl; exact rfl; exact rfl; assumption; exact rfl) | ((with_reducible apply post_seq)) | ((with_reducible apply post_then_ret)) | ((with_reducible apply post_block_n)) | ((with_reducible apply post_block_ret)) | ((with_reducible apply CS_skip)) | ((with_reducible apply CS_ret)) | ((with_reducible apply CS_cond_t); exact rfl) | ((with_reducible apply CS_cond_d); exact rfl; all_goals intro hb; all_goals try (exfalso; omega)) | ((with_reducible apply LR_caseg_d); exact rfl; exact rfl; all_goals intro hb; all_goals try (exfalso; omega)) | ((with_reducible apply LR_caseg_n); exact rfl; exact rfl; all_goals intro hb; all_goals try (exfalso; omega))
      all_goals (try simp only [wi_true, wi_false] at *)
      all_goals first
        | (apply ret_bool; exact rfl; exact rfl; exact hbad (by omega))
        | exact post_round (i := i) (i + 1) ⟨by omega, by omega, hgo (by omega)⟩ (by omega) ⟨rfl, rfl, rfl, rfl, trivial⟩ (fun _ hw => hw.nil)
  · have hv : ∀ j, j < l.length → coAt l j := fun j hj => h2 j (by omega)
    by_cases h3 : l.length ≤ 3
    · have hq := btrue hB ⟨h3, hv⟩
      repeat' first | ((with_reducible apply CS_seq)) | ((with_reducible apply CS_region)) | ((with_reducible apply RR_end)) | ((with_reducible apply LR_pure); exact rfl; exact rfl; exact rfl) | ((with_reducible apply LR_len_sl); exact rfl; exact rfl; exact rfl; assumption) | ((with_reducible apply post_seq)) | ((with_reducible apply post_then_exit)) | ((with_reducible apply post_block_eq)) | ((with_reducible apply CS_ret)) | ((with_reducible apply CS_exit)) | ((with_reducible apply CS_cond_d); exact rfl; all_goals intro hb; all_goals try (exfalso; omega))
      apply ret_bool; exact rfl; exact rfl; rw [← hq]; simp; omega
    · have hq := bfalse hB (fun h => h3 h.1)
      repeat' first | ((with_reducible apply CS_seq)) | ((with_reducible apply CS_region)) | ((with_reducible apply RR_end)) | ((with_reducible apply LR_pure); exact rfl; exact rfl; exact rfl) | ((with_reducible apply LR_len_sl); exact rfl; exact rfl; exact rfl; assumption) | ((with_reducible apply post_seq)) | ((with_reducible apply post_then_exit)) | ((with_reducible apply post_block_eq)) | ((with_reducible apply CS_ret)) | ((with_reducible apply CS_exit)) | ((with_reducible apply CS_cond_d); exact rfl; all_goals intro hb; all_goals try (exfalso; omega))
      apply ret_bool; exact rfl; exact rfl; rw [← hq]; simp; omega
theorem ascends_ok (v : Value) (l : List Int) (w : World) (b : Bool) (hs : Sl w v l) (hB : Asc l ↔ b = true) : Calls Tryz.prog 107 #[v] w (Gives (.bool b) w) := by
  have hlen := hs.len
  simp only [maxLen] at hlen
  refine enter (vs := [v]) Tryz.func107 rfl Tryz.ntmps107 rfl ?_
  repeat' first | ((with_reducible apply CS_seq)) | ((with_reducible apply CS_block)) | ((with_reducible apply CS_region)) | ((with_reducible apply RR_end)) | ((with_reducible apply LR_pure); exact rfl; exact rfl; exact rfl) | ((with_reducible apply post_seq))
  refine CS_loop (ι := Int) (fun i => [(0, v), (3, .int .i64 i)]) (fun _ => Wd w []) (fun i => 1 ≤ i ∧ (i ≤ l.length ∨ i = 1) ∧ ∀ j : Nat, 0 < j → (j : Int) < i → ∀ a b, l[j-1]? = some a → l[j]? = some b → a < b) (fun i => (l.length - i).toNat) 1 ⟨by omega, by omega, fun j h h' => by omega⟩ ⟨rfl, rfl, trivial⟩ (fun _ hw => hw) ?_
  rintro i ⟨h0, h1, h2⟩
  obtain ⟨k, hk⟩ : ∃ k : Nat, i = k := ⟨i.toNat, by omega⟩
  by_cases hi : k < l.length
  · obtain ⟨c, hc⟩ : ∃ c, l[k]? = some c := ⟨_, List.getElem?_eq_getElem hi⟩
    obtain ⟨c', hc'⟩ : ∃ c, l[k-1]? = some c := ⟨_, List.getElem?_eq_getElem (by omega)⟩
    have hbad : ¬ c' < c → false = b := fun h => bfalse hB fun h' => h (h' k (by omega) hi c' c hc' hc)
    have hgo : c' < c → ∀ j : Nat, 0 < j → (j : Int) < i + 1 → ∀ a b, l[j-1]? = some a → l[j]? = some b → a < b := fun h j hj0 hj a b ha hb => by
      by_cases hjk : j = k
      · subst hjk; rw [hc'] at ha; rw [hc] at hb; cases ha; cases hb; exact h
      · exact h2 j hj0 (by omega) a b ha hb
    repeat' first | ((with_reducible apply (LR_index_old (k))); exact rfl; exact rfl; exact rfl; exact rfl; exact hs; omega; exact hc; exact rfl; intro _ _) | ((with_reducible apply (LR_index_old (k-1))); exact rfl; exact rfl; exact rfl; exact rfl; exact hs; omega; exact hc'; exact rfl; intro _ _) | ((with_reducible apply CS_seq)) | ((with_reducible apply CS_block)) | ((with_reducible apply CS_region)) | ((with_reducible apply CS_regionq_wd); kernel_rfl; kernel_rfl) | ((with_reducible apply RR_end)) | ((with_reducible apply LR_pure); exact rfl; exact rfl; exact rfl) | ((with_reducible apply LR_add); exact rfl; exact rfl; exact rfl; exact rfl; omega; omega) | ((with_reducible apply LR_sub); exact rfl; exact rfl; exact rfl; exact rfl; omega; omega) | ((with_reducible apply LR_load_old0); exact rfl; exact rfl; exact rfl; assumption; exact rfl) | ((with_reducible apply LR_len_sl); exact rfl; exact rfl; exact rfl; assumption) | ((with_reducible apply post_seq)) | ((with_reducible apply post_then_ret)) | ((with_reducible apply post_block_n)) | ((with_reducible apply post_block_ret)) | ((with_reducible apply CS_skip)) | ((with_reducible apply CS_ret)) | ((with_reducible apply CS_cond_d); exact rfl; all_goals intro hb; all_goals try (exfalso; omega))
    all_goals first
      | (apply ret_bool; exact rfl; exact rfl; exact hbad (by omega))
      | exact post_round (i := i) (i + 1) ⟨by omega, by omega, hgo (by omega)⟩ (by omega) ⟨rfl, rfl, trivial⟩ (fun _ hw => hw.nil)
  · have hv : Asc l := fun j h0 hj a b ha hb => h2 j h0 (by omega) a b ha hb
    repeat' first | ((with_reducible apply CS_seq)) | ((with_reducible apply CS_region)) | ((with_reducible apply RR_end)) | ((with_reducible apply LR_pure); exact rfl; exact rfl; exact rfl) | ((with_reducible apply LR_len_sl); exact rfl; exact rfl; exact rfl; assumption) | ((with_reducible apply post_seq)) | ((with_reducible apply post_then_exit)) | ((with_reducible apply post_block_eq)) | ((with_reducible apply CS_ret)) | ((with_reducible apply CS_exit)) | ((with_reducible apply CS_cond_d); exact rfl; all_goals intro hb; all_goals try (exfalso; omega))
    apply ret_bool; exact rfl; exact rfl; exact btrue hB hv
theorem allIn_ok (v : Value) (l : List Int) (lo hi' : Int) (w : World) (b : Bool) (hs : Sl w v l) (hB : AllIn l lo hi' ↔ b = true) : Calls Tryz.prog 108 #[v, .int .i64 lo, .int .i64 hi'] w (Gives (.bool b) w) := by
  have hlen := hs.len
  simp only [maxLen] at hlen
  refine enter (vs := [v, .int .i64 lo, .int .i64 hi']) Tryz.func108 rfl Tryz.ntmps108 rfl ?_
  repeat' first | ((with_reducible apply CS_seq)) | ((with_reducible apply CS_block)) | ((with_reducible apply CS_region)) | ((with_reducible apply RR_end)) | ((with_reducible apply LR_pure); exact rfl; exact rfl; exact rfl) | ((with_reducible apply post_seq))
  refine CS_loop (ι := Int) (fun i => [(0, v), (1, .int .i64 lo), (2, .int .i64 hi'), (7, .int .i64 i)]) (fun _ => Wd w []) (fun i => 0 ≤ i ∧ i ≤ l.length ∧ ∀ j : Nat, (j : Int) < i → ∀ a, l[j]? = some a → lo ≤ a ∧ a ≤ hi') (fun i => (l.length - i).toNat) 0 ⟨by omega, by omega, fun j h => by omega⟩ ⟨rfl, rfl, rfl, rfl, trivial⟩ (fun _ hw => hw) ?_
  rintro i ⟨h0, h1, h2⟩
  obtain ⟨k, hk⟩ : ∃ k : Nat, i = k := ⟨i.toNat, by omega⟩
  by_cases hi : k < l.length
  · obtain ⟨c, hc⟩ : ∃ c, l[k]? = some c := ⟨_, List.getElem?_eq_getElem hi⟩
    have hbad : ¬ (lo ≤ c ∧ c ≤ hi') → false = b := fun h => bfalse hB fun h' => h (h' k hi c hc)
    have hgo : (lo ≤ c ∧ c ≤ hi') → ∀ j : Nat, (j : Int) < i + 1 → ∀ a, l[j]? = some a → lo ≤ a ∧ a ≤ hi' := fun h j hj a ha => by
      by_cases hjk : j = k
      · subst hjk; rw [hc] at ha; cases ha; exact h
      · exact h2 j (by omega) a ha
    repeat' first | ((with_reducible apply (LR_call (f := 106))); exact rfl; exact rfl; exact rfl; exact fun w hw => inRange_ok _ _ _ w) | ((with_reducible apply (LR_index_old (k))); exact rfl; exact rfl; exact rfl; exact rfl; exact hs; omega; exact hc; exact rfl; intro _ _) | ((with_reducible apply CS_seq)) | ((with_reducible apply CS_block)) | ((with_reducible apply CS_region)) | ((with_reducible apply RR_end)) | ((with_reducible apply LR_pure); exact rfl; exact rfl; exact rfl) | ((with_reducible apply LR_add); exact rfl; exact rfl; exact rfl; exact rfl; omega; omega) | ((with_reducible apply LR_load_old0); exact rfl; exact rfl; exact rfl; assumption; exact rfl) | ((with_reducible apply LR_len_sl); exact rfl; exact rfl; exact rfl; assumption) | ((with_reducible apply post_seq)) | ((with_reducible apply post_then_ret)) | ((with_reducible apply post_block_n)) | ((with_reducible apply post_block_ret)) | ((with_reducible apply CS_skip)) | ((with_reducible apply CS_ret)) | ((with_reducible apply CS_cond_d); exact rfl; all_goals intro hb; all_goals try (exfalso; omega)) | ((with_reducible apply CS_cond_n); exact rfl; all_goals intro hb; all_goals try (exfalso; omega))
    all_goals (try simp only [wi_true, wi_false] at *)
    all_goals first
      | (apply ret_bool; exact rfl; exact rfl; exact hbad (by omega))
      | exact post_round (i := i) (i + 1) ⟨by omega, by omega, hgo (by omega)⟩ (by omega) ⟨rfl, rfl, rfl, rfl, trivial⟩ (fun _ hw => hw.nil)
  · have hv : AllIn l lo hi' := fun j hj a ha => h2 j (by omega) a ha
    repeat' first | ((with_reducible apply CS_seq)) | ((with_reducible apply CS_region)) | ((with_reducible apply RR_end)) | ((with_reducible apply LR_pure); exact rfl; exact rfl; exact rfl) | ((with_reducible apply LR_len_sl); exact rfl; exact rfl; exact rfl; assumption) | ((with_reducible apply post_seq)) | ((with_reducible apply post_then_exit)) | ((with_reducible apply post_block_eq)) | ((with_reducible apply CS_ret)) | ((with_reducible apply CS_exit)) | ((with_reducible apply CS_cond_d); exact rfl; all_goals intro hb; all_goals try (exfalso; omega))
    apply ret_bool; exact rfl; exact rfl; exact btrue hB hv
theorem validCoupons_ok (v : Value) (l : List Int) (w : World) (b : Bool) (hs : Sl w v l) (hB : CO l ↔ b = true) : Calls Tryz.prog 76 #[v] w (Gives (.bool b) w) := by
  have hlen := hs.len
  simp only [maxLen] at hlen
  obtain ⟨b1, h1⟩ := bex (Asc l)
  obtain ⟨b2, h2⟩ := bex (AllIn l 1 9)
  have hb : b = (decide (l.length ≤ 3) && (b1 && b2)) := by
    have : CO l ↔ (decide (l.length ≤ 3) && (b1 && b2)) = true := by
      unfold CO; rw [h1, h2]; simp
    cases b
    · exact bfalse this (fun h => absurd (hB.1 h) (by simp))
    · exact btrue this (hB.2 rfl)
  by_cases h3 : l.length ≤ 3
  all_goals cases b1
  all_goals cases b2
  all_goals simp [h3] at hb
  all_goals subst hb
  all_goals
    refine enter (vs := [v]) Tryz.func76 rfl Tryz.ntmps76 rfl ?_
    repeat' first | ((with_reducible apply (LR_call (f := 107))); exact rfl; exact rfl; exact rfl; exact fun w hw => ascends_ok v l w _ (hs.mono hw) h1) | ((with_reducible apply (LR_call (f := 108))); exact rfl; exact rfl; exact rfl; exact fun w hw => allIn_ok v l _ _ w _ (hs.mono hw) h2) | ((with_reducible apply CS_seq)) | ((with_reducible apply CS_region)) | ((with_reducible apply RR_end)) | ((with_reducible apply LR_pure); exact rfl; exact rfl; exact rfl) | ((with_reducible apply LR_skip); exact rfl; exact rfl) | ((with_reducible apply LR_len_sl); exact rfl; exact rfl; exact rfl; assumption) | ((with_reducible apply post_seq)) | ((with_reducible apply CS_ret)) | ((with_reducible apply LR_caseg_d); exact rfl; exact rfl; all_goals intro hb; all_goals try (exfalso; omega))
    all_goals first | (exfalso; contradiction) | skip
    all_goals (apply ret_bool; exact rfl; exact rfl; first | rfl | assumption | (symm; assumption))
theorem toIntS_ok (v : Value) (l : List Int) (w : World) (hs : Sl w v l) (hl : l.length ≤ 1048576) : Calls Tryz.prog 32 #[v] w (fun x w' => ∃ g : Nat, True ∧ x = .returned (.slice (some ⟨g, 0, none⟩) l.length l.length) ∧ Wd w [intE g l.length l] w') := by
  refine enter (vs := [v]) Tryz.func32 rfl Tryz.ntmps32 rfl ?_
  repeat' first | ((with_reducible apply (LS_make l.length (0 : Int))); exact rfl; exact rfl; exact rfl; exact rfl; exact rfl; exact rfl; exact rfl; omega; (unfold maxLen; omega); intro g) | ((with_reducible apply CS_seq)) | ((with_reducible apply CS_block)) | ((with_reducible apply CS_region)) | ((with_reducible apply RR_end)) | ((with_reducible apply LR_pure); exact rfl; exact rfl; exact rfl) | ((with_reducible apply LR_len_sl); exact rfl; exact rfl; exact rfl; assumption) | ((with_reducible apply post_seq))
  have hz : (List.replicate l.length (0 : Int)).length = l.length := by simp
  refine CS_loop (ι := Int) (fun i => [(0, v), (3, .slice (some ⟨g, 0, none⟩) l.length l.length), (4, .int .i64 i)]) (fun i => Wd w [intE g l.length (mix l (List.replicate l.length (0 : Int)) i.toNat)]) (fun i => 0 ≤ i ∧ i ≤ l.length) (fun i => (l.length - i).toNat) 0 ⟨by omega, by omega⟩ ⟨rfl, rfl, rfl, trivial⟩ (fun _ hw => by rw [show (0 : Int).toNat = 0 from rfl, mix_zero]; exact hw) ?_
  rintro i ⟨h0, h1⟩
  obtain ⟨k, rfl⟩ : ∃ k : Nat, i = k := ⟨i.toNat, by omega⟩
  simp only [Int.toNat_natCast]
  by_cases hi : k < l.length
  · obtain ⟨c, hc⟩ : ∃ c, l[k]? = some c := ⟨_, List.getElem?_eq_getElem hi⟩
    repeat' first | ((with_reducible apply (LR_index_old (k))); exact rfl; exact rfl; exact rfl; exact rfl; exact hs; omega; exact hc; exact rfl; intro _ _) | ((with_reducible apply (LR_index_own k)); exact rfl; exact rfl; exact rfl; exact rfl; omega; omega) | ((with_reducible apply (LS_store1 0)); exact rfl; exact rfl; exact rfl; exact rfl; exact rfl; exact putF_set (mix l (List.replicate l.length (0 : Int)) k) k c (by rw [mix_len (by simp)]; simpa using hi)) | ((with_reducible apply CS_seq)) | ((with_reducible apply CS_block)) | ((with_reducible apply CS_region)) | ((with_reducible apply RR_end)) | ((with_reducible apply LR_pure); exact rfl; exact rfl; exact rfl) | ((with_reducible apply LR_add); exact rfl; exact rfl; exact rfl; exact rfl; omega; omega) | ((with_reducible apply LR_load_old0); exact rfl; exact rfl; exact rfl; assumption; exact rfl) | ((with_reducible apply LR_len_sl); exact rfl; exact rfl; exact rfl; assumption) | ((with_reducible apply post_seq)) | ((with_reducible apply post_block_n)) | ((with_reducible apply CS_skip)) | ((with_reducible apply CS_cond_d); exact rfl; all_goals intro hb; all_goals try (exfalso; omega))
    refine post_round (i := (k : Int)) ((k : Int) + 1) ⟨by omega, by omega⟩ (by omega) ⟨rfl, rfl, rfl, trivial⟩ (fun _ hw => ?_)
    rw [mix_set (by simp) hc] at hw
    exact hw
  · have he : k = l.length := by omega
    repeat' first | ((with_reducible apply CS_seq)) | ((with_reducible apply CS_region)) | ((with_reducible apply RR_end)) | ((with_reducible apply LR_pure); exact rfl; exact rfl; exact rfl) | ((with_reducible apply LR_len_sl); exact rfl; exact rfl; exact rfl; assumption) | ((with_reducible apply post_seq)) | ((with_reducible apply post_then_exit)) | ((with_reducible apply post_block_eq)) | ((with_reducible apply CS_ret)) | ((with_reducible apply CS_exit)) | ((with_reducible apply CS_cond_d); exact rfl; all_goals intro hb; all_goals try (exfalso; omega))
    apply post_ret1; exact rfl; exact rfl; intro w' hw'; refine ⟨g, trivial, rfl, ?_⟩
    have hf : mix l (List.replicate l.length (0 : Int)) k = l := by rw [he]; have := mix_end (m := l) (l := List.replicate l.length (0 : Int)) (by simp); rwa [hz] at this
    rw [hf] at hw'
    exact hw'
theorem markIntS_ok (w0 : World) (h : List Ent) (w : World) (g c : Nat) (xs : List Int) (k0 : Int) (hw : Wd w0 (intE g c xs :: h) w) (hx : xs.length ≤ 1000000000) (h0 : 0 ≤ k0) (h1 : k0 ≤ 10000000000) (_ : xs.length ≤ c) (_ : c ≤ maxLen) :
    Calls Tryz.prog 40 #[.slice (some ⟨g, 0, none⟩) xs.length c, .int .i64 k0] w
      (fun x w' => ∃ _ : Unit, True ∧ x = .returned (.int .i64 (k0 + xs.length)) ∧ Wd w0 (intE g c (mk1 k0 xs.length) :: h) w') := by
  have hm := mk1_len k0 xs.length
  refine enter_in (vs := [.slice (some ⟨g, 0, none⟩) xs.length c, .int .i64 k0]) hw Tryz.func40 rfl Tryz.ntmps40 rfl ?_
  repeat' first | ((with_reducible apply CS_seq)) | ((with_reducible apply CS_block)) | ((with_reducible apply CS_region)) | ((with_reducible apply RR_end)) | ((with_reducible apply LR_pure); exact rfl; exact rfl; exact rfl) | ((with_reducible apply post_seq))
  refine CS_loop (ι := Int) (fun i => [(0, .slice (some ⟨g, 0, none⟩) xs.length c), (1, .int .i64 (k0 + i)), (5, .int .i64 i)]) (fun i => Wd w0 (intE g c (mix (mk1 k0 xs.length) xs i.toNat) :: h)) (fun i => 0 ≤ i ∧ i ≤ xs.length) (fun i => (xs.length - i).toNat) 0 ⟨by omega, by omega⟩ ⟨rfl, by rw [Int.add_zero]; rfl, rfl, trivial⟩ (fun _ hw => by rw [show (0 : Int).toNat = 0 from rfl, mix_zero]; exact hw) ?_
  rintro i ⟨h0, h1⟩
  obtain ⟨k, rfl⟩ : ∃ k : Nat, i = k := ⟨i.toNat, by omega⟩
  simp only [Int.toNat_natCast]
  by_cases hi : k < xs.length
  · skip
    repeat' first | ((with_reducible apply (LR_index_own k)); exact rfl; exact rfl; exact rfl; exact rfl; omega; omega) | ((with_reducible apply (LS_store1 0)); exact rfl; exact rfl; exact rfl; exact rfl; exact rfl; exact putF_set (mix (mk1 k0 xs.length) xs k) k (k0 + (k : Int)) (by rw [mix_len hm]; exact hi)) | ((with_reducible apply CS_seq)) | ((with_reducible apply CS_block)) | ((with_reducible apply CS_region)) | ((with_reducible apply RR_end)) | ((with_reducible apply LR_pure); exact rfl; exact rfl; exact rfl) | ((with_reducible apply LR_add); exact rfl; exact rfl; exact rfl; exact rfl; omega; omega) | ((with_reducible apply LR_len); exact rfl; exact rfl; exact rfl) | ((with_reducible apply post_seq)) | ((with_reducible apply post_block_n)) | ((with_reducible apply CS_skip)) | ((with_reducible apply CS_cond_d); exact rfl; all_goals intro hb; all_goals try (exfalso; omega))
    refine post_round (i := (k : Int)) ((k : Int) + 1) ⟨by omega, by omega⟩ (by omega) ⟨rfl, by rw [← Int.add_assoc]; rfl, rfl, trivial⟩ (fun _ hw => ?_)
    rw [mix_set hm (mk1_at hi)] at hw
    exact hw
  · have he : k = xs.length := by omega
    repeat' first | ((with_reducible apply CS_seq)) | ((with_reducible apply CS_region)) | ((with_reducible apply RR_end)) | ((with_reducible apply LR_pure); exact rfl; exact rfl; exact rfl) | ((with_reducible apply LR_len); exact rfl; exact rfl; exact rfl) | ((with_reducible apply post_seq)) | ((with_reducible apply post_then_exit)) | ((with_reducible apply post_block_eq)) | ((with_reducible apply CS_ret)) | ((with_reducible apply CS_exit)) | ((with_reducible apply CS_cond_d); exact rfl; all_goals intro hb; all_goals try (exfalso; omega))
    apply post_ret1; exact rfl; exact rfl; intro w' hw'; refine ⟨(), trivial, by rw [he], ?_⟩
    rw [he, mix_end hm] at hw'
    exact hw'
theorem heldIntS_ok (v : Value) (n : Nat) (k0 : Int) (w : World) (hs : Sl w v (mk1 k0 n)) (h0 : 0 ≤ k0) (h1 : k0 ≤ 10000000000) (hn : n ≤ 1000000000) : Calls Tryz.prog 42 #[v, .int .i64 k0] w (Gives (.int .i64 (k0 + n)) w) := by
  have hlen := mk1_len k0 n
  refine enter (vs := [v, .int .i64 k0]) Tryz.func42 rfl Tryz.ntmps42 rfl ?_
  repeat' first | ((with_reducible apply CS_seq)) | ((with_reducible apply CS_block)) | ((with_reducible apply CS_region)) | ((with_reducible apply RR_end)) | ((with_reducible apply LR_pure); exact rfl; exact rfl; exact rfl) | ((with_reducible apply post_seq))
  refine CS_loop (ι := Int) (fun i => [(0, v), (1, .int .i64 (k0 + i)), (5, .int .i64 i)]) (fun _ => Wd w []) (fun i => 0 ≤ i ∧ i ≤ n) (fun i => (n - i).toNat) 0 ⟨by omega, by omega⟩ ⟨rfl, by rw [Int.add_zero]; rfl, rfl, trivial⟩ (fun _ hw => hw) ?_
  rintro i ⟨h0, h1⟩
  obtain ⟨k, rfl⟩ : ∃ k : Nat, i = k := ⟨i.toNat, by omega⟩
  by_cases hi : k < n
  · have hc := mk1_at (k := k0) hi
    repeat' first | ((with_reducible apply (LR_index_old (k))); exact rfl; exact rfl; exact rfl; exact rfl; exact hs; omega; exact hc; exact rfl; intro _ _) | ((with_reducible apply CS_seq)) | ((with_reducible apply CS_block)) | ((with_reducible apply CS_region)) | ((with_reducible apply RR_end)) | ((with_reducible apply LR_pure); exact rfl; exact rfl; exact rfl) | ((with_reducible apply LR_add); exact rfl; exact rfl; exact rfl; exact rfl; omega; omega) | ((with_reducible apply LR_load_old0); exact rfl; exact rfl; exact rfl; assumption; exact rfl) | ((with_reducible apply LR_len_sl); exact rfl; exact rfl; exact rfl; assumption) | ((with_reducible apply post_seq)) | ((with_reducible apply post_block_n)) | ((with_reducible apply CS_skip)) | ((with_reducible apply CS_cond_nd); exact rfl; all_goals intro hb; all_goals try (exfalso; omega)) | ((with_reducible apply CS_cond_d); exact rfl; all_goals intro hb; all_goals try (exfalso; omega))
    all_goals first | (exfalso; contradiction) | (exfalso; omega) | skip
    exact post_round (i := (k : Int)) ((k : Int) + 1) ⟨by omega, by omega⟩ (by omega) ⟨rfl, by rw [← Int.add_assoc]; rfl, rfl, trivial⟩ (fun _ hw => hw.nil)
  · have he : k = n := by omega
    repeat' first | ((with_reducible apply CS_seq)) | ((with_reducible apply CS_region)) | ((with_reducible apply RR_end)) | ((with_reducible apply LR_pure); exact rfl; exact rfl; exact rfl) | ((with_reducible apply LR_len_sl); exact rfl; exact rfl; exact rfl; assumption) | ((with_reducible apply post_seq)) | ((with_reducible apply post_then_exit)) | ((with_reducible apply post_block_eq)) | ((with_reducible apply CS_ret)) | ((with_reducible apply CS_exit)) | ((with_reducible apply CS_cond_d); exact rfl; all_goals intro hb; all_goals try (exfalso; omega))
    apply ret_int; exact rfl; exact rfl; rw [he]
theorem copyInts_ok (v : Value) (l : List Int) (w : World) (hs : Sl w v l) (hl : l.length ≤ 2000000) : Calls Tryz.prog 132 #[v] w
    (fun x w' => ∃ i : Nat × Nat, (l.length ≤ i.2 ∧ i.2 ≤ maxLen) ∧ x = .returned (.slice (some ⟨i.1, 0, none⟩) l.length i.2) ∧ Wd w [intE i.1 i.2 l] w') := by
  have hml : maxLen = 9223372036854775807 := rfl
  refine enter (vs := [v]) Tryz.func132 rfl Tryz.ntmps132 rfl ?_
  repeat' first | ((with_reducible apply (LS_append_sl 0 ([] : List Int) l)); exact rfl; exact rfl; exact rfl; exact rfl; exact rfl; exact rfl; exact rfl; exact rfl; exact rfl; omega; exact fun w hw => hs.mono hw; (simp only [List.length_nil]; omega); (simp only [List.length_nil]; omega); intro g c b1 b2) | ((with_reducible apply CS_seq)) | ((with_reducible apply CS_region)) | ((with_reducible apply RR_end)) | ((with_reducible apply LR_pure); exact rfl; exact rfl; exact rfl) | ((with_reducible apply LS_buildSlice); exact rfl; exact rfl; exact rfl; exact rfl; exact rfl; exact rfl; exact rfl; intro _) | ((with_reducible apply post_seq)) | ((with_reducible apply CS_ret))
  simp only [List.length_nil, Nat.zero_add] at b1
  apply post_ret1; exact rfl; exact rfl; intro w' hw'; exact ⟨(_, _), ⟨b1, b2⟩, rfl, hw'⟩
end Go.Proofs.YtbgfkhliideegaaGreat
