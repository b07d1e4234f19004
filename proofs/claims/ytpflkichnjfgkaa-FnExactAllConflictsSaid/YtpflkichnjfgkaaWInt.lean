/- The walks of small functions on ints and lists of ints. No condition beyond those that each theorem states. -/
import Derived.Test.YtpflkichnjfgkaaPInt
namespace Go.Proofs.Ytpflkichnjfgkaa
open Go.RowKit
theorem within_ok (n a b : Int) (w : World) : Calls Try.prog 64 #[.int .i64 n, .int .i64 a, .int .i64 b] w (Gives (.bool (wi n a b)) w) := by
  refine enter (vs := [.int .i64 n, .int .i64 a, .int .i64 b]) Try.func64 rfl Try.ntmps64 rfl ?_
  repeat' first
    | ((with_reducible apply CS_seq))
    | ((with_reducible apply CS_region))
    | ((with_reducible apply RR_end))
    | ((with_reducible apply LR_pure); exact rfl; exact rfl; exact rfl)
    | ((with_reducible apply LR_skip); exact rfl; exact rfl)
    | ((with_reducible apply post_seq))
    | ((with_reducible apply CS_ret))
    | ((with_reducible apply LR_caseg_d); exact rfl; exact rfl; all_goals intro hb; all_goals try (exfalso; omega))
  all_goals (apply ret_bool; exact rfl; exact rfl; simp [wi, *])
theorem inRange_ok (n a b : Int) (w : World) : Calls Try.prog 79 #[.int .i64 n, .int .i64 a, .int .i64 b] w (Gives (.bool (wi n a b)) w) := by
  refine enter (vs := [.int .i64 n, .int .i64 a, .int .i64 b]) Try.func79 rfl Try.ntmps79 rfl ?_
  repeat' first
    | ((with_reducible apply CS_seq))
    | ((with_reducible apply CS_region))
    | ((with_reducible apply RR_end))
    | ((with_reducible apply LR_pure); exact rfl; exact rfl; exact rfl)
    | ((with_reducible apply LR_skip); exact rfl; exact rfl)
    | ((with_reducible apply post_seq))
    | ((with_reducible apply CS_ret))
    | ((with_reducible apply LR_caseg_d); exact rfl; exact rfl; all_goals intro hb; all_goals try (exfalso; omega))
  all_goals (apply ret_bool; exact rfl; exact rfl; simp [wi, *])
theorem money_ok (n : Int) (w : World) : Calls Try.prog 65 #[.int .i64 n] w (Gives (.bool (wi n 0 1000000)) w) := by
  refine enter (vs := [.int .i64 n]) Try.func65 rfl Try.ntmps65 rfl ?_
  repeat' first
    | ((with_reducible apply (LR_call (f := 64))); exact rfl; exact rfl; exact rfl; exact fun w hw => within_ok _ _ _ w)
    | ((with_reducible apply CS_seq))
    | ((with_reducible apply CS_region))
    | ((with_reducible apply RR_end))
    | ((with_reducible apply LR_pure); exact rfl; exact rfl; exact rfl)
    | ((with_reducible apply post_seq))
    | ((with_reducible apply CS_ret))
  all_goals (apply ret_bool; exact rfl; exact rfl; rfl)
theorem within_b {n lo hi : Int} {b : Bool} (h : wi n lo hi = b) (w : World) : Calls Try.prog 64 #[.int .i64 n, .int .i64 lo, .int .i64 hi] w (Gives (.bool b) w) := h ▸ within_ok n lo hi w
theorem inRange_b {n lo hi : Int} {b : Bool} (h : wi n lo hi = b) (w : World) : Calls Try.prog 79 #[.int .i64 n, .int .i64 lo, .int .i64 hi] w (Gives (.bool b) w) := h ▸ inRange_ok n lo hi w
theorem money_b {n : Int} {b : Bool} (h : wi n 0 1000000 = b) (w : World) : Calls Try.prog 65 #[.int .i64 n] w (Gives (.bool b) w) := h ▸ money_ok n w
theorem isIn_ok (v : Value) (l : List Int) (n : Int) (w : World) (b : Bool) (hs : Sl w v l) (hB : n ∈ l ↔ b = true) : Calls Try.prog 20 #[v, .int .i64 n] w (Gives (.bool b) w) := by
  have hlen := hs.len
  simp only [maxLen] at hlen
  refine enter (vs := [v, .int .i64 n]) Try.func20 rfl Try.ntmps20 rfl ?_
  repeat' first
    | ((with_reducible apply CS_seq))
    | ((with_reducible apply CS_block))
    | ((with_reducible apply CS_region))
    | ((with_reducible apply RR_end))
    | ((with_reducible apply LR_pure); exact rfl; exact rfl; exact rfl)
    | ((with_reducible apply post_seq))
  refine CS_loop (ι := Int) (fun i => [(0, v), (1, .int .i64 n), (5, .int .i64 i)]) (fun _ => Wd w []) (fun i => 0 ≤ i ∧ i ≤ l.length ∧ ∀ j : Nat, (j : Int) < i → l[j]? ≠ some n) (fun i => (l.length - i).toNat) 0 ⟨by omega, by omega, fun j h => by omega⟩ ⟨rfl, rfl, rfl, trivial⟩ (fun _ hw => hw) ?_
  rintro i ⟨h0, h1, h2⟩
  obtain ⟨k, hk⟩ : ∃ k : Nat, i = k := ⟨i.toNat, by omega⟩
  by_cases hi : k < l.length
  · obtain ⟨c, hc⟩ : ∃ c, l[k]? = some c := ⟨_, List.getElem?_eq_getElem hi⟩
    by_cases hcn : c = n
    · subst hcn
      repeat' first
        | ((with_reducible apply (LR_index_old (k))); exact rfl; exact rfl; exact rfl; exact rfl; exact hs; omega; exact hc; exact rfl; intro _ _)
        | ((with_reducible apply CS_seq))
        | ((with_reducible apply CS_block))
        | ((with_reducible apply CS_region))
        | ((with_reducible apply RR_end))
        | ((with_reducible apply LR_pure); exact rfl; exact rfl; exact rfl)
        | ((with_reducible apply LR_load_old0); exact rfl; exact rfl; exact rfl; assumption; exact rfl)
        | ((with_reducible apply LR_len_sl); exact rfl; exact rfl; exact rfl; assumption)
        | ((with_reducible apply post_seq))
        | ((with_reducible apply post_then_ret))
        | ((with_reducible apply post_block_ret))
        | ((with_reducible apply CS_skip))
        | ((with_reducible apply CS_ret))
        | ((with_reducible apply CS_cond_d); exact rfl; all_goals intro hb; all_goals try (exfalso; omega))
      all_goals first | (exfalso; contradiction) | skip
      apply ret_bool; exact rfl; exact rfl; exact btrue hB (List.mem_of_getElem? hc)
    · skip
      repeat' first
        | ((with_reducible apply (LR_index_old (k))); exact rfl; exact rfl; exact rfl; exact rfl; exact hs; omega; exact hc; exact rfl; intro _ _)
        | ((with_reducible apply CS_seq))
        | ((with_reducible apply CS_block))
        | ((with_reducible apply CS_region))
        | ((with_reducible apply RR_end))
        | ((with_reducible apply LR_pure); exact rfl; exact rfl; exact rfl)
        | ((with_reducible apply LR_add); exact rfl; exact rfl; exact rfl; exact rfl; omega; omega)
        | ((with_reducible apply LR_load_old0); exact rfl; exact rfl; exact rfl; assumption; exact rfl)
        | ((with_reducible apply LR_len_sl); exact rfl; exact rfl; exact rfl; assumption)
        | ((with_reducible apply post_seq))
        | ((with_reducible apply post_block_n))
        | ((with_reducible apply CS_skip))
        | ((with_reducible apply CS_cond_d); exact rfl; all_goals intro hb; all_goals try (exfalso; omega))
      all_goals first | (exfalso; contradiction) | skip
      exact post_round (i := i) (i + 1) ⟨by omega, by omega, fun j hj => by
        by_cases hjk : j = k
        · rw [hjk, hc]; intro h; cases h; exact hcn rfl
        · exact h2 j (by omega)⟩ (by omega) ⟨rfl, rfl, rfl, trivial⟩ (fun _ hw => hw.nil)
  · skip
    repeat' first
      | ((with_reducible apply CS_seq))
      | ((with_reducible apply CS_region))
      | ((with_reducible apply RR_end))
      | ((with_reducible apply LR_pure); exact rfl; exact rfl; exact rfl)
      | ((with_reducible apply LR_len_sl); exact rfl; exact rfl; exact rfl; assumption)
      | ((with_reducible apply post_seq))
      | ((with_reducible apply post_then_exit))
      | ((with_reducible apply post_block_eq))
      | ((with_reducible apply CS_ret))
      | ((with_reducible apply CS_exit))
      | ((with_reducible apply CS_cond_d); exact rfl; all_goals intro hb; all_goals try (exfalso; omega))
    apply ret_bool; exact rfl; exact rfl
    exact bfalse hB fun h => by
      obtain ⟨j, hj⟩ := List.mem_iff_getElem?.1 h
      have := (List.getElem?_eq_some_iff.1 hj).1
      exact h2 j (by omega) hj
theorem eqIntS_ok (v v' : Value) (l : List Int) (w : World) (hs : Sl w v l) (hs' : Sl w v' l) : Calls Try.prog 28 #[v, v'] w (Gives (.bool true) w) := by
  have hlen := hs.len
  simp only [maxLen] at hlen
  refine enter (vs := [v, v']) Try.func28 rfl Try.ntmps28 rfl ?_
  repeat' first
    | ((with_reducible apply LR_len_sl); exact rfl; exact rfl; exact rfl; exact hs)
    | ((with_reducible apply LR_len_sl); exact rfl; exact rfl; exact rfl; exact hs')
    | ((with_reducible apply CS_seq))
    | ((with_reducible apply CS_block))
    | ((with_reducible apply CS_region))
    | ((with_reducible apply RR_end))
    | ((with_reducible apply LR_pure); exact rfl; exact rfl; exact rfl)
    | ((with_reducible apply post_seq))
    | ((with_reducible apply CS_skip))
    | ((with_reducible apply CS_cond_nd); exact rfl; all_goals intro hb; all_goals try (exfalso; omega))
  all_goals first | (exfalso; contradiction) | skip
  refine CS_loop (ι := Int) (fun i => [(0, v), (1, v'), (5, .int .i64 i)]) (fun _ => Wd w []) (fun i => 0 ≤ i ∧ i ≤ l.length) (fun i => (l.length - i).toNat) 0 ⟨by omega, by omega⟩ ⟨rfl, rfl, rfl, trivial⟩ (fun _ hw => hw) ?_
  rintro i ⟨h0, h1⟩
  obtain ⟨k, hk⟩ : ∃ k : Nat, i = k := ⟨i.toNat, by omega⟩
  by_cases hi : k < l.length
  · obtain ⟨c, hc⟩ : ∃ c, l[k]? = some c := ⟨_, List.getElem?_eq_getElem hi⟩
    repeat' first
      | ((with_reducible apply (LR_index_old (k))); exact rfl; exact rfl; exact rfl; exact rfl; exact hs; omega; exact hc; exact rfl; intro _ _)
      | ((with_reducible apply (LR_index_old (k))); exact rfl; exact rfl; exact rfl; exact rfl; exact hs'; omega; exact hc; exact rfl; intro _ _)
      | ((with_reducible apply CS_seq))
      | ((with_reducible apply CS_block))
      | ((with_reducible apply CS_region))
      | ((with_reducible apply CS_regionq_wd); kernel_rfl; kernel_rfl)
      | ((with_reducible apply RR_end))
      | ((with_reducible apply LR_pure); exact rfl; exact rfl; exact rfl)
      | ((with_reducible apply LR_add); exact rfl; exact rfl; exact rfl; exact rfl; omega; omega)
      | ((with_reducible apply LR_load_old0); exact rfl; exact rfl; exact rfl; assumption; exact rfl)
      | ((with_reducible apply LR_len_sl); exact rfl; exact rfl; exact rfl; assumption)
      | ((with_reducible apply post_seq))
      | ((with_reducible apply post_block_n))
      | ((with_reducible apply CS_skip))
      | ((with_reducible apply CS_cond_nd); exact rfl; all_goals intro hb; all_goals try (exfalso; omega))
      | ((with_reducible apply CS_cond_d); exact rfl; all_goals intro hb; all_goals try (exfalso; omega))
    all_goals first | (exfalso; contradiction) | skip
    exact post_round (i := i) (i + 1) ⟨by omega, by omega⟩ (by omega) ⟨rfl, rfl, rfl, trivial⟩ (fun _ hw => hw.nil)
  · skip
    repeat' first
      | ((with_reducible apply CS_seq))
      | ((with_reducible apply CS_region))
      | ((with_reducible apply RR_end))
      | ((with_reducible apply LR_pure); exact rfl; exact rfl; exact rfl)
      | ((with_reducible apply LR_len_sl); exact rfl; exact rfl; exact rfl; assumption)
      | ((with_reducible apply post_seq))
      | ((with_reducible apply post_then_exit))
      | ((with_reducible apply post_block_eq))
      | ((with_reducible apply CS_ret))
      | ((with_reducible apply CS_exit))
      | ((with_reducible apply CS_cond_d); exact rfl; all_goals intro hb; all_goals try (exfalso; omega))
    apply ret_bool; exact rfl; exact rfl; rfl
theorem equalInts_ok (v v' : Value) (l : List Int) (w : World) (hs : Sl w v l) (hs' : Sl w v' l) : Calls Try.prog 17 #[v, v'] w (Gives (.bool true) w) := by
  have hlen := hs.len
  simp only [maxLen] at hlen
  refine enter (vs := [v, v']) Try.func17 rfl Try.ntmps17 rfl ?_
  repeat' first
    | ((with_reducible apply LR_len_sl); exact rfl; exact rfl; exact rfl; exact hs)
    | ((with_reducible apply LR_len_sl); exact rfl; exact rfl; exact rfl; exact hs')
    | ((with_reducible apply CS_seq))
    | ((with_reducible apply CS_block))
    | ((with_reducible apply CS_region))
    | ((with_reducible apply RR_end))
    | ((with_reducible apply LR_pure); exact rfl; exact rfl; exact rfl)
    | ((with_reducible apply post_seq))
    | ((with_reducible apply CS_skip))
    | ((with_reducible apply CS_cond_nd); exact rfl; all_goals intro hb; all_goals try (exfalso; omega))
  all_goals first | (exfalso; contradiction) | skip
  refine CS_loop (ι := Int) (fun i => [(0, v), (1, v'), (5, .int .i64 i)]) (fun _ => Wd w []) (fun i => 0 ≤ i ∧ i ≤ l.length) (fun i => (l.length - i).toNat) 0 ⟨by omega, by omega⟩ ⟨rfl, rfl, rfl, trivial⟩ (fun _ hw => hw) ?_
  rintro i ⟨h0, h1⟩
  obtain ⟨k, hk⟩ : ∃ k : Nat, i = k := ⟨i.toNat, by omega⟩
  by_cases hi : k < l.length
  · obtain ⟨c, hc⟩ : ∃ c, l[k]? = some c := ⟨_, List.getElem?_eq_getElem hi⟩
    repeat' first
      | ((with_reducible apply (LR_index_old (k))); exact rfl; exact rfl; exact rfl; exact rfl; exact hs; omega; exact hc; exact rfl; intro _ _)
      | ((with_reducible apply (LR_index_old (k))); exact rfl; exact rfl; exact rfl; exact rfl; exact hs'; omega; exact hc; exact rfl; intro _ _)
      | ((with_reducible apply CS_seq))
      | ((with_reducible apply CS_block))
      | ((with_reducible apply CS_region))
      | ((with_reducible apply CS_regionq_wd); kernel_rfl; kernel_rfl)
      | ((with_reducible apply RR_end))
      | ((with_reducible apply LR_pure); exact rfl; exact rfl; exact rfl)
      | ((with_reducible apply LR_add); exact rfl; exact rfl; exact rfl; exact rfl; omega; omega)
      | ((with_reducible apply LR_load_old0); exact rfl; exact rfl; exact rfl; assumption; exact rfl)
      | ((with_reducible apply LR_len_sl); exact rfl; exact rfl; exact rfl; assumption)
      | ((with_reducible apply post_seq))
      | ((with_reducible apply post_block_n))
      | ((with_reducible apply CS_skip))
      | ((with_reducible apply CS_cond_nd); exact rfl; all_goals intro hb; all_goals try (exfalso; omega))
      | ((with_reducible apply CS_cond_d); exact rfl; all_goals intro hb; all_goals try (exfalso; omega))
    all_goals first | (exfalso; contradiction) | skip
    exact post_round (i := i) (i + 1) ⟨by omega, by omega⟩ (by omega) ⟨rfl, rfl, rfl, trivial⟩ (fun _ hw => hw.nil)
  · skip
    repeat' first
      | ((with_reducible apply CS_seq))
      | ((with_reducible apply CS_region))
      | ((with_reducible apply RR_end))
      | ((with_reducible apply LR_pure); exact rfl; exact rfl; exact rfl)
      | ((with_reducible apply LR_len_sl); exact rfl; exact rfl; exact rfl; assumption)
      | ((with_reducible apply post_seq))
      | ((with_reducible apply post_then_exit))
      | ((with_reducible apply post_block_eq))
      | ((with_reducible apply CS_ret))
      | ((with_reducible apply CS_exit))
      | ((with_reducible apply CS_cond_d); exact rfl; all_goals intro hb; all_goals try (exfalso; omega))
    apply ret_bool; exact rfl; exact rfl; rfl
theorem markIntS_ok (w0 : World) (h : List Ent) (w : World) (g c : Nat) (xs : List Int) (k0 : Int) (hw : Wd w0 (intE g c xs :: h) w) (hx : xs.length ≤ 1000000000) (h0 : 0 ≤ k0) (h1 : k0 ≤ 10000000000) (_ : xs.length ≤ c) (_ : c ≤ maxLen) :
    Calls Try.prog 30 #[.slice (some ⟨g, 0, none⟩) xs.length c, .int .i64 k0] w
      (fun x w' => ∃ _ : Unit, True ∧ x = .returned (.int .i64 (k0 + xs.length)) ∧ Wd w0 (intE g c (mk1 k0 xs.length) :: h) w') := by
  have hm := mk1_len k0 xs.length
  refine enter_in (vs := [.slice (some ⟨g, 0, none⟩) xs.length c, .int .i64 k0]) hw Try.func30 rfl Try.ntmps30 rfl ?_
  repeat' first
    | ((with_reducible apply CS_seq))
    | ((with_reducible apply CS_block))
    | ((with_reducible apply CS_region))
    | ((with_reducible apply RR_end))
    | ((with_reducible apply LR_pure); exact rfl; exact rfl; exact rfl)
    | ((with_reducible apply post_seq))
  refine CS_loop (ι := Int) (fun i => [(0, .slice (some ⟨g, 0, none⟩) xs.length c), (1, .int .i64 (k0 + i)), (5, .int .i64 i)]) (fun i => Wd w0 (intE g c (mix (mk1 k0 xs.length) xs i.toNat) :: h)) (fun i => 0 ≤ i ∧ i ≤ xs.length) (fun i => (xs.length - i).toNat) 0 ⟨by omega, by omega⟩ ⟨rfl, by rw [Int.add_zero]; rfl, rfl, trivial⟩ (fun _ hw => by rw [show (0 : Int).toNat = 0 from rfl, mix_zero]; exact hw) ?_
  rintro i ⟨h0, h1⟩
  obtain ⟨k, rfl⟩ : ∃ k : Nat, i = k := ⟨i.toNat, by omega⟩
  simp only [Int.toNat_natCast]
  by_cases hi : k < xs.length
  · skip
    repeat' first
      | ((with_reducible apply (LR_index_own k)); exact rfl; exact rfl; exact rfl; exact rfl; omega; omega)
      | ((with_reducible apply (LS_store1 0)); exact rfl; exact rfl; exact rfl; exact rfl; exact rfl; exact putF_set (mix (mk1 k0 xs.length) xs k) k (k0 + (k : Int)) (by rw [mix_len hm]; exact hi))
      | ((with_reducible apply CS_seq))
      | ((with_reducible apply CS_block))
      | ((with_reducible apply CS_region))
      | ((with_reducible apply RR_end))
      | ((with_reducible apply LR_pure); exact rfl; exact rfl; exact rfl)
      | ((with_reducible apply LR_add); exact rfl; exact rfl; exact rfl; exact rfl; omega; omega)
      | ((with_reducible apply LR_len); exact rfl; exact rfl; exact rfl)
      | ((with_reducible apply post_seq))
      | ((with_reducible apply post_block_n))
      | ((with_reducible apply CS_skip))
      | ((with_reducible apply CS_cond_d); exact rfl; all_goals intro hb; all_goals try (exfalso; omega))
    refine post_round (i := (k : Int)) ((k : Int) + 1) ⟨by omega, by omega⟩ (by omega) ⟨rfl, by rw [← Int.add_assoc]; rfl, rfl, trivial⟩ (fun _ hw => ?_)
    rw [mix_set hm (mk1_at hi)] at hw
    exact hw
  · have he : k = xs.length := by omega
    repeat' first
      | ((with_reducible apply CS_seq))
      | ((with_reducible apply CS_region))
      | ((with_reducible apply RR_end))
      | ((with_reducible apply LR_pure); exact rfl; exact rfl; exact rfl)
      | ((with_reducible apply LR_len); exact rfl; exact rfl; exact rfl)
      | ((with_reducible apply post_seq))
      | ((with_reducible apply post_then_exit))
      | ((with_reducible apply post_block_eq))
      | ((with_reducible apply CS_ret))
      | ((with_reducible apply CS_exit))
      | ((with_reducible apply CS_cond_d); exact rfl; all_goals intro hb; all_goals try (exfalso; omega))
    apply post_ret1; exact rfl; exact rfl; intro w' hw'; refine ⟨(), trivial, by rw [he], ?_⟩
    rw [he, mix_end hm] at hw'
    exact hw'
theorem heldIntS_ok (v : Value) (n : Nat) (k0 : Int) (w : World) (hs : Sl w v (mk1 k0 n)) (h0 : 0 ≤ k0) (h1 : k0 ≤ 10000000000) (hn : n ≤ 1000000000) : Calls Try.prog 31 #[v, .int .i64 k0] w (Gives (.int .i64 (k0 + n)) w) := by
  have hlen := mk1_len k0 n
  refine enter (vs := [v, .int .i64 k0]) Try.func31 rfl Try.ntmps31 rfl ?_
  repeat' first
    | ((with_reducible apply CS_seq))
    | ((with_reducible apply CS_block))
    | ((with_reducible apply CS_region))
    | ((with_reducible apply RR_end))
    | ((with_reducible apply LR_pure); exact rfl; exact rfl; exact rfl)
    | ((with_reducible apply post_seq))
  refine CS_loop (ι := Int) (fun i => [(0, v), (1, .int .i64 (k0 + i)), (5, .int .i64 i)]) (fun _ => Wd w []) (fun i => 0 ≤ i ∧ i ≤ n) (fun i => (n - i).toNat) 0 ⟨by omega, by omega⟩ ⟨rfl, by rw [Int.add_zero]; rfl, rfl, trivial⟩ (fun _ hw => hw) ?_
  rintro i ⟨h0, h1⟩
  obtain ⟨k, rfl⟩ : ∃ k : Nat, i = k := ⟨i.toNat, by omega⟩
  by_cases hi : k < n
  · have hc := mk1_at (k := k0) hi
    repeat' first
      | ((with_reducible apply (LR_index_old (k))); exact rfl; exact rfl; exact rfl; exact rfl; exact hs; omega; exact hc; exact rfl; intro _ _)
      | ((with_reducible apply CS_seq))
      | ((with_reducible apply CS_block))
      | ((with_reducible apply CS_region))
      | ((with_reducible apply RR_end))
      | ((with_reducible apply LR_pure); exact rfl; exact rfl; exact rfl)
      | ((with_reducible apply LR_add); exact rfl; exact rfl; exact rfl; exact rfl; omega; omega)
      | ((with_reducible apply LR_load_old0); exact rfl; exact rfl; exact rfl; assumption; exact rfl)
      | ((with_reducible apply LR_len_sl); exact rfl; exact rfl; exact rfl; assumption)
      | ((with_reducible apply post_seq))
      | ((with_reducible apply post_block_n))
      | ((with_reducible apply CS_skip))
      | ((with_reducible apply CS_cond_nd); exact rfl; all_goals intro hb; all_goals try (exfalso; omega))
      | ((with_reducible apply CS_cond_d); exact rfl; all_goals intro hb; all_goals try (exfalso; omega))
    all_goals first | (exfalso; contradiction) | (exfalso; omega) | skip
    exact post_round (i := (k : Int)) ((k : Int) + 1) ⟨by omega, by omega⟩ (by omega) ⟨rfl, by rw [← Int.add_assoc]; rfl, rfl, trivial⟩ (fun _ hw => hw.nil)
  · have he : k = n := by omega
    repeat' first
      | ((with_reducible apply CS_seq))
      | ((with_reducible apply CS_region))
      | ((with_reducible apply RR_end))
      | ((with_reducible apply LR_pure); exact rfl; exact rfl; exact rfl)
      | ((with_reducible apply LR_len_sl); exact rfl; exact rfl; exact rfl; assumption)
      | ((with_reducible apply post_seq))
      | ((with_reducible apply post_then_exit))
      | ((with_reducible apply post_block_eq))
      | ((with_reducible apply CS_ret))
      | ((with_reducible apply CS_exit))
      | ((with_reducible apply CS_cond_d); exact rfl; all_goals intro hb; all_goals try (exfalso; omega))
    apply ret_int; exact rfl; exact rfl; rw [he]
end Go.Proofs.Ytpflkichnjfgkaa
