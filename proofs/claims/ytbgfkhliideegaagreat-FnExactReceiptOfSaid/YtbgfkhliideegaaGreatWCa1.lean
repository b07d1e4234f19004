/- The walks of sums and of the checks of shops and carts. No condition beyond those that each theorem states. -/
import Derived.Test.YtbgfkhliideegaaGreatPCa
import Derived.Test.YtbgfkhliideegaaGreatPRu
import Derived.Test.YtbgfkhliideegaaGreatWInt
import Derived.Test.YtbgfkhliideegaaGreatReg
namespace Go.Proofs.YtbgfkhliideegaaGreat
open Go.RowKit
attribute [local irreducible] Calls
theorem itotal_ok (v : Value) (l : List Int) (w : World) (hs : Sl w v l) (hb : ∀ x ∈ l, -1000000000 ≤ x ∧ x ≤ 1000000000) (hl : l.length ≤ 1000) : Calls Tryz.prog 65 #[v] w (Gives (.int .i64 l.sum) w) := by
  refine enter (vs := [v]) Tryz.func65 rfl Tryz.ntmps65 rfl ?_
  repeat' first | ((with_reducible apply CS_seq)) | ((with_reducible apply CS_block)) | ((with_reducible apply CS_region)) | ((with_reducible apply RR_end)) | ((with_reducible apply LR_pure); exact rfl; exact rfl; exact rfl) | ((with_reducible apply LR_len_sl); exact rfl; exact rfl; exact rfl; assumption) | ((with_reducible apply post_seq))
  refine CS_loop (ι := Nat) (fun i => [(3, .int .i64 (l.take i).sum), (6, v), (7, .int .i64 l.length), (8, .int .i64 (i : Int))]) (fun _ => Wd w []) (fun i => i ≤ l.length) (fun i => l.length - i) 0 (by omega) ⟨rfl, rfl, rfl, rfl, trivial⟩ (fun _ hw => hw) ?_
  rintro k h1
  by_cases hi : k < l.length
  · obtain ⟨x, hx⟩ : ∃ c, l[k]? = some c := ⟨_, List.getElem?_eq_getElem hi⟩
    have b1 := sum_take_bd hb k
    have b2 := hb x (List.mem_of_getElem? hx)
    have b3 : (l.take k).length ≤ 1000 := by simp; omega
    repeat' first | ((with_reducible apply (LR_index_old (k))); exact rfl; exact rfl; exact rfl; exact rfl; exact hs; omega; exact hx; exact rfl; intro _ _) | ((with_reducible apply CS_seq)) | ((with_reducible apply CS_block)) | ((with_reducible apply CS_region)) | ((with_reducible apply RR_end)) | ((with_reducible apply LR_pure); exact rfl; exact rfl; exact rfl) | ((with_reducible apply LR_add); exact rfl; exact rfl; exact rfl; exact rfl; omega; omega) | ((with_reducible apply LR_load_old0); exact rfl; exact rfl; exact rfl; assumption; exact rfl) | ((with_reducible apply post_seq)) | ((with_reducible apply post_block_n)) | ((with_reducible apply CS_skip)) | ((with_reducible apply CS_cond_d); exact rfl; all_goals intro hb; all_goals try (exfalso; omega))
    exact post_round (i := k) (k + 1) (by omega) (by omega) ⟨by rw [sum_take hx]; rfl, rfl, rfl, rfl, trivial⟩ (fun _ hw => hw.nil)
  · have hk : k = l.length := by omega
    subst hk
    repeat' first | ((with_reducible apply CS_seq)) | ((with_reducible apply CS_region)) | ((with_reducible apply RR_end)) | ((with_reducible apply LR_pure); exact rfl; exact rfl; exact rfl) | ((with_reducible apply post_seq)) | ((with_reducible apply post_then_exit)) | ((with_reducible apply post_block_eq)) | ((with_reducible apply CS_ret)) | ((with_reducible apply CS_exit)) | ((with_reducible apply CS_cond_d); exact rfl; all_goals intro hb; all_goals try (exfalso; omega))
    apply ret_int; exact rfl; exact rfl; rw [List.take_length]
theorem ssum_ok (v : Value) (l : List Int) (w : World) (hs : Sl w v l) (hb : ∀ x ∈ l, -1000000000 ≤ x ∧ x ≤ 1000000000) (hl : l.length ≤ 1000) : Calls Tryz.prog 85 #[v] w (Gives (.int .i64 l.sum) w) := by
  refine enter (vs := [v]) Tryz.func85 rfl Tryz.ntmps85 rfl ?_
  repeat' first | ((with_reducible apply CS_seq)) | ((with_reducible apply CS_block)) | ((with_reducible apply CS_region)) | ((with_reducible apply RR_end)) | ((with_reducible apply LR_pure); exact rfl; exact rfl; exact rfl) | ((with_reducible apply post_seq))
  refine CS_loop (ι := Nat) (fun i => [(0, v), (3, .int .i64 (l.take i).sum), (4, .int .i64 (i : Int))]) (fun _ => Wd w []) (fun i => i ≤ l.length) (fun i => l.length - i) 0 (by omega) ⟨rfl, rfl, rfl, trivial⟩ (fun _ hw => hw) ?_
  rintro k h1
  by_cases hi : k < l.length
  · obtain ⟨x, hx⟩ : ∃ c, l[k]? = some c := ⟨_, List.getElem?_eq_getElem hi⟩
    have b1 := sum_take_bd hb k
    have b2 := hb x (List.mem_of_getElem? hx)
    have b3 : (l.take k).length ≤ 1000 := by simp; omega
    repeat' first | ((with_reducible apply (LR_index_old (k))); exact rfl; exact rfl; exact rfl; exact rfl; exact hs; omega; exact hx; exact rfl; intro _ _) | ((with_reducible apply CS_seq)) | ((with_reducible apply CS_block)) | ((with_reducible apply CS_region)) | ((with_reducible apply RR_end)) | ((with_reducible apply LR_pure); exact rfl; exact rfl; exact rfl) | ((with_reducible apply LR_add); exact rfl; exact rfl; exact rfl; exact rfl; omega; omega) | ((with_reducible apply LR_load_old0); exact rfl; exact rfl; exact rfl; assumption; exact rfl) | ((with_reducible apply LR_len_sl); exact rfl; exact rfl; exact rfl; assumption) | ((with_reducible apply post_seq)) | ((with_reducible apply post_block_n)) | ((with_reducible apply CS_skip)) | ((with_reducible apply CS_cond_d); exact rfl; all_goals intro hb; all_goals try (exfalso; omega))
    exact post_round (i := k) (k + 1) (by omega) (by omega) ⟨rfl, by rw [sum_take hx]; rfl, rfl, trivial⟩ (fun _ hw => hw.nil)
  · have hk : k = l.length := by omega
    subst hk
    repeat' first | ((with_reducible apply CS_seq)) | ((with_reducible apply CS_region)) | ((with_reducible apply RR_end)) | ((with_reducible apply LR_pure); exact rfl; exact rfl; exact rfl) | ((with_reducible apply LR_len_sl); exact rfl; exact rfl; exact rfl; assumption) | ((with_reducible apply post_seq)) | ((with_reducible apply post_then_exit)) | ((with_reducible apply post_block_eq)) | ((with_reducible apply CS_ret)) | ((with_reducible apply CS_exit)) | ((with_reducible apply CS_cond_d); exact rfl; all_goals intro hb; all_goals try (exfalso; omega))
    apply ret_int; exact rfl; exact rfl; rw [List.take_length]
theorem lsum_ok (v : Value) (l : List Int) (w : World) (hs : Sl w v l) (hb : ∀ x ∈ l, -1000000000 ≤ x ∧ x ≤ 1000000000) (hl : l.length ≤ 1000) : Calls Tryz.prog 53 #[v] w (Gives (.int .i64 l.sum) w) := by
  refine enter (vs := [v]) Tryz.func53 rfl Tryz.ntmps53 rfl ?_
  repeat' first | ((with_reducible apply CS_seq)) | ((with_reducible apply CS_block)) | ((with_reducible apply CS_region)) | ((with_reducible apply RR_end)) | ((with_reducible apply LR_pure); exact rfl; exact rfl; exact rfl) | ((with_reducible apply post_seq))
  refine CS_loop (ι := Nat) (fun i => [(0, v), (3, .int .i64 (l.take i).sum), (4, .int .i64 (i : Int))]) (fun _ => Wd w []) (fun i => i ≤ l.length) (fun i => l.length - i) 0 (by omega) ⟨rfl, rfl, rfl, trivial⟩ (fun _ hw => hw) ?_
  rintro k h1
  by_cases hi : k < l.length
  · obtain ⟨x, hx⟩ : ∃ c, l[k]? = some c := ⟨_, List.getElem?_eq_getElem hi⟩
    have b1 := sum_take_bd hb k
    have b2 := hb x (List.mem_of_getElem? hx)
    have b3 : (l.take k).length ≤ 1000 := by simp; omega
    repeat' first | ((with_reducible apply (LR_index_old (k))); exact rfl; exact rfl; exact rfl; exact rfl; exact hs; omega; exact hx; exact rfl; intro _ _) | ((with_reducible apply CS_seq)) | ((with_reducible apply CS_block)) | ((with_reducible apply CS_region)) | ((with_reducible apply RR_end)) | ((with_reducible apply LR_pure); exact rfl; exact rfl; exact rfl) | ((with_reducible apply LR_add); exact rfl; exact rfl; exact rfl; exact rfl; omega; omega) | ((with_reducible apply LR_load_old0); exact rfl; exact rfl; exact rfl; assumption; exact rfl) | ((with_reducible apply LR_len_sl); exact rfl; exact rfl; exact rfl; assumption) | ((with_reducible apply post_seq)) | ((with_reducible apply post_block_n)) | ((with_reducible apply CS_skip)) | ((with_reducible apply CS_cond_d); exact rfl; all_goals intro hb; all_goals try (exfalso; omega))
    exact post_round (i := k) (k + 1) (by omega) (by omega) ⟨rfl, by rw [sum_take hx]; rfl, rfl, trivial⟩ (fun _ hw => hw.nil)
  · have hk : k = l.length := by omega
    subst hk
    repeat' first | ((with_reducible apply CS_seq)) | ((with_reducible apply CS_region)) | ((with_reducible apply RR_end)) | ((with_reducible apply LR_pure); exact rfl; exact rfl; exact rfl) | ((with_reducible apply LR_len_sl); exact rfl; exact rfl; exact rfl; assumption) | ((with_reducible apply post_seq)) | ((with_reducible apply post_then_exit)) | ((with_reducible apply post_block_eq)) | ((with_reducible apply CS_ret)) | ((with_reducible apply CS_exit)) | ((with_reducible apply CS_cond_d); exact rfl; all_goals intro hb; all_goals try (exfalso; omega))
    apply ret_int; exact rfl; exact rfl; rw [List.take_length]
theorem shop_next {s : List Ar} {k : Nat} {a : Ar} (h : ∀ j : Nat, j < k → ∀ a, s[j]? = some a → arOk a) (ha : s[k]? = some a) (hok : arOk a) : ∀ j : Nat, j < k + 1 → ∀ a, s[j]? = some a → arOk a := fun j hj x hx => by
  by_cases hjk : j = k
  · subst hjk; rw [ha] at hx; cases hx; exact hok
  · exact h j (by omega) x hx
theorem iValidShop_ok (v : Value) (s : List Ar) (w : World) (b : Bool) (hs : Sl w v s) (hB : VShop s ↔ b = true) : Calls Tryz.prog 124 #[v] w (Gives (.bool b) w) := by
  have hlen := hs.len
  simp only [maxLen] at hlen
  unfold VShop at hB
  refine enter (vs := [v]) Tryz.func124 rfl Tryz.ntmps124 rfl ?_
  repeat' first | ((with_reducible apply CS_seq)) | ((with_reducible apply CS_block)) | ((with_reducible apply CS_region)) | ((with_reducible apply RR_end)) | ((with_reducible apply LR_pure); exact rfl; exact rfl; exact rfl) | ((with_reducible apply LR_len_sl); exact rfl; exact rfl; exact rfl; assumption) | ((with_reducible apply post_seq))
  refine CS_loop (ι := Nat) (fun i => [(0, v), (5, v), (6, .int .i64 s.length), (7, .int .i64 (i : Int))]) (fun _ => Wd w []) (fun i => i ≤ s.length ∧ ∀ j : Nat, j < i → ∀ a, s[j]? = some a → arOk a) (fun i => s.length - i) 0 ⟨by omega, fun j h => by omega⟩ ⟨rfl, rfl, rfl, rfl, trivial⟩ (fun _ hw => hw) ?_
  rintro k ⟨h1, h2⟩
  by_cases hi : k < s.length
  · obtain ⟨a, ha⟩ : ∃ c, s[k]? = some c := ⟨_, List.getElem?_eq_getElem hi⟩
    have hbad : ¬ arOk a → false = b := fun h => bfalse hB fun h' => h (h'.2 k hi a ha)
    have hgo := fun h => shop_next h2 ha h
    unfold arOk at hbad hgo
    repeat' first | ((with_reducible apply (LR_index_old (k))); exact rfl; exact rfl; exact rfl; exact rfl; exact hs; omega; exact ha; exact rfl; intro _ _) | ((with_reducible apply (LR_call (f := 126))); exact rfl; exact rfl; exact rfl; exact fun w hw => within_ok _ _ _ w) | ((with_reducible apply CS_seq)) | ((with_reducible apply CS_block)) | ((with_reducible apply CS_region)) | ((with_reducible apply RR_end)) | ((with_reducible apply LR_pure); exact rfl; exact rfl; exact rfl) | ((with_reducible apply LR_skip); exact rfl; exact rfl) | ((with_reducible apply LR_add); exact rfl; exact rfl; exact rfl; exact rfl; omega; omega) | ((with_reducible apply LR_field_own); exact rfl; exact rfl; exact rfl) | ((with_reducible apply LR_load_own 0); exact rfl; exact rfl; exact rfl; exact rfl; exact rfl) | ((with_reducible apply LR_load_old_agg); exact rfl; exact rfl; exact rfl; assumption; exact rfl) | ((with_reducible apply LS_alloc); exact rfl; exact rfl; exact rfl; intro _) | ((with_reducible apply LS_store_agg 0); exact rfl; exact rfl; exact rfl; exact rfl; exact rfl; exact rfl; exact rfl; exact rfl) | ((with_reducible apply post_seq)) | ((with_reducible apply post_then_ret)) | ((with_reducible apply post_block_n)) | ((with_reducible apply post_block_ret)) | ((with_reducible apply CS_skip)) | ((with_reducible apply CS_ret)) | ((with_reducible apply CS_cond_t); exact rfl) | ((with_reducible apply CS_cond_d); exact rfl; all_goals intro hb; all_goals try (exfalso; omega)) | ((with_reducible apply CS_cond_n); exact rfl; all_goals intro hb; all_goals try (exfalso; omega)) | ((with_reducible apply LR_caseg_n); exact rfl; exact rfl; all_goals intro hb; all_goals try (exfalso; omega))
    all_goals (try simp only [wi_true, wi_false] at *)
    all_goals first
      | (apply ret_bool; exact rfl; exact rfl; exact hbad (by omega))
      | exact post_round (i := k) (k + 1) ⟨by omega, hgo (by omega)⟩ (by omega) ⟨rfl, rfl, rfl, rfl, trivial⟩ (fun _ hw => hw.nil)
  · have hall : ∀ j, j < s.length → ∀ a, s[j]? = some a → arOk a := fun j hj => h2 j (by omega)
    repeat' first | ((with_reducible apply (LR_call (f := 126))); exact rfl; exact rfl; exact rfl; exact fun w hw => within_b (b := b) (wi_of (by rw [← hB]; constructor <;> intro h <;> first | exact ⟨by omega, hall⟩ | omega)) w) | ((with_reducible apply CS_seq)) | ((with_reducible apply CS_region)) | ((with_reducible apply RR_end)) | ((with_reducible apply LR_pure); exact rfl; exact rfl; exact rfl) | ((with_reducible apply LR_len_sl); exact rfl; exact rfl; exact rfl; assumption) | ((with_reducible apply post_seq)) | ((with_reducible apply post_then_exit)) | ((with_reducible apply post_block_eq)) | ((with_reducible apply CS_ret)) | ((with_reducible apply CS_exit)) | ((with_reducible apply CS_cond_d); exact rfl; all_goals intro hb; all_goals try (exfalso; omega))
    apply ret_bool; exact rfl; exact rfl; rfl
theorem svalidShop_ok (v : Value) (s : List Ar) (w : World) (b : Bool) (hs : Sl w v s) (hB : VShop s ↔ b = true) : Calls Tryz.prog 74 #[v] w (Gives (.bool b) w) := by
  have hlen := hs.len
  simp only [maxLen] at hlen
  unfold VShop at hB
  refine enter (vs := [v]) Tryz.func74 rfl Tryz.ntmps74 rfl ?_
  repeat' first | ((with_reducible apply CS_seq)) | ((with_reducible apply CS_block)) | ((with_reducible apply CS_region)) | ((with_reducible apply RR_end)) | ((with_reducible apply LR_pure); exact rfl; exact rfl; exact rfl) | ((with_reducible apply post_seq))
  refine CS_loop (ι := Nat) (fun i => [(0, v), (3, .int .i64 (i : Int))]) (fun _ => Wd w []) (fun i => i ≤ s.length ∧ ∀ j : Nat, j < i → ∀ a, s[j]? = some a → arOk a) (fun i => s.length - i) 0 ⟨by omega, fun j h => by omega⟩ ⟨rfl, rfl, trivial⟩ (fun _ hw => hw) ?_
  rintro k ⟨h1, h2⟩
  by_cases hi : k < s.length
  · obtain ⟨a, ha⟩ : ∃ c, s[k]? = some c := ⟨_, List.getElem?_eq_getElem hi⟩
    have hbad : ¬ arOk a → false = b := fun h => bfalse hB fun h' => h (h'.2 k hi a ha)
    have hgo := fun h => shop_next h2 ha h
    unfold arOk at hbad hgo
    repeat' first | ((with_reducible apply (LR_index_old (k))); exact rfl; exact rfl; exact rfl; exact rfl; exact hs; omega; exact ha; exact rfl; intro _ _) | ((with_reducible apply (LR_call (f := 106))); exact rfl; exact rfl; exact rfl; exact fun w hw => inRange_ok _ _ _ w) | ((with_reducible apply CS_seq)) | ((with_reducible apply CS_block)) | ((with_reducible apply CS_region)) | ((with_reducible apply RR_end)) | ((with_reducible apply LR_pure); exact rfl; exact rfl; exact rfl) | ((with_reducible apply LR_skip); exact rfl; exact rfl) | ((with_reducible apply LR_add); exact rfl; exact rfl; exact rfl; exact rfl; omega; omega) | ((with_reducible apply LR_field_own); exact rfl; exact rfl; exact rfl) | ((with_reducible apply LR_load_own 0); exact rfl; exact rfl; exact rfl; exact rfl; exact rfl) | ((with_reducible apply LR_load_old_agg); exact rfl; exact rfl; exact rfl; assumption; exact rfl) | ((with_reducible apply LR_len_sl); exact rfl; exact rfl; exact rfl; assumption) | ((with_reducible apply LS_alloc); exact rfl; exact rfl; exact rfl; intro _) | ((with_reducible apply LS_store_agg 0); exact rfl; exact rfl; exact rfl; exact rfl; exact rfl; exact rfl; exact rfl; exact rfl) | ((with_reducible apply post_seq)) | ((with_reducible apply post_then_ret)) | ((with_reducible apply post_block_n)) | ((with_reducible apply post_block_ret)) | ((with_reducible apply CS_skip)) | ((with_reducible apply CS_ret)) | ((with_reducible apply CS_cond_t); exact rfl) | ((with_reducible apply CS_cond_d); exact rfl; all_goals intro hb; all_goals try (exfalso; omega)) | ((with_reducible apply CS_cond_n); exact rfl; all_goals intro hb; all_goals try (exfalso; omega)) | ((with_reducible apply LR_caseg_n); exact rfl; exact rfl; all_goals intro hb; all_goals try (exfalso; omega))
    all_goals (try simp only [wi_true, wi_false] at *)
    all_goals first
      | (apply ret_bool; exact rfl; exact rfl; exact hbad (by omega))
      | exact post_round (i := k) (k + 1) ⟨by omega, hgo (by omega)⟩ (by omega) ⟨rfl, rfl, trivial⟩ (fun _ hw => hw.nil)
  · have hall : ∀ j, j < s.length → ∀ a, s[j]? = some a → arOk a := fun j hj => h2 j (by omega)
    repeat' first | ((with_reducible apply (LR_call (f := 106))); exact rfl; exact rfl; exact rfl; exact fun w hw => inRange_b (b := b) (wi_of (by rw [← hB]; constructor <;> intro h <;> first | exact ⟨by omega, hall⟩ | omega)) w) | ((with_reducible apply CS_seq)) | ((with_reducible apply CS_region)) | ((with_reducible apply RR_end)) | ((with_reducible apply LR_pure); exact rfl; exact rfl; exact rfl) | ((with_reducible apply LR_len_sl); exact rfl; exact rfl; exact rfl; assumption) | ((with_reducible apply post_seq)) | ((with_reducible apply post_then_exit)) | ((with_reducible apply post_block_eq)) | ((with_reducible apply CS_ret)) | ((with_reducible apply CS_exit)) | ((with_reducible apply CS_cond_d); exact rfl; all_goals intro hb; all_goals try (exfalso; omega))
    apply ret_bool; exact rfl; exact rfl; rfl
theorem cart_next {n : Int} {c : List Ln} {k : Nat} (h : ∀ j : Nat, j < k → lnAt n c j) (hok : lnAt n c k) : ∀ j : Nat, j < k + 1 → lnAt n c j := fun j hj => by
  by_cases hjk : j = k
  · subst hjk; exact hok
  · exact h j (by omega)
theorem lnAt_zero {n : Int} {c : List Ln} {x : Ln} (h : c[0]? = some x) : lnAt n c 0 ↔ (0 ≤ x.art ∧ x.art ≤ n - 1) ∧ (1 ≤ x.cnt ∧ x.cnt ≤ 20) :=
  ⟨fun h' => ⟨(h' x h).1, (h' x h).2.1⟩, fun h' y hy => by rw [h] at hy; cases hy; exact ⟨h'.1, h'.2, fun _ h0 => by omega⟩⟩
theorem lnAt_pos {n : Int} {c : List Ln} {k : Nat} {x y : Ln} (hk : 0 < k) (h : c[k]? = some x) (hy : c[k-1]? = some y) : lnAt n c k ↔ (0 ≤ x.art ∧ x.art ≤ n - 1) ∧ (1 ≤ x.cnt ∧ x.cnt ≤ 20) ∧ y.art < x.art :=
  ⟨fun h' => ⟨(h' x h).1, (h' x h).2.1, (h' x h).2.2 y hk hy⟩, fun h' z hz => by rw [h] at hz; cases hz; exact ⟨h'.1, h'.2.1, fun u _ hu => by rw [hy] at hu; cases hu; exact h'.2.2⟩⟩
theorem linesOk_ok (n : Int) (v : Value) (c : List Ln) (w : World) (b : Bool) (hn : 0 ≤ n) (hn' : n ≤ 9223372036854775807) (hs : Sl w v c) (hB : VCart n c ↔ b = true) : Calls Tryz.prog 125 #[.int .i64 n, v] w (Gives (.bool b) w) := by
  have hlen := hs.len
  simp only [maxLen] at hlen
  unfold VCart at hB
  refine enter (vs := [.int .i64 n, v]) Tryz.func125 rfl Tryz.ntmps125 rfl ?_
  repeat' first | ((with_reducible apply CS_seq)) | ((with_reducible apply CS_block)) | ((with_reducible apply CS_region)) | ((with_reducible apply RR_end)) | ((with_reducible apply LR_pure); exact rfl; exact rfl; exact rfl) | ((with_reducible apply LR_len_sl); exact rfl; exact rfl; exact rfl; assumption) | ((with_reducible apply post_seq))
  refine CS_loop (ι := Nat) (fun i => [(0, .int .i64 n), (1, v), (7, v), (8, .int .i64 c.length), (9, .int .i64 (i : Int))]) (fun _ => Wd w []) (fun i => i ≤ c.length ∧ ∀ j : Nat, j < i → lnAt n c j) (fun i => c.length - i) 0 ⟨by omega, fun j h => by omega⟩ ⟨rfl, rfl, rfl, rfl, rfl, trivial⟩ (fun _ hw => hw) ?_
  rintro k ⟨h1, h2⟩
  by_cases hi : k < c.length
  · obtain ⟨x, hx⟩ : ∃ y, c[k]? = some y := ⟨_, List.getElem?_eq_getElem hi⟩
    have hbad : ¬ lnAt n c k → false = b := fun h => bfalse hB fun h' => h (h'.2 k hi)
    have hgo := fun h => cart_next h2 (k := k) h
    by_cases h00 : k = 0
    · subst h00
      rw [lnAt_zero hx] at hbad hgo
      repeat' first | ((with_reducible apply (LR_index_old (0))); exact rfl; exact rfl; exact rfl; exact rfl; exact hs; omega; exact hx; exact rfl; intro _ _) | ((with_reducible apply (LR_call (f := 126))); exact rfl; exact rfl; exact rfl; exact fun w hw => within_ok _ _ _ w) | ((with_reducible apply CS_seq)) | ((with_reducible apply CS_block)) | ((with_reducible apply CS_region)) | ((with_reducible apply CS_regionq_wd); kernel_rfl; kernel_rfl) | ((with_reducible apply RR_end)) | ((with_reducible apply LR_pure); exact rfl; exact rfl; exact rfl) | ((with_reducible apply LR_skip); exact rfl; exact rfl) | ((with_reducible apply LR_add); exact rfl; exact rfl; exact rfl; exact rfl; omega; omega) | ((with_reducible apply LR_sub); exact rfl; exact rfl; exact rfl; exact rfl; omega; omega) | ((with_reducible apply LR_field_own); exact rfl; exact rfl; exact rfl) | ((with_reducible apply LR_load_own 0); exact rfl; exact rfl; exact rfl; exact rfl; exact rfl) | ((with_reducible apply LR_load_old_agg); exact rfl; exact rfl; exact rfl; assumption; exact rfl) | ((with_reducible apply LS_alloc); exact rfl; exact rfl; exact rfl; intro _) | ((with_reducible apply LS_store_agg 0); exact rfl; exact rfl; exact rfl; exact rfl; exact rfl; exact rfl; exact rfl; exact rfl) | ((with_reducible apply post_seq)) | ((with_reducible apply post_then_ret)) | ((with_reducible apply post_block_n)) | ((with_reducible apply post_block_ret)) | ((with_reducible apply CS_skip)) | ((with_reducible apply CS_ret)) | ((with_reducible apply CS_cond_t); exact rfl) | ((with_reducible apply CS_cond_f); exact rfl) | ((with_reducible apply CS_cond_d); exact rfl; all_goals intro hb; all_goals try (exfalso; omega)) | ((with_reducible apply LR_caseg_n); exact rfl; exact rfl; all_goals intro hb; all_goals try (exfalso; omega))
      all_goals (try simp only [wi_true, wi_false] at *)
      all_goals first
        | (apply ret_bool; exact rfl; exact rfl; exact hbad (by omega))
        | exact post_round (i := 0) (0 + 1) ⟨by omega, hgo (by omega)⟩ (by omega) ⟨rfl, rfl, rfl, rfl, rfl, trivial⟩ (fun _ hw => hw.nil)
    · obtain ⟨y, hy⟩ : ∃ y, c[k-1]? = some y := ⟨_, List.getElem?_eq_getElem (by omega)⟩
      rw [lnAt_pos (by omega) hx hy] at hbad hgo
      repeat' first | ((with_reducible apply (LR_index_old (k))); exact rfl; exact rfl; exact rfl; exact rfl; exact hs; omega; exact hx; exact rfl; intro _ _) | ((with_reducible apply (LR_call (f := 126))); exact rfl; exact rfl; exact rfl; exact fun w hw => within_ok _ _ _ w) | ((with_reducible apply (LR_index_old (k-1))); exact rfl; exact rfl; exact rfl; exact rfl; exact hs; omega; exact hy; exact rfl; intro _ _) | ((with_reducible apply CS_seq)) | ((with_reducible apply CS_block)) | ((with_reducible apply CS_region)) | ((with_reducible apply CS_regionq_wd); kernel_rfl; kernel_rfl) | ((with_reducible apply RR_end)) | ((with_reducible apply LR_pure); exact rfl; exact rfl; exact rfl) | ((with_reducible apply LR_skip); exact rfl; exact rfl) | ((with_reducible apply LR_add); exact rfl; exact rfl; exact rfl; exact rfl; omega; omega) | ((with_reducible apply LR_sub); exact rfl; exact rfl; exact rfl; exact rfl; omega; omega) | ((with_reducible apply LR_field_own); exact rfl; exact rfl; exact rfl) | ((with_reducible apply LR_field); exact rfl; exact rfl; exact rfl) | ((with_reducible apply LR_load_own 0); exact rfl; exact rfl; exact rfl; exact rfl; exact rfl) | ((with_reducible apply LR_load_old); exact rfl; exact rfl; exact rfl; assumption; exact rfl) | ((with_reducible apply LR_load_old_agg); exact rfl; exact rfl; exact rfl; assumption; exact rfl) | ((with_reducible apply LS_alloc); exact rfl; exact rfl; exact rfl; intro _) | ((with_reducible apply LS_store_agg 0); exact rfl; exact rfl; exact rfl; exact rfl; exact rfl; exact rfl; exact rfl; exact rfl) | ((with_reducible apply post_seq)) | ((with_reducible apply post_then_ret)) | ((with_reducible apply post_block_n)) | ((with_reducible apply post_block_ret)) | ((with_reducible apply CS_skip)) | ((with_reducible apply CS_ret)) | ((with_reducible apply CS_cond_t); exact rfl) | ((with_reducible apply CS_cond_d); exact rfl; all_goals intro hb; all_goals try (exfalso; omega)) | ((with_reducible apply LR_caseg_d); exact rfl; exact rfl; all_goals intro hb; all_goals try (exfalso; omega)) | ((with_reducible apply LR_caseg_n); exact rfl; exact rfl; all_goals intro hb; all_goals try (exfalso; omega))
      all_goals (try simp only [wi_true, wi_false] at *)
      all_goals first
        | (apply ret_bool; exact rfl; exact rfl; exact hbad (by omega))
        | exact post_round (i := k) (k + 1) ⟨by omega, hgo (by omega)⟩ (by omega) ⟨rfl, rfl, rfl, rfl, rfl, trivial⟩ (fun _ hw => hw.nil)
  · have hall : ∀ j, j < c.length → lnAt n c j := fun j hj => h2 j (by omega)
    repeat' first | ((with_reducible apply CS_seq)) | ((with_reducible apply CS_region)) | ((with_reducible apply RR_end)) | ((with_reducible apply LR_pure); exact rfl; exact rfl; exact rfl) | ((with_reducible apply LR_len_sl); exact rfl; exact rfl; exact rfl; assumption) | ((with_reducible apply post_seq)) | ((with_reducible apply post_then_exit)) | ((with_reducible apply post_block_eq)) | ((with_reducible apply CS_ret)) | ((with_reducible apply CS_exit)) | ((with_reducible apply CS_cond_d); exact rfl; all_goals intro hb; all_goals try (exfalso; omega))
    apply ret_bool; exact rfl; exact rfl
    by_cases h8 : c.length ≤ 8
    · rw [← btrue hB ⟨h8, hall⟩]; simp; omega
    · rw [← bfalse hB fun h => h8 h.1]; simp; omega
theorem svalidCart_ok (v0 : Value) (s : List Ar) (v : Value) (c : List Ln) (w : World) (b : Bool) (hs0 : Sl w v0 s) (hs : Sl w v c) (hB : VCart s.length c ↔ b = true) : Calls Tryz.prog 75 #[v0, v] w (Gives (.bool b) w) := by
  have hlen := hs.len
  have hlen0 := hs0.len
  simp only [maxLen] at hlen hlen0
  unfold VCart at hB
  refine enter (vs := [v0, v]) Tryz.func75 rfl Tryz.ntmps75 rfl ?_
  repeat' first | ((with_reducible apply CS_seq)) | ((with_reducible apply CS_block)) | ((with_reducible apply CS_region)) | ((with_reducible apply RR_end)) | ((with_reducible apply LR_pure); exact rfl; exact rfl; exact rfl) | ((with_reducible apply post_seq))
  refine CS_loop (ι := Nat) (fun i => [(0, v0), (1, v), (5, .int .i64 (i : Int))]) (fun _ => Wd w []) (fun i => i ≤ c.length ∧ ∀ j : Nat, j < i → lnAt s.length c j) (fun i => c.length - i) 0 ⟨by omega, fun j h => by omega⟩ ⟨rfl, rfl, rfl, trivial⟩ (fun _ hw => hw) ?_
  rintro k ⟨h1, h2⟩
  by_cases hi : k < c.length
  · obtain ⟨x, hx⟩ : ∃ y, c[k]? = some y := ⟨_, List.getElem?_eq_getElem hi⟩
    have hbad : ¬ lnAt s.length c k → false = b := fun h => bfalse hB fun h' => h (h'.2 k hi)
    have hgo := fun h => cart_next h2 (k := k) h
    by_cases h00 : k = 0
    · subst h00
      rw [lnAt_zero hx] at hbad hgo
      repeat' first | ((with_reducible apply LR_len_sl); exact rfl; exact rfl; exact rfl; exact hs0) | ((with_reducible apply (LR_index_old (0))); exact rfl; exact rfl; exact rfl; exact rfl; exact hs; omega; exact hx; exact rfl; intro _ _) | ((with_reducible apply (LR_call (f := 106))); exact rfl; exact rfl; exact rfl; exact fun w hw => inRange_ok _ _ _ w) | ((with_reducible apply CS_seq)) | ((with_reducible apply CS_block)) | ((with_reducible apply CS_region)) | ((with_reducible apply CS_regionq_wd); kernel_rfl; kernel_rfl) | ((with_reducible apply RR_end)) | ((with_reducible apply LR_pure); exact rfl; exact rfl; exact rfl) | ((with_reducible apply LR_skip); exact rfl; exact rfl) | ((with_reducible apply LR_add); exact rfl; exact rfl; exact rfl; exact rfl; omega; omega) | ((with_reducible apply LR_sub); exact rfl; exact rfl; exact rfl; exact rfl; omega; omega) | ((with_reducible apply LR_field); exact rfl; exact rfl; exact rfl) | ((with_reducible apply LR_load_old); exact rfl; exact rfl; exact rfl; assumption; exact rfl) | ((with_reducible apply LR_len_sl); exact rfl; exact rfl; exact rfl; assumption) | ((with_reducible apply post_seq)) | ((with_reducible apply post_then_ret)) | ((with_reducible apply post_block_n)) | ((with_reducible apply post_block_ret)) | ((with_reducible apply CS_skip)) | ((with_reducible apply CS_ret)) | ((with_reducible apply CS_cond_t); exact rfl) | ((with_reducible apply CS_cond_f); exact rfl) | ((with_reducible apply CS_cond_d); exact rfl; all_goals intro hb; all_goals try (exfalso; omega)) | ((with_reducible apply LR_caseg_n); exact rfl; exact rfl; all_goals intro hb; all_goals try (exfalso; omega))
      all_goals (try simp only [wi_true, wi_false] at *)
      all_goals first
        | (apply ret_bool; exact rfl; exact rfl; exact hbad (by omega))
        | exact post_round (i := 0) (0 + 1) ⟨by omega, hgo (by omega)⟩ (by omega) ⟨rfl, rfl, rfl, trivial⟩ (fun _ hw => hw.nil)
    · obtain ⟨y, hy⟩ : ∃ y, c[k-1]? = some y := ⟨_, List.getElem?_eq_getElem (by omega)⟩
      rw [lnAt_pos (by omega) hx hy] at hbad hgo
      repeat' first | ((with_reducible apply LR_len_sl); exact rfl; exact rfl; exact rfl; exact hs0) | ((with_reducible apply (LR_index_old (k))); exact rfl; exact rfl; exact rfl; exact rfl; exact hs; omega; exact hx; exact rfl; intro _ _) | ((with_reducible apply (LR_call (f := 106))); exact rfl; exact rfl; exact rfl; exact fun w hw => inRange_ok _ _ _ w) | ((with_reducible apply (LR_index_old (k-1))); exact rfl; exact rfl; exact rfl; exact rfl; exact hs; omega; exact hy; exact rfl; intro _ _) | ((with_reducible apply CS_seq)) | ((with_reducible apply CS_block)) | ((with_reducible apply CS_region)) | ((with_reducible apply CS_regionq_wd); kernel_rfl; kernel_rfl) | ((with_reducible apply RR_end)) | ((with_reducible apply LR_pure); exact rfl; exact rfl; exact rfl) | ((with_reducible apply LR_skip); exact rfl; exact rfl) | ((with_reducible apply LR_add); exact rfl; exact rfl; exact rfl; exact rfl; omega; omega) | ((with_reducible apply LR_sub); exact rfl; exact rfl; exact rfl; exact rfl; omega; omega) | ((with_reducible apply LR_field); exact rfl; exact rfl; exact rfl) | ((with_reducible apply LR_load_old); exact rfl; exact rfl; exact rfl; assumption; exact rfl) | ((with_reducible apply LR_len_sl); exact rfl; exact rfl; exact rfl; assumption) | ((with_reducible apply post_seq)) | ((with_reducible apply post_then_ret)) | ((with_reducible apply post_block_n)) | ((with_reducible apply post_block_ret)) | ((with_reducible apply CS_skip)) | ((with_reducible apply CS_ret)) | ((with_reducible apply CS_cond_t); exact rfl) | ((with_reducible apply CS_cond_d); exact rfl; all_goals intro hb; all_goals try (exfalso; omega)) | ((with_reducible apply LR_caseg_d); exact rfl; exact rfl; all_goals intro hb; all_goals try (exfalso; omega)) | ((with_reducible apply LR_caseg_n); exact rfl; exact rfl; all_goals intro hb; all_goals try (exfalso; omega))
      all_goals (try simp only [wi_true, wi_false] at *)
      all_goals first
        | (apply ret_bool; exact rfl; exact rfl; exact hbad (by omega))
        | exact post_round (i := k) (k + 1) ⟨by omega, hgo (by omega)⟩ (by omega) ⟨rfl, rfl, rfl, trivial⟩ (fun _ hw => hw.nil)
  · have hall : ∀ j, j < c.length → lnAt s.length c j := fun j hj => h2 j (by omega)
    repeat' first | ((with_reducible apply LR_len_sl); exact rfl; exact rfl; exact rfl; exact hs) | ((with_reducible apply CS_seq)) | ((with_reducible apply CS_region)) | ((with_reducible apply RR_end)) | ((with_reducible apply LR_pure); exact rfl; exact rfl; exact rfl) | ((with_reducible apply post_seq)) | ((with_reducible apply post_then_exit)) | ((with_reducible apply post_block_eq)) | ((with_reducible apply CS_ret)) | ((with_reducible apply CS_exit)) | ((with_reducible apply CS_cond_d); exact rfl; all_goals intro hb; all_goals try (exfalso; omega))
    apply ret_bool; exact rfl; exact rfl
    by_cases h8 : c.length ≤ 8
    · rw [← btrue hB ⟨h8, hall⟩]; simp; omega
    · rw [← bfalse hB fun h => h8 h.1]; simp; omega
theorem iValidCart_ok (v0 : Value) (s : List Ar) (v : Value) (c : List Ln) (w : World) (b : Bool) (hs0 : Sl w v0 s) (hs : Sl w v c) (hB : VSC s c ↔ b = true) : Calls Tryz.prog 86 #[v0, v] w (Gives (.bool b) w) := by
  have hlen0 := hs0.len
  simp only [maxLen] at hlen0
  obtain ⟨b1, hb1⟩ := bex (VShop s)
  obtain ⟨b2, hb2⟩ := bex (VCart s.length c)
  unfold VSC at hB
  rw [hb1, hb2] at hB
  cases b1
  · skip
    refine enter (vs := [v0, v]) Tryz.func86 rfl Tryz.ntmps86 rfl ?_
    repeat' first | ((with_reducible apply (LR_call (f := 124))); exact rfl; exact rfl; exact rfl; exact fun w hw => iValidShop_ok v0 s w _ (hs0.mono hw) hb1) | ((with_reducible apply CS_seq)) | ((with_reducible apply CS_region)) | ((with_reducible apply RR_end)) | ((with_reducible apply LR_pure); exact rfl; exact rfl; exact rfl) | ((with_reducible apply LR_skip); exact rfl; exact rfl) | ((with_reducible apply post_seq)) | ((with_reducible apply CS_ret))
    all_goals first | (exfalso; contradiction) | (exfalso; omega) | (exfalso; simp at hb <;> omega) | skip
    apply ret_bool; exact rfl; exact rfl; exact bfalse hB (by simp)
  · skip
    refine enter (vs := [v0, v]) Tryz.func86 rfl Tryz.ntmps86 rfl ?_
    repeat' first | ((with_reducible apply (LR_call (f := 124))); exact rfl; exact rfl; exact rfl; exact fun w hw => iValidShop_ok v0 s w _ (hs0.mono hw) hb1) | ((with_reducible apply LR_len_sl); exact rfl; exact rfl; exact rfl; exact hs0) | ((with_reducible apply (LR_call (f := 125))); exact rfl; exact rfl; exact rfl; exact fun w hw => linesOk_ok s.length v c w _ (by omega) (by omega) (hs.mono hw) hb2) | ((with_reducible apply CS_seq)) | ((with_reducible apply CS_region)) | ((with_reducible apply RR_end)) | ((with_reducible apply LR_pure); exact rfl; exact rfl; exact rfl) | ((with_reducible apply post_seq)) | ((with_reducible apply CS_ret))
    all_goals first | (exfalso; contradiction) | (exfalso; omega) | (exfalso; simp at hb <;> omega) | skip
    apply ret_bool; exact rfl; exact rfl; exact b_of (by simpa using hB)
end Go.Proofs.YtbgfkhliideegaaGreat
