/- The walks of the checks of spans, guards and rules. No condition beyond those that each theorem states. -/
import Derived.Test.YtbgfkhliideegaaGreatPRu
import Derived.Test.YtbgfkhliideegaaGreatWInt
namespace Go.Proofs.YtbgfkhliideegaaGreat
open Go.RowKit
attribute [local irreducible] Calls
theorem iValidSpan_ok (s : Sp) (w : World) (b : Bool) (hB : VSp s ↔ b = true) : Calls Tryz.prog 127 #[spV s] w (Gives (.bool b) w) := by
  unfold VSp at hB
  refine enter (vs := [spV s]) Tryz.func127 rfl Tryz.ntmps127 rfl ?_
  repeat' first | ((with_reducible apply (LR_call (f := 128))); exact rfl; exact rfl; exact rfl; exact fun w hw => money_ok _ w) | ((with_reducible apply (LR_call (f := 126))); exact rfl; exact rfl; exact rfl; exact fun w hw => within_ok _ _ _ w) | ((with_reducible apply CS_seq)) | ((with_reducible apply CS_region)) | ((with_reducible apply RR_end)) | ((with_reducible apply LR_pure); exact rfl; exact rfl; exact rfl) | ((with_reducible apply LR_skip); exact rfl; exact rfl) | ((with_reducible apply LR_field_own); exact rfl; exact rfl; exact rfl) | ((with_reducible apply LR_load_own 0); exact rfl; exact rfl; exact rfl; exact rfl; exact rfl) | ((with_reducible apply LS_box); exact rfl; exact rfl; exact rfl; exact rfl; intro _) | ((with_reducible apply post_seq)) | ((with_reducible apply CS_ret)) | ((with_reducible apply LR_caseg); exact rfl; exact rfl; all_goals intro hb; all_goals try (exfalso; omega))
  all_goals (try simp only [wi_true, wi_false] at *)
  all_goals first
    | (apply ret_bool; exact rfl; exact rfl; exact wi_of (by rw [← hB]; omega))
    | (apply ret_bool; exact rfl; exact rfl; exact bfalse hB (by omega))
theorem svalidSpan_ok (s : Sp) (w : World) (b : Bool) (hB : VSp s ↔ b = true) : Calls Tryz.prog 157 #[spV s] w (Gives (.bool b) w) := by
  unfold VSp at hB
  refine enter (vs := [spV s]) Tryz.func157 rfl Tryz.ntmps157 rfl ?_
  repeat' first | ((with_reducible apply (LR_call (f := 106))); exact rfl; exact rfl; exact rfl; exact fun w hw => inRange_ok _ _ _ w) | ((with_reducible apply CS_seq)) | ((with_reducible apply CS_region)) | ((with_reducible apply RR_end)) | ((with_reducible apply LR_pure); exact rfl; exact rfl; exact rfl) | ((with_reducible apply LR_skip); exact rfl; exact rfl) | ((with_reducible apply LR_field_own); exact rfl; exact rfl; exact rfl) | ((with_reducible apply LR_load_own 0); exact rfl; exact rfl; exact rfl; exact rfl; exact rfl) | ((with_reducible apply LS_box); exact rfl; exact rfl; exact rfl; exact rfl; intro _) | ((with_reducible apply post_seq)) | ((with_reducible apply CS_ret)) | ((with_reducible apply LR_caseg); exact rfl; exact rfl; all_goals intro hb; all_goals try (exfalso; omega))
  all_goals (try simp only [wi_true, wi_false] at *)
  all_goals first
    | (apply ret_bool; exact rfl; exact rfl; exact wi_of (by rw [← hB]; omega))
    | (apply ret_bool; exact rfl; exact rfl; exact bfalse hB (by omega))
theorem iValidGuard_ok (g : Gd) (w : World) (b : Bool) (hg : GOk w g) (hB : VG g ↔ b = true) : Calls Tryz.prog 89 #[gdV g] w (Gives (.bool b) w) := by
  have hml : maxLen = 9223372036854775807 := rfl
  have hlen := hg.len
  obtain ⟨_, _, _, hv, hn, _⟩ := id hg
  simp only [Value.slice.injEq] at hv
  obtain ⟨_, hv2, _⟩ := hv
  subst hv2
  refine enter (vs := [gdV g]) Tryz.func89 rfl Tryz.ntmps89 rfl ?_
  repeat' first | ((with_reducible apply CS_seq)) | ((with_reducible apply CS_block)) | ((with_reducible apply CS_region)) | ((with_reducible apply RR_end)) | ((with_reducible apply LR_pure); exact rfl; exact rfl; exact rfl) | ((with_reducible apply LR_field_own); exact rfl; exact rfl; exact rfl) | ((with_reducible apply LR_load_own 0); exact rfl; exact rfl; exact rfl; exact rfl; exact rfl) | ((with_reducible apply LR_len); exact rfl; exact rfl; exact rfl) | ((with_reducible apply LS_box); exact rfl; exact rfl; exact rfl; exact rfl; intro _) | ((with_reducible apply post_seq))
  rename_i gb
  refine CS_loop (ι := Int) (fun i => [(1, .pointer (some ⟨gb, 0, none⟩)), (6, .slice g.A g.n g.c), (7, .int .i64 g.n), (8, .int .i64 i)]) (fun _ => Wd w [⟨gb, 69, 4, [.int .i64 g.tot.lo, .int .i64 g.tot.hi, .slice g.A g.n g.c, .int .i64 g.cp]⟩]) (fun i => 0 ≤ i ∧ i ≤ g.n ∧ ∀ j : Nat, (j : Int) < i → ∀ s, g.cs[j]? = some s → VSp s) (fun i => (g.n - i).toNat) 0 ⟨by omega, by omega, fun j h => by omega⟩ ⟨rfl, rfl, rfl, rfl, trivial⟩ (fun _ hw => hw) ?_
  rintro i ⟨h0, h1, h2⟩
  obtain ⟨k, rfl⟩ : ∃ k : Nat, i = k := ⟨i.toNat, by omega⟩
  by_cases hi : k < g.n
  · obtain ⟨s, hc⟩ : ∃ c, g.cs[k]? = some c := ⟨_, List.getElem?_eq_getElem (by omega)⟩
    obtain ⟨b1, hb1⟩ := bex (VSp s)
    cases b1
    · skip
      repeat' first | ((with_reducible apply (LR_index_old (k))); exact rfl; exact rfl; exact rfl; exact rfl; exact hg; omega; exact hc; exact rfl; intro _ _) | ((with_reducible apply (LR_call (f := 127))); exact rfl; exact rfl; exact rfl; exact fun w hw => iValidSpan_ok s w false hb1) | ((with_reducible apply CS_seq)) | ((with_reducible apply CS_block)) | ((with_reducible apply CS_region)) | ((with_reducible apply RR_end)) | ((with_reducible apply LR_pure); exact rfl; exact rfl; exact rfl) | ((with_reducible apply LR_load_old_agg); exact rfl; exact rfl; exact rfl; assumption; exact rfl) | ((with_reducible apply LR_load_own_agg 0); exact rfl; exact rfl; exact rfl; exact rfl; exact rfl) | ((with_reducible apply LS_alloc); exact rfl; exact rfl; exact rfl; intro _) | ((with_reducible apply LS_store_agg 0); exact rfl; exact rfl; exact rfl; exact rfl; exact rfl; exact rfl; exact rfl; exact rfl) | ((with_reducible apply post_seq)) | ((with_reducible apply post_then_ret)) | ((with_reducible apply post_block_ret)) | ((with_reducible apply CS_skip)) | ((with_reducible apply CS_ret)) | ((with_reducible apply CS_cond_t); exact rfl) | ((with_reducible apply CS_cond_d); exact rfl; all_goals intro hb; all_goals try (exfalso; omega))
      all_goals first | (exfalso; contradiction) | (exfalso; omega) | (exfalso; simp at hb <;> omega) | skip
      all_goals (apply ret_bool; exact rfl; exact rfl; exact bfalse hB fun h => absurd (hb1.1 (h.2.2.1 k (by omega) s hc)) (by simp))
    · skip
      repeat' first | ((with_reducible apply (LR_index_old (k))); exact rfl; exact rfl; exact rfl; exact rfl; exact hg; omega; exact hc; exact rfl; intro _ _) | ((with_reducible apply (LR_call (f := 127))); exact rfl; exact rfl; exact rfl; exact fun w hw => iValidSpan_ok s w true hb1) | ((with_reducible apply CS_seq)) | ((with_reducible apply CS_block)) | ((with_reducible apply CS_region)) | ((with_reducible apply RR_end)) | ((with_reducible apply LR_pure); exact rfl; exact rfl; exact rfl) | ((with_reducible apply LR_add); exact rfl; exact rfl; exact rfl; exact rfl; omega; omega) | ((with_reducible apply LR_load_old_agg); exact rfl; exact rfl; exact rfl; assumption; exact rfl) | ((with_reducible apply LR_load_own_agg 0); exact rfl; exact rfl; exact rfl; exact rfl; exact rfl) | ((with_reducible apply LS_alloc); exact rfl; exact rfl; exact rfl; intro _) | ((with_reducible apply LS_store_agg 0); exact rfl; exact rfl; exact rfl; exact rfl; exact rfl; exact rfl; exact rfl; exact rfl) | ((with_reducible apply post_seq)) | ((with_reducible apply post_block_n)) | ((with_reducible apply CS_skip)) | ((with_reducible apply CS_cond_f); exact rfl) | ((with_reducible apply CS_cond_d); exact rfl; all_goals intro hb; all_goals try (exfalso; omega))
      all_goals first | (exfalso; contradiction) | (exfalso; omega) | (exfalso; simp at hb <;> omega) | skip
      all_goals exact post_round (i := (k : Int)) ((k : Int) + 1) ⟨by omega, by omega, fun j hj s' hs' => by
        by_cases hjk : j = k
        · subst hjk; rw [hc] at hs'; cases hs'; exact hb1.2 rfl
        · exact h2 j (by omega) s' hs'⟩ (by omega) ⟨rfl, rfl, rfl, rfl, trivial⟩ (fun _ hw => hw.sub (by repeat (first | exact List.Sublist.refl _ | exact List.nil_sublist _ | apply List.Sublist.cons_cons | apply List.Sublist.cons)))
  · have hall : ∀ j, j < g.cs.length → ∀ s, g.cs[j]? = some s → VSp s := fun j hj => h2 j (by omega)
    obtain ⟨bt, hbt⟩ := bex (VSp g.tot)
    have hB' : (VSp g.tot ∧ g.cs.length = 3 ∧ (0 ≤ g.cp ∧ g.cp ≤ 9)) ↔ b = true := by
      rw [← hB]; unfold VG
      exact ⟨fun h => ⟨h.1, h.2.1, hall, h.2.2⟩, fun h => ⟨h.1, h.2.1, h.2.2.2⟩⟩
    rw [hbt] at hB'
    cases bt
    all_goals
      repeat' first | ((with_reducible apply (LR_call (f := 126))); exact rfl; exact rfl; exact rfl; exact fun w hw => within_ok _ _ _ w) | ((with_reducible apply (LR_call (f := 127))); exact rfl; exact rfl; exact rfl; exact fun w hw => iValidSpan_ok g.tot w _ hbt) | ((with_reducible apply CS_seq)) | ((with_reducible apply CS_region)) | ((with_reducible apply RR_end)) | ((with_reducible apply LR_pure); exact rfl; exact rfl; exact rfl) | ((with_reducible apply LR_skip); exact rfl; exact rfl) | ((with_reducible apply LR_field_own); exact rfl; exact rfl; exact rfl) | ((with_reducible apply LR_load_own 0); exact rfl; exact rfl; exact rfl; exact rfl; exact rfl) | ((with_reducible apply LR_load_own_agg 0); exact rfl; exact rfl; exact rfl; exact rfl; exact rfl) | ((with_reducible apply LR_len); exact rfl; exact rfl; exact rfl) | ((with_reducible apply post_seq)) | ((with_reducible apply post_then_exit)) | ((with_reducible apply post_block_eq)) | ((with_reducible apply CS_ret)) | ((with_reducible apply CS_exit)) | ((with_reducible apply CS_cond_d); exact rfl; all_goals intro hb; all_goals try (exfalso; omega)) | ((with_reducible apply LR_caseg_d); exact rfl; exact rfl; all_goals intro hb; all_goals try (exfalso; omega))
      all_goals first | (exfalso; contradiction) | (exfalso; omega) | (exfalso; simp at hb <;> omega) | skip
      all_goals first
        | (apply ret_bool; exact rfl; exact rfl; exact wi_of (by rw [← hB']; simp; omega))
        | (apply ret_bool; exact rfl; exact rfl; exact bfalse hB' (by simp; try omega))
theorem svalidGuard_ok (g : Gd) (w : World) (b : Bool) (hg : GOk w g) (hB : VG g ↔ b = true) : Calls Tryz.prog 141 #[gdV g] w (Gives (.bool b) w) := by
  have hml : maxLen = 9223372036854775807 := rfl
  have hlen := hg.len
  obtain ⟨_, _, _, hv, hn, _⟩ := id hg
  simp only [Value.slice.injEq] at hv
  obtain ⟨_, hv2, _⟩ := hv
  subst hv2
  obtain ⟨bt, hbt⟩ := bex (VSp g.tot)
  by_cases hpre : (VSp g.tot ∧ g.cs.length = 3 ∧ (0 ≤ g.cp ∧ g.cp ≤ 9))
  · have hbt' : bt = true := hbt.1 hpre.1
    subst hbt'
    obtain ⟨_, p2, p3⟩ := hpre
    refine enter (vs := [gdV g]) Tryz.func141 rfl Tryz.ntmps141 rfl ?_
    repeat' first | ((with_reducible apply (LR_call (f := 106))); exact rfl; exact rfl; exact rfl; exact fun w hw => inRange_ok _ _ _ w) | ((with_reducible apply (LR_call (f := 157))); exact rfl; exact rfl; exact rfl; exact fun w hw => svalidSpan_ok g.tot w _ hbt) | ((with_reducible apply CS_seq)) | ((with_reducible apply CS_block)) | ((with_reducible apply CS_region)) | ((with_reducible apply RR_end)) | ((with_reducible apply LR_pure); exact rfl; exact rfl; exact rfl) | ((with_reducible apply LR_field_own); exact rfl; exact rfl; exact rfl) | ((with_reducible apply LR_load_own 0); exact rfl; exact rfl; exact rfl; exact rfl; exact rfl) | ((with_reducible apply LR_load_own_agg 0); exact rfl; exact rfl; exact rfl; exact rfl; exact rfl) | ((with_reducible apply LR_len); exact rfl; exact rfl; exact rfl) | ((with_reducible apply LS_box); exact rfl; exact rfl; exact rfl; exact rfl; intro _) | ((with_reducible apply post_seq)) | ((with_reducible apply post_then_ret)) | ((with_reducible apply CS_skip)) | ((with_reducible apply CS_ret)) | ((with_reducible apply CS_cond_n); exact rfl; all_goals intro hb; all_goals try (exfalso; omega)) | ((with_reducible apply LR_caseg_nd); exact rfl; exact rfl; all_goals intro hb; all_goals try (exfalso; omega))
    all_goals (try simp only [wi_true, wi_false] at *)
    all_goals first | (exfalso; contradiction) | (exfalso; omega) | (exfalso; simp at hb <;> omega) | skip
    rename_i gb _
    refine CS_loop (ι := Int) (fun i => [(1, .pointer (some ⟨gb, 0, none⟩)), (3, .int .i64 i)]) (fun _ => Wd w [⟨gb, 69, 4, [.int .i64 g.tot.lo, .int .i64 g.tot.hi, .slice g.A g.n g.c, .int .i64 g.cp]⟩]) (fun i => 0 ≤ i ∧ i ≤ g.n ∧ ∀ j : Nat, (j : Int) < i → ∀ s, g.cs[j]? = some s → VSp s) (fun i => (g.n - i).toNat) 0 ⟨by omega, by omega, fun j h => by omega⟩ ⟨rfl, rfl, trivial⟩ (fun _ hw => hw) ?_
    rintro i ⟨h0, h1, h2⟩
    obtain ⟨k, rfl⟩ : ∃ k : Nat, i = k := ⟨i.toNat, by omega⟩
    by_cases hi : k < g.n
    · obtain ⟨s, hc⟩ : ∃ c, g.cs[k]? = some c := ⟨_, List.getElem?_eq_getElem (by omega)⟩
      obtain ⟨b1, hb1⟩ := bex (VSp s)
      cases b1
      · skip
        repeat' first | ((with_reducible apply (LR_index_old (k))); exact rfl; exact rfl; exact rfl; exact rfl; exact hg; omega; exact hc; exact rfl; intro _ _) | ((with_reducible apply (LR_call (f := 157))); exact rfl; exact rfl; exact rfl; exact fun w hw => svalidSpan_ok s w false hb1) | ((with_reducible apply CS_seq)) | ((with_reducible apply CS_block)) | ((with_reducible apply CS_region)) | ((with_reducible apply RR_end)) | ((with_reducible apply LR_pure); exact rfl; exact rfl; exact rfl) | ((with_reducible apply LR_field_own); exact rfl; exact rfl; exact rfl) | ((with_reducible apply LR_load_own 0); exact rfl; exact rfl; exact rfl; exact rfl; exact rfl) | ((with_reducible apply LR_load_old_agg); exact rfl; exact rfl; exact rfl; assumption; exact rfl) | ((with_reducible apply LR_len); exact rfl; exact rfl; exact rfl) | ((with_reducible apply post_seq)) | ((with_reducible apply post_then_ret)) | ((with_reducible apply post_block_ret)) | ((with_reducible apply CS_skip)) | ((with_reducible apply CS_ret)) | ((with_reducible apply CS_cond_t); exact rfl) | ((with_reducible apply CS_cond_d); exact rfl; all_goals intro hb; all_goals try (exfalso; omega))
        all_goals first | (exfalso; contradiction) | (exfalso; omega) | (exfalso; simp at hb <;> omega) | skip
        all_goals (apply ret_bool; exact rfl; exact rfl; exact bfalse hB fun h => absurd (hb1.1 (h.2.2.1 k (by omega) s hc)) (by simp))
      · skip
        repeat' first | ((with_reducible apply (LR_index_old (k))); exact rfl; exact rfl; exact rfl; exact rfl; exact hg; omega; exact hc; exact rfl; intro _ _) | ((with_reducible apply (LR_call (f := 157))); exact rfl; exact rfl; exact rfl; exact fun w hw => svalidSpan_ok s w true hb1) | ((with_reducible apply CS_seq)) | ((with_reducible apply CS_block)) | ((with_reducible apply CS_region)) | ((with_reducible apply RR_end)) | ((with_reducible apply LR_pure); exact rfl; exact rfl; exact rfl) | ((with_reducible apply LR_add); exact rfl; exact rfl; exact rfl; exact rfl; omega; omega) | ((with_reducible apply LR_field_own); exact rfl; exact rfl; exact rfl) | ((with_reducible apply LR_load_own 0); exact rfl; exact rfl; exact rfl; exact rfl; exact rfl) | ((with_reducible apply LR_load_old_agg); exact rfl; exact rfl; exact rfl; assumption; exact rfl) | ((with_reducible apply LR_len); exact rfl; exact rfl; exact rfl) | ((with_reducible apply post_seq)) | ((with_reducible apply post_block_n)) | ((with_reducible apply CS_skip)) | ((with_reducible apply CS_cond_f); exact rfl) | ((with_reducible apply CS_cond_d); exact rfl; all_goals intro hb; all_goals try (exfalso; omega))
        all_goals first | (exfalso; contradiction) | (exfalso; omega) | (exfalso; simp at hb <;> omega) | skip
        all_goals exact post_round (i := (k : Int)) ((k : Int) + 1) ⟨by omega, by omega, fun j hj s' hs' => by
          by_cases hjk : j = k
          · subst hjk; rw [hc] at hs'; cases hs'; exact hb1.2 rfl
          · exact h2 j (by omega) s' hs'⟩ (by omega) ⟨rfl, rfl, trivial⟩ (fun _ hw => hw.sub (by repeat (first | exact List.Sublist.refl _ | exact List.nil_sublist _ | apply List.Sublist.cons_cons | apply List.Sublist.cons)))
    · have hall : ∀ j, j < g.cs.length → ∀ s, g.cs[j]? = some s → VSp s := fun j hj => h2 j (by omega)
      repeat' first | ((with_reducible apply CS_seq)) | ((with_reducible apply CS_region)) | ((with_reducible apply RR_end)) | ((with_reducible apply LR_pure); exact rfl; exact rfl; exact rfl) | ((with_reducible apply LR_field_own); exact rfl; exact rfl; exact rfl) | ((with_reducible apply LR_load_own 0); exact rfl; exact rfl; exact rfl; exact rfl; exact rfl) | ((with_reducible apply LR_len); exact rfl; exact rfl; exact rfl) | ((with_reducible apply post_seq)) | ((with_reducible apply post_then_exit)) | ((with_reducible apply post_block_eq)) | ((with_reducible apply CS_ret)) | ((with_reducible apply CS_exit)) | ((with_reducible apply CS_cond_d); exact rfl; all_goals intro hb; all_goals try (exfalso; omega))
      apply ret_bool; exact rfl; exact rfl; exact btrue hB ⟨by first | exact hbt.2 rfl | exact hbt.2 trivial, p2, hall, p3⟩
  · have hb := bfalse hB fun h => hpre ⟨h.1, h.2.1, h.2.2.2⟩
    subst hb
    rw [hbt] at hpre
    cases bt
    all_goals
      refine enter (vs := [gdV g]) Tryz.func141 rfl Tryz.ntmps141 rfl ?_
      repeat' first | ((with_reducible apply (LR_call (f := 106))); exact rfl; exact rfl; exact rfl; exact fun w hw => inRange_ok _ _ _ w) | ((with_reducible apply (LR_call (f := 157))); exact rfl; exact rfl; exact rfl; exact fun w hw => svalidSpan_ok g.tot w _ hbt) | ((with_reducible apply CS_seq)) | ((with_reducible apply CS_block)) | ((with_reducible apply CS_region)) | ((with_reducible apply RR_end)) | ((with_reducible apply LR_pure); exact rfl; exact rfl; exact rfl) | ((with_reducible apply LR_skip); exact rfl; exact rfl) | ((with_reducible apply LR_field_own); exact rfl; exact rfl; exact rfl) | ((with_reducible apply LR_load_own 0); exact rfl; exact rfl; exact rfl; exact rfl; exact rfl) | ((with_reducible apply LR_load_own_agg 0); exact rfl; exact rfl; exact rfl; exact rfl; exact rfl) | ((with_reducible apply LR_len); exact rfl; exact rfl; exact rfl) | ((with_reducible apply LS_box); exact rfl; exact rfl; exact rfl; exact rfl; intro _) | ((with_reducible apply post_seq)) | ((with_reducible apply post_then_ret)) | ((with_reducible apply CS_skip)) | ((with_reducible apply CS_ret)) | ((with_reducible apply CS_cond_t); exact rfl) | ((with_reducible apply CS_cond_n); exact rfl; all_goals intro hb; all_goals try (exfalso; omega)) | ((with_reducible apply LR_caseg_nd); exact rfl; exact rfl; all_goals intro hb; all_goals try (exfalso; omega))
      all_goals (try simp only [wi_true, wi_false, true_and, Bool.false_eq_true, false_and] at *)
      all_goals first | (exfalso; contradiction) | (exfalso; omega) | (exfalso; simp at hb <;> omega) | skip
      all_goals (apply ret_bool; exact rfl; exact rfl; rfl)
theorem iValidRule_ok (r : Ru) (w : World) (b : Bool) (hg : ROk w r) (hB : VR r ↔ b = true) : Calls Tryz.prog 93 #[ruV r] w (Gives (.bool b) w) := by
  obtain ⟨bg, hbg⟩ := bex (VG r.g)
  unfold VR kindOk at hB
  rw [hbg] at hB
  cases bg
  all_goals simp only [Bool.false_eq_true, true_and, false_and, and_false, false_iff, Bool.not_eq_true] at hB
  all_goals
    refine enter (vs := [ruV r]) Tryz.func93 rfl Tryz.ntmps93 rfl ?_
    repeat' first | ((with_reducible apply (LR_call (f := 126))); exact rfl; exact rfl; exact rfl; exact fun w hw => within_ok _ _ _ w) | ((with_reducible apply (LR_call (f := 128))); exact rfl; exact rfl; exact rfl; exact fun w hw => money_ok _ w) | ((with_reducible apply (LR_call (f := 89))); exact rfl; exact rfl; exact rfl; exact fun w hw => iValidGuard_ok r.g w _ (hg.mono hw) hbg) | ((with_reducible apply CS_seq)) | ((with_reducible apply CS_block)) | ((with_reducible apply CS_region)) | ((with_reducible apply RR_end)) | ((with_reducible apply LR_pure); exact rfl; exact rfl; exact rfl) | ((with_reducible apply LR_skip); exact rfl; exact rfl) | ((with_reducible apply LR_field_own); exact rfl; exact rfl; exact rfl) | ((with_reducible apply LR_load_own 0); exact rfl; exact rfl; exact rfl; exact rfl; exact rfl) | ((with_reducible apply LR_load_own_agg 0); exact rfl; exact rfl; exact rfl; exact rfl; exact rfl) | ((with_reducible apply LS_box); exact rfl; exact rfl; exact rfl; exact rfl; intro _) | ((with_reducible apply post_seq)) | ((with_reducible apply post_then_ret)) | ((with_reducible apply post_block_n)) | ((with_reducible apply post_block_ret)) | ((with_reducible apply CS_skip)) | ((with_reducible apply CS_ret)) | ((with_reducible apply CS_cond_t); exact rfl) | ((with_reducible apply CS_cond_f); exact rfl) | ((with_reducible apply CS_cond_d); exact rfl; all_goals intro hb; all_goals try (exfalso; omega)) | ((with_reducible apply LR_caseg_n); exact rfl; exact rfl; all_goals intro hb; all_goals try (exfalso; omega))
    all_goals (try simp only [wi_true, wi_false] at *)
    all_goals first | (exfalso; contradiction) | (exfalso; omega) | (exfalso; simp at hb <;> omega) | skip
    all_goals first
      | (apply ret_bool; exact rfl; exact rfl; exact hB.symm)
      | (apply ret_bool; exact rfl; exact rfl; exact wi_of (by rw [← hB]; omega))
      | (apply ret_bool; exact rfl; exact rfl; exact bfalse hB (by omega))
theorem svalidRule_ok (r : Ru) (w : World) (b : Bool) (hg : ROk w r) (hB : VR r ↔ b = true) : Calls Tryz.prog 109 #[ruV r] w (Gives (.bool b) w) := by
  obtain ⟨bg, hbg⟩ := bex (VG r.g)
  unfold VR kindOk at hB
  rw [hbg] at hB
  cases bg
  all_goals simp only [Bool.false_eq_true, true_and, false_and, and_false, false_iff, Bool.not_eq_true] at hB
  all_goals
    refine enter (vs := [ruV r]) Tryz.func109 rfl Tryz.ntmps109 rfl ?_
    repeat' first | ((with_reducible apply (LR_call (f := 106))); exact rfl; exact rfl; exact rfl; exact fun w hw => inRange_ok _ _ _ w) | ((with_reducible apply (LR_call (f := 141))); exact rfl; exact rfl; exact rfl; exact fun w hw => svalidGuard_ok r.g w _ (hg.mono hw) hbg) | ((with_reducible apply CS_seq)) | ((with_reducible apply CS_block)) | ((with_reducible apply CS_region)) | ((with_reducible apply RR_end)) | ((with_reducible apply LR_pure); exact rfl; exact rfl; exact rfl) | ((with_reducible apply LR_skip); exact rfl; exact rfl) | ((with_reducible apply LR_field_own); exact rfl; exact rfl; exact rfl) | ((with_reducible apply LR_load_own 0); exact rfl; exact rfl; exact rfl; exact rfl; exact rfl) | ((with_reducible apply LR_load_own_agg 0); exact rfl; exact rfl; exact rfl; exact rfl; exact rfl) | ((with_reducible apply LS_box); exact rfl; exact rfl; exact rfl; exact rfl; intro _) | ((with_reducible apply post_seq)) | ((with_reducible apply post_then_ret)) | ((with_reducible apply post_block_n)) | ((with_reducible apply post_block_ret)) | ((with_reducible apply CS_skip)) | ((with_reducible apply CS_ret)) | ((with_reducible apply CS_cond_t); exact rfl) | ((with_reducible apply CS_cond_f); exact rfl) | ((with_reducible apply CS_cond_d); exact rfl; all_goals intro hb; all_goals try (exfalso; omega)) | ((with_reducible apply LR_caseg_n); exact rfl; exact rfl; all_goals intro hb; all_goals try (exfalso; omega))
    all_goals (try simp only [wi_true, wi_false] at *)
    all_goals first | (exfalso; contradiction) | (exfalso; omega) | (exfalso; simp at hb <;> omega) | skip
    all_goals first
      | (apply ret_bool; exact rfl; exact rfl; exact hB.symm)
      | (apply ret_bool; exact rfl; exact rfl; exact wi_of (by rw [← hB]; omega))
      | (apply ret_bool; exact rfl; exact rfl; exact bfalse hB (by omega))
end Go.Proofs.YtbgfkhliideegaaGreat
