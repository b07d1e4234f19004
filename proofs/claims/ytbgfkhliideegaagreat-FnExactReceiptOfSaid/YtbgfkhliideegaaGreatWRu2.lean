/- The walks of the checks of lists of rules. No condition beyond those that each theorem states. -/
import Derived.Test.YtbgfkhliideegaaGreatWRu1
namespace Go.Proofs.YtbgfkhliideegaaGreat
open Go.RowKit
attribute [local irreducible] Calls
/-- each rule's counts read as they should -/
abbrev ROks (w : World) (l : List Ru) : Prop := ∀ r ∈ l, ROk w r
theorem svalidRules_ok (v : Value) (l : List Ru) (w : World) (b : Bool) (hs : Sl w v l) (hg : ROks w l) (hB : VRs l ↔ b = true) : Calls Tryz.prog 77 #[v] w (Gives (.bool b) w) := by
  have hml : maxLen = 9223372036854775807 := rfl
  have hlen := hs.len
  refine enter (vs := [v]) Tryz.func77 rfl Tryz.ntmps77 rfl ?_
  repeat' first | ((with_reducible apply CS_seq)) | ((with_reducible apply CS_block)) | ((with_reducible apply CS_region)) | ((with_reducible apply RR_end)) | ((with_reducible apply LR_pure); exact rfl; exact rfl; exact rfl) | ((with_reducible apply post_seq))
  refine CS_loop (ι := Int) (fun i => [(0, v), (3, .int .i64 i)]) (fun _ => Wd w []) (fun i => 0 ≤ i ∧ i ≤ l.length ∧ ∀ j : Nat, (j : Int) < i → ruAt l j) (fun i => (l.length - i).toNat) 0 ⟨by omega, by omega, fun j h => by omega⟩ ⟨rfl, rfl, trivial⟩ (fun _ hw => hw) ?_
  rintro i ⟨h0, h1, h2⟩
  obtain ⟨k, rfl⟩ : ∃ k : Nat, i = k := ⟨i.toNat, by omega⟩
  by_cases hi : k < l.length
  · obtain ⟨r, hc⟩ : ∃ c, l[k]? = some c := ⟨_, List.getElem?_eq_getElem (by omega)⟩
    have hrok := hg r (List.mem_of_getElem? hc)
    obtain ⟨b1, hb1⟩ := bex (VR r)
    cases b1
    · skip
      repeat' first | ((with_reducible apply (LR_index_old (k))); exact rfl; exact rfl; exact rfl; exact rfl; exact hs; omega; exact hc; exact rfl; intro _ _) | ((with_reducible apply (LR_call (f := 109))); exact rfl; exact rfl; exact rfl; exact fun w hw => svalidRule_ok r w false (hrok.mono hw) hb1) | ((with_reducible apply CS_seq)) | ((with_reducible apply CS_block)) | ((with_reducible apply CS_region)) | ((with_reducible apply RR_end)) | ((with_reducible apply LR_pure); exact rfl; exact rfl; exact rfl) | ((with_reducible apply LR_load_old_agg); exact rfl; exact rfl; exact rfl; assumption; exact rfl) | ((with_reducible apply LR_len_sl); exact rfl; exact rfl; exact rfl; assumption) | ((with_reducible apply post_seq)) | ((with_reducible apply post_then_ret)) | ((with_reducible apply post_block_ret)) | ((with_reducible apply CS_skip)) | ((with_reducible apply CS_ret)) | ((with_reducible apply CS_cond_t); exact rfl) | ((with_reducible apply CS_cond_d); exact rfl; all_goals intro hb; all_goals try (exfalso; omega))
      all_goals first | (exfalso; contradiction) | (exfalso; omega) | (exfalso; simp at hb <;> omega) | skip
      all_goals (apply ret_bool; exact rfl; exact rfl; exact bfalse hB fun h => absurd (hb1.1 (h.2 k hi r hc).1) (by simp))
    · skip
      repeat' first | ((with_reducible apply (LR_index_old (k))); exact rfl; exact rfl; exact rfl; exact rfl; exact hs; omega; exact hc; exact rfl; intro _ _) | ((with_reducible apply (LR_call (f := 109))); exact rfl; exact rfl; exact rfl; exact fun w hw => svalidRule_ok r w true (hrok.mono hw) hb1) | ((with_reducible apply CS_seq)) | ((with_reducible apply CS_block)) | ((with_reducible apply CS_region)) | ((with_reducible apply RR_end)) | ((with_reducible apply LR_pure); exact rfl; exact rfl; exact rfl) | ((with_reducible apply LR_load_old_agg); exact rfl; exact rfl; exact rfl; assumption; exact rfl) | ((with_reducible apply LR_len_sl); exact rfl; exact rfl; exact rfl; assumption) | ((with_reducible apply post_seq)) | ((with_reducible apply CS_skip)) | ((with_reducible apply CS_cond_f); exact rfl) | ((with_reducible apply CS_cond_d); exact rfl; all_goals intro hb; all_goals try (exfalso; omega))
      all_goals first | (exfalso; contradiction) | (exfalso; omega) | (exfalso; simp at hb <;> omega) | skip
      refine CS_loop (ι := Int) (fun i => [(0, v), (3, .int .i64 (k : Int)), (4, .int .i64 i)]) (fun _ => Wd w []) (fun i => 0 ≤ i ∧ i ≤ k ∧ ∀ j : Nat, (j : Int) < i → ∀ r', l[j]? = some r' → r'.num ≠ r.num) (fun i => (k - i).toNat) 0 ⟨by omega, by omega, fun j h => by omega⟩ ⟨rfl, rfl, rfl, trivial⟩ (fun _ hw => hw.nil) ?_
      rintro i ⟨h3, h4, h5⟩
      obtain ⟨m, rfl⟩ : ∃ k : Nat, i = k := ⟨i.toNat, by omega⟩
      by_cases hm : m < k
      · obtain ⟨r', hc'⟩ : ∃ c, l[m]? = some c := ⟨_, List.getElem?_eq_getElem (by omega)⟩
        by_cases he : r'.num = r.num
        · skip
          repeat' first | ((with_reducible apply (LR_index_old (m))); exact rfl; exact rfl; exact rfl; exact rfl; exact hs; omega; exact hc'; exact rfl; intro _ _) | ((with_reducible apply (LR_index_old (k))); exact rfl; exact rfl; exact rfl; exact rfl; exact hs; omega; exact hc; exact rfl; intro _ _) | ((with_reducible apply CS_seq)) | ((with_reducible apply CS_block)) | ((with_reducible apply CS_region)) | ((with_reducible apply CS_regionq_wd); kernel_rfl; kernel_rfl) | ((with_reducible apply RR_end)) | ((with_reducible apply LR_pure); exact rfl; exact rfl; exact rfl) | ((with_reducible apply LR_field); exact rfl; exact rfl; exact rfl) | ((with_reducible apply LR_load_old); exact rfl; exact rfl; exact rfl; assumption; exact rfl) | ((with_reducible apply post_seq)) | ((with_reducible apply post_then_ret)) | ((with_reducible apply post_block_ret)) | ((with_reducible apply CS_skip)) | ((with_reducible apply CS_ret)) | ((with_reducible apply CS_cond_d); exact rfl; all_goals intro hb; all_goals try (exfalso; omega))
          all_goals first | (exfalso; contradiction) | (exfalso; omega) | (exfalso; simp at hb <;> omega) | skip
          all_goals (apply ret_bool; exact rfl; exact rfl; exact bfalse hB fun h => (h.2 k hi r hc).2 m hm r' hc' he)
        · skip
          repeat' first | ((with_reducible apply (LR_index_old (m))); exact rfl; exact rfl; exact rfl; exact rfl; exact hs; omega; exact hc'; exact rfl; intro _ _) | ((with_reducible apply (LR_index_old (k))); exact rfl; exact rfl; exact rfl; exact rfl; exact hs; omega; exact hc; exact rfl; intro _ _) | ((with_reducible apply CS_seq)) | ((with_reducible apply CS_block)) | ((with_reducible apply CS_region)) | ((with_reducible apply CS_regionq_wd); kernel_rfl; kernel_rfl) | ((with_reducible apply RR_end)) | ((with_reducible apply LR_pure); exact rfl; exact rfl; exact rfl) | ((with_reducible apply LR_add); exact rfl; exact rfl; exact rfl; exact rfl; omega; omega) | ((with_reducible apply LR_field); exact rfl; exact rfl; exact rfl) | ((with_reducible apply LR_load_old); exact rfl; exact rfl; exact rfl; assumption; exact rfl) | ((with_reducible apply post_seq)) | ((with_reducible apply post_block_n)) | ((with_reducible apply CS_skip)) | ((with_reducible apply CS_cond_d); exact rfl; all_goals intro hb; all_goals try (exfalso; omega))
          all_goals first | (exfalso; contradiction) | (exfalso; omega) | (exfalso; simp at hb <;> omega) | skip
          all_goals exact post_round (i := (m : Int)) ((m : Int) + 1) ⟨by omega, by omega, fun j hj r2 hr2 => by
            by_cases hjk : j = m
            · subst hjk; rw [hc'] at hr2; cases hr2; exact he
            · exact h5 j (by omega) r2 hr2⟩ (by omega) ⟨rfl, rfl, rfl, trivial⟩ (fun _ hw => hw.nil)
      · skip
        repeat' first | ((with_reducible apply CS_seq)) | ((with_reducible apply CS_region)) | ((with_reducible apply RR_end)) | ((with_reducible apply LR_pure); exact rfl; exact rfl; exact rfl) | ((with_reducible apply LR_add); exact rfl; exact rfl; exact rfl; exact rfl; omega; omega) | ((with_reducible apply post_seq)) | ((with_reducible apply post_then_exit)) | ((with_reducible apply post_block_n)) | ((with_reducible apply post_block_eq)) | ((with_reducible apply CS_exit)) | ((with_reducible apply CS_cond_d); exact rfl; all_goals intro hb; all_goals try (exfalso; omega))
        all_goals first | (exfalso; contradiction) | (exfalso; omega) | (exfalso; simp at hb <;> omega) | skip
        all_goals exact post_round (i := (k : Int)) ((k : Int) + 1) ⟨by omega, by omega, fun j hj => by
          by_cases hjk : j = k
          · subst hjk
            exact fun r2 hr2 => by
              rw [hc] at hr2; cases hr2
              exact ⟨hb1.2 rfl, fun j2 hj2 r3 hr3 => h5 j2 (by omega) r3 hr3⟩
          · exact h2 j (by omega)⟩ (by omega) ⟨rfl, rfl, trivial⟩ (fun _ hw => hw.nil)
  · have hall : ∀ k, k < l.length → ruAt l k := fun j hj => h2 j (by omega)
    by_cases h6 : l.length ≤ 6
    · have hq := btrue hB ⟨h6, hall⟩
      repeat' first | ((with_reducible apply CS_seq)) | ((with_reducible apply CS_region)) | ((with_reducible apply RR_end)) | ((with_reducible apply LR_pure); exact rfl; exact rfl; exact rfl) | ((with_reducible apply LR_len_sl); exact rfl; exact rfl; exact rfl; assumption) | ((with_reducible apply post_seq)) | ((with_reducible apply post_then_exit)) | ((with_reducible apply post_block_eq)) | ((with_reducible apply CS_ret)) | ((with_reducible apply CS_exit)) | ((with_reducible apply CS_cond_d); exact rfl; all_goals intro hb; all_goals try (exfalso; omega))
      apply ret_bool; exact rfl; exact rfl; rw [← hq]; simp; omega
    · have hq := bfalse hB (fun h => h6 h.1)
      repeat' first | ((with_reducible apply CS_seq)) | ((with_reducible apply CS_region)) | ((with_reducible apply RR_end)) | ((with_reducible apply LR_pure); exact rfl; exact rfl; exact rfl) | ((with_reducible apply LR_len_sl); exact rfl; exact rfl; exact rfl; assumption) | ((with_reducible apply post_seq)) | ((with_reducible apply post_then_exit)) | ((with_reducible apply post_block_eq)) | ((with_reducible apply CS_ret)) | ((with_reducible apply CS_exit)) | ((with_reducible apply CS_cond_d); exact rfl; all_goals intro hb; all_goals try (exfalso; omega))
      apply ret_bool; exact rfl; exact rfl; rw [← hq]; simp; omega
theorem iValidRules_ok (v : Value) (l : List Ru) (w : World) (b : Bool) (hs : Sl w v l) (hg : ROks w l) (hB : VRs l ↔ b = true) : Calls Tryz.prog 97 #[v] w (Gives (.bool b) w) := by
  have hml : maxLen = 9223372036854775807 := rfl
  have hlen := hs.len
  refine enter (vs := [v]) Tryz.func97 rfl Tryz.ntmps97 rfl ?_
  repeat' first | ((with_reducible apply CS_seq)) | ((with_reducible apply CS_block)) | ((with_reducible apply CS_region)) | ((with_reducible apply RR_end)) | ((with_reducible apply LR_pure); exact rfl; exact rfl; exact rfl) | ((with_reducible apply LR_len_sl); exact rfl; exact rfl; exact rfl; assumption) | ((with_reducible apply post_seq))
  refine CS_loop (ι := Int) (fun i => [(0, v), (7, v), (8, .int .i64 l.length), (9, .int .i64 i)]) (fun _ => Wd w []) (fun i => 0 ≤ i ∧ i ≤ l.length ∧ ∀ j : Nat, (j : Int) < i → ruAt l j) (fun i => (l.length - i).toNat) 0 ⟨by omega, by omega, fun j h => by omega⟩ ⟨rfl, rfl, rfl, rfl, trivial⟩ (fun _ hw => hw) ?_
  rintro i ⟨h0, h1, h2⟩
  obtain ⟨k, rfl⟩ : ∃ k : Nat, i = k := ⟨i.toNat, by omega⟩
  by_cases hi : k < l.length
  · obtain ⟨r, hc⟩ : ∃ c, l[k]? = some c := ⟨_, List.getElem?_eq_getElem (by omega)⟩
    have hrok := hg r (List.mem_of_getElem? hc)
    obtain ⟨b1, hb1⟩ := bex (VR r)
    cases b1
    · skip
      repeat' first | ((with_reducible apply (LR_index_old (k))); exact rfl; exact rfl; exact rfl; exact rfl; exact hs; omega; exact hc; exact rfl; intro _ _) | ((with_reducible apply (LR_call (f := 93))); exact rfl; exact rfl; exact rfl; exact fun w hw => iValidRule_ok r w false (hrok.mono hw) hb1) | ((with_reducible apply CS_seq)) | ((with_reducible apply CS_block)) | ((with_reducible apply CS_region)) | ((with_reducible apply RR_end)) | ((with_reducible apply LR_pure); exact rfl; exact rfl; exact rfl) | ((with_reducible apply LR_load_old_agg); exact rfl; exact rfl; exact rfl; assumption; exact rfl) | ((with_reducible apply LR_load_own_agg 0); exact rfl; exact rfl; exact rfl; exact rfl; exact rfl) | ((with_reducible apply LS_alloc); exact rfl; exact rfl; exact rfl; intro _) | ((with_reducible apply LS_store_agg 0); exact rfl; exact rfl; exact rfl; exact rfl; exact rfl; exact rfl; exact rfl; exact rfl) | ((with_reducible apply post_seq)) | ((with_reducible apply post_then_ret)) | ((with_reducible apply post_block_ret)) | ((with_reducible apply CS_skip)) | ((with_reducible apply CS_ret)) | ((with_reducible apply CS_cond_t); exact rfl) | ((with_reducible apply CS_cond_d); exact rfl; all_goals intro hb; all_goals try (exfalso; omega))
      all_goals first | (exfalso; contradiction) | (exfalso; omega) | (exfalso; simp at hb <;> omega) | skip
      all_goals (apply ret_bool; exact rfl; exact rfl; exact bfalse hB fun h => absurd (hb1.1 (h.2 k hi r hc).1) (by simp))
    · skip
      repeat' first | ((with_reducible apply (LR_index_old (k))); exact rfl; exact rfl; exact rfl; exact rfl; exact hs; omega; exact hc; exact rfl; intro _ _) | ((with_reducible apply (LR_call (f := 93))); exact rfl; exact rfl; exact rfl; exact fun w hw => iValidRule_ok r w true (hrok.mono hw) hb1) | ((with_reducible apply (LR_slice_old 0 k)); exact rfl; exact rfl; exact rfl; exact rfl; exact rfl; exact hs; exact rfl; exact .inl ⟨rfl, rfl⟩; exact .inr rfl; omega; omega; intro A3 n3 c3 hs3) | ((with_reducible apply CS_seq)) | ((with_reducible apply CS_block)) | ((with_reducible apply CS_region)) | ((with_reducible apply RR_end)) | ((with_reducible apply LR_pure); exact rfl; exact rfl; exact rfl) | ((with_reducible apply LR_load_old_agg); exact rfl; exact rfl; exact rfl; assumption; exact rfl) | ((with_reducible apply LR_load_own_agg 0); exact rfl; exact rfl; exact rfl; exact rfl; exact rfl) | ((with_reducible apply LR_len); exact rfl; exact rfl; exact rfl) | ((with_reducible apply LS_alloc); exact rfl; exact rfl; exact rfl; intro _) | ((with_reducible apply LS_store_agg 0); exact rfl; exact rfl; exact rfl; exact rfl; exact rfl; exact rfl; exact rfl; exact rfl) | ((with_reducible apply post_seq)) | ((with_reducible apply CS_skip)) | ((with_reducible apply CS_cond_f); exact rfl) | ((with_reducible apply CS_cond_d); exact rfl; all_goals intro hb; all_goals try (exfalso; omega))
      all_goals first | (exfalso; contradiction) | (exfalso; omega) | (exfalso; simp at hb <;> omega) | skip
      rename_i gr
      have hn3 : n3 = k := by
        obtain ⟨_, _, _, hv, hn, _⟩ := hs3
        simp only [Value.slice.injEq] at hv
        rw [hv.2.1, hn]; simp; omega
      subst hn3
      refine CS_loop (ι := Int) (fun i => [(0, v), (4, .pointer (some ⟨gr, 0, none⟩)), (7, v), (8, .int .i64 l.length), (9, .int .i64 (n3 : Int)), (19, .slice A3 n3 c3), (20, .int .i64 n3), (21, .int .i64 i)]) (fun _ => Wd w [⟨gr, 71, 11, Enc.enc r⟩]) (fun i => 0 ≤ i ∧ i ≤ n3 ∧ ∀ j : Nat, (j : Int) < i → ∀ r', l[j]? = some r' → r'.num ≠ r.num) (fun i => (n3 - i).toNat) 0 ⟨by omega, by omega, fun j h => by omega⟩ ⟨rfl, rfl, rfl, rfl, rfl, rfl, rfl, rfl, trivial⟩ (fun _ hw => hw) ?_
      rintro i ⟨h3, h4, h5⟩
      obtain ⟨m, rfl⟩ : ∃ k : Nat, i = k := ⟨i.toNat, by omega⟩
      by_cases hm : m < n3
      · obtain ⟨r', hc'⟩ : ∃ c, l[m]? = some c := ⟨_, List.getElem?_eq_getElem (by omega)⟩
        have hc3 : (List.drop 0 (List.take n3 l))[m]? = some r' := by rw [List.drop_zero, List.getElem?_take, if_pos hm]; exact hc'
        by_cases he : r'.num = r.num
        · skip
          repeat' first | ((with_reducible apply (LR_index_old (m))); exact rfl; exact rfl; exact rfl; exact rfl; exact hs3; omega; exact hc3; exact rfl; intro _ _) | ((with_reducible apply CS_seq)) | ((with_reducible apply CS_block)) | ((with_reducible apply CS_region)) | ((with_reducible apply RR_end)) | ((with_reducible apply LR_pure); exact rfl; exact rfl; exact rfl) | ((with_reducible apply LR_field_own); exact rfl; exact rfl; exact rfl) | ((with_reducible apply LR_load_own 0); exact rfl; exact rfl; exact rfl; exact rfl; exact rfl) | ((with_reducible apply LR_load_own 1); exact rfl; exact rfl; exact rfl; exact rfl; exact rfl) | ((with_reducible apply LR_load_old_agg); exact rfl; exact rfl; exact rfl; assumption; exact rfl) | ((with_reducible apply LS_alloc); exact rfl; exact rfl; exact rfl; intro _) | ((with_reducible apply LS_store_agg 0); exact rfl; exact rfl; exact rfl; exact rfl; exact rfl; exact rfl; exact rfl; exact rfl) | ((with_reducible apply post_seq)) | ((with_reducible apply post_then_ret)) | ((with_reducible apply post_block_ret)) | ((with_reducible apply CS_skip)) | ((with_reducible apply CS_ret)) | ((with_reducible apply CS_cond_d); exact rfl; all_goals intro hb; all_goals try (exfalso; omega))
          all_goals first | (exfalso; contradiction) | (exfalso; omega) | (exfalso; simp at hb <;> omega) | skip
          all_goals (apply ret_bool; exact rfl; exact rfl; exact bfalse hB fun h => (h.2 n3 hi r hc).2 m hm r' hc' he)
        · skip
          repeat' first | ((with_reducible apply (LR_index_old (m))); exact rfl; exact rfl; exact rfl; exact rfl; exact hs3; omega; exact hc3; exact rfl; intro _ _) | ((with_reducible apply CS_seq)) | ((with_reducible apply CS_block)) | ((with_reducible apply CS_region)) | ((with_reducible apply RR_end)) | ((with_reducible apply LR_pure); exact rfl; exact rfl; exact rfl) | ((with_reducible apply LR_add); exact rfl; exact rfl; exact rfl; exact rfl; omega; omega) | ((with_reducible apply LR_field_own); exact rfl; exact rfl; exact rfl) | ((with_reducible apply LR_load_own 0); exact rfl; exact rfl; exact rfl; exact rfl; exact rfl) | ((with_reducible apply LR_load_own 1); exact rfl; exact rfl; exact rfl; exact rfl; exact rfl) | ((with_reducible apply LR_load_old_agg); exact rfl; exact rfl; exact rfl; assumption; exact rfl) | ((with_reducible apply LS_alloc); exact rfl; exact rfl; exact rfl; intro _) | ((with_reducible apply LS_store_agg 0); exact rfl; exact rfl; exact rfl; exact rfl; exact rfl; exact rfl; exact rfl; exact rfl) | ((with_reducible apply post_seq)) | ((with_reducible apply post_block_n)) | ((with_reducible apply CS_skip)) | ((with_reducible apply CS_cond_d); exact rfl; all_goals intro hb; all_goals try (exfalso; omega))
          all_goals first | (exfalso; contradiction) | (exfalso; omega) | (exfalso; simp at hb <;> omega) | skip
          all_goals exact post_round (i := (m : Int)) ((m : Int) + 1) ⟨by omega, by omega, fun j hj r2 hr2 => by
            by_cases hjk : j = m
            · subst hjk; rw [hc'] at hr2; cases hr2; exact he
            · exact h5 j (by omega) r2 hr2⟩ (by omega) ⟨rfl, rfl, rfl, rfl, rfl, rfl, rfl, rfl, trivial⟩ (fun _ hw => hw.sub (by repeat (first | exact List.Sublist.refl _ | exact List.nil_sublist _ | apply List.Sublist.cons_cons | apply List.Sublist.cons)))
      · skip
        repeat' first | ((with_reducible apply CS_seq)) | ((with_reducible apply CS_region)) | ((with_reducible apply RR_end)) | ((with_reducible apply LR_pure); exact rfl; exact rfl; exact rfl) | ((with_reducible apply LR_add); exact rfl; exact rfl; exact rfl; exact rfl; omega; omega) | ((with_reducible apply post_seq)) | ((with_reducible apply post_then_exit)) | ((with_reducible apply post_block_n)) | ((with_reducible apply post_block_eq)) | ((with_reducible apply CS_exit)) | ((with_reducible apply CS_cond_d); exact rfl; all_goals intro hb; all_goals try (exfalso; omega))
        all_goals first | (exfalso; contradiction) | (exfalso; omega) | (exfalso; simp at hb <;> omega) | skip
        all_goals exact post_round (i := (n3 : Int)) ((n3 : Int) + 1) ⟨by omega, by omega, fun j hj => by
          by_cases hjk : j = n3
          · subst hjk
            exact fun r2 hr2 => by
              rw [hc] at hr2; cases hr2
              exact ⟨hb1.2 rfl, fun j2 hj2 r3 hr3 => h5 j2 (by omega) r3 hr3⟩
          · exact h2 j (by omega)⟩ (by omega) ⟨rfl, rfl, rfl, rfl, trivial⟩ (fun _ hw => hw.nil)
  · have hall : ∀ k, k < l.length → ruAt l k := fun j hj => h2 j (by omega)
    by_cases h6 : l.length ≤ 6
    · have hq := btrue hB ⟨h6, hall⟩
      repeat' first | ((with_reducible apply CS_seq)) | ((with_reducible apply CS_region)) | ((with_reducible apply RR_end)) | ((with_reducible apply LR_pure); exact rfl; exact rfl; exact rfl) | ((with_reducible apply LR_len_sl); exact rfl; exact rfl; exact rfl; assumption) | ((with_reducible apply post_seq)) | ((with_reducible apply post_then_exit)) | ((with_reducible apply post_block_eq)) | ((with_reducible apply CS_ret)) | ((with_reducible apply CS_exit)) | ((with_reducible apply CS_cond_d); exact rfl; all_goals intro hb; all_goals try (exfalso; omega))
      apply ret_bool; exact rfl; exact rfl; rw [← hq]; simp; omega
    · have hq := bfalse hB (fun h => h6 h.1)
      repeat' first | ((with_reducible apply CS_seq)) | ((with_reducible apply CS_region)) | ((with_reducible apply RR_end)) | ((with_reducible apply LR_pure); exact rfl; exact rfl; exact rfl) | ((with_reducible apply LR_len_sl); exact rfl; exact rfl; exact rfl; assumption) | ((with_reducible apply post_seq)) | ((with_reducible apply post_then_exit)) | ((with_reducible apply post_block_eq)) | ((with_reducible apply CS_ret)) | ((with_reducible apply CS_exit)) | ((with_reducible apply CS_cond_d); exact rfl; all_goals intro hb; all_goals try (exfalso; omega))
      apply ret_bool; exact rfl; exact rfl; rw [← hq]; simp; omega
end Go.Proofs.YtbgfkhliideegaaGreat
