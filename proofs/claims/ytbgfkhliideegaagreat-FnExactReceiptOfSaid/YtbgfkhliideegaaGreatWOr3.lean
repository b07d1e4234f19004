/- The walks of the order of rules, of the program and of the reference. No condition beyond those that each theorem states. -/
import Derived.Test.YtbgfkhliideegaaGreatWOr2
import Derived.Test.YtbgfkhliideegaaGreatWRu2
namespace Go.Proofs.YtbgfkhliideegaaGreat
open Go.RowKit
attribute [local irreducible] Calls
theorem before_ok (a b : Ru) (w : World) (bb : Bool) (hB : bef a b ↔ bb = true) : Calls Tryz.prog 144 #[ruV a, ruV b] w (Gives (.bool bb) w) := by
  unfold bef at hB
  refine enter (vs := [ruV a, ruV b]) Tryz.func144 rfl Tryz.ntmps144 rfl ?_
  repeat' first | ((with_reducible apply CS_seq)) | ((with_reducible apply CS_region)) | ((with_reducible apply RR_end)) | ((with_reducible apply LR_pure); exact rfl; exact rfl; exact rfl) | ((with_reducible apply LR_field_own); exact rfl; exact rfl; exact rfl) | ((with_reducible apply LR_load_own 0); exact rfl; exact rfl; exact rfl; exact rfl; exact rfl) | ((with_reducible apply LR_load_own 1); exact rfl; exact rfl; exact rfl; exact rfl; exact rfl) | ((with_reducible apply LS_box); exact rfl; exact rfl; exact rfl; exact rfl; intro _) | ((with_reducible apply post_seq)) | ((with_reducible apply post_then_ret)) | ((with_reducible apply CS_skip)) | ((with_reducible apply CS_ret)) | ((with_reducible apply CS_cond_nd); exact rfl; all_goals intro hb; all_goals try (exfalso; omega))
  all_goals first | (exfalso; contradiction) | (exfalso; omega) | (exfalso; simp at hb <;> omega) | skip
  all_goals (apply ret_bool; exact rfl; exact rfl; exact b_of (by rw [← hB]; simp; omega))
theorem swap_down {s : List Ru} {x y : Ru} {j : Nat} (h0 : 0 < j) (hy : s[j-1]? = some y) : ((s.take j ++ x :: s.drop j).set j y).set (j - 1) x = s.take (j - 1) ++ x :: s.drop (j - 1) := by
  have hj := (List.getElem?_eq_some_iff.1 hy).1
  obtain ⟨i, rfl⟩ : ∃ i, j = i + 1 := ⟨j - 1, by omega⟩
  simp only [Nat.add_sub_cancel] at *
  have h1 : s.take (i + 1) = s.take i ++ [y] := by rw [List.take_add_one, hy]; rfl
  have h2 : s.drop i = y :: s.drop (i + 1) := by rw [List.drop_eq_getElem_cons hj, (List.getElem?_eq_some_iff.1 hy).2]
  have h3 : (s.take i).length = i := by rw [List.length_take]; omega
  rw [h1, h2, List.append_assoc, List.set_append_right _ _ (by omega), List.set_append_right _ _ (by omega), h3]
  simp
theorem ins_at {s : List Ru} {x : Ru} {j : Nat} (hj : j ≤ s.length) : (s.take j ++ x :: s.drop j)[j]? = some x := by
  rw [List.getElem?_append_right (by rw [List.length_take]; omega), List.length_take, show j - min j s.length = 0 by omega]
  rfl
theorem ins_prev {s : List Ru} {x y : Ru} {j : Nat} (h0 : 0 < j) (hy : s[j-1]? = some y) : (s.take j ++ x :: s.drop j)[j-1]? = some y := by
  have hj := (List.getElem?_eq_some_iff.1 hy).1
  rw [List.getElem?_append_left (by rw [List.length_take]; omega), List.getElem?_take, if_pos (by omega), hy]
theorem ins_len (s : List Ru) (x : Ru) (j : Nat) : (s.take j ++ x :: s.drop j).length = s.length + 1 := by
  simp; omega
theorem nums_new {l s : List Ru} {k : Nat} {x : Ru} (hn : Nums l) (hs : s.Perm (l.take k)) (hx : l[k]? = some x) : ∀ y ∈ s, y.num ≠ x.num := fun y hy => by
  have h1 := hs.mem_iff.1 hy
  obtain ⟨i, hi⟩ := List.mem_iff_getElem?.1 h1
  have hi2 := (List.getElem?_eq_some_iff.1 hi).1
  rw [List.length_take] at hi2
  rw [List.getElem?_take, if_pos (by omega)] at hi
  have h3 := List.pairwise_iff_getElem.1 hn i k (by omega) (List.getElem?_eq_some_iff.1 hx).1 (by omega)
  rw [(List.getElem?_eq_some_iff.1 hi).2, (List.getElem?_eq_some_iff.1 hx).2] at h3
  exact h3
theorem take_snoc {α : Type} {l : List α} {k : Nat} {x : α} (hx : l[k]? = some x) : l.take (k + 1) = l.take k ++ [x] := by
  rw [List.take_add_one, hx]; rfl
set_option maxHeartbeats 4000000 in
theorem inOrder_ok (v : Value) (l : List Ru) (w : World) (hs : Sl w v l) (hn : Nums l) (hl : l.length ≤ 100) : Calls Tryz.prog 113 #[v] w
    (fun x w' => ∃ i : Nat × Nat, ((srt l).length ≤ i.2 ∧ i.2 ≤ maxLen) ∧ x = .returned (.slice (some ⟨i.1, 0, none⟩) (srt l).length i.2) ∧ Wd w [ruE i.1 i.2 (srt l)] w') := by
  have hml : maxLen = 9223372036854775807 := rfl
  refine enter (vs := [v]) Tryz.func113 rfl Tryz.ntmps113 rfl ?_
  repeat' first | ((with_reducible apply CS_seq)) | ((with_reducible apply CS_block)) | ((with_reducible apply CS_region)) | ((with_reducible apply RR_end)) | ((with_reducible apply LR_pure); exact rfl; exact rfl; exact rfl) | ((with_reducible apply LS_buildSlice); exact rfl; exact rfl; exact rfl; exact rfl; exact rfl; exact rfl; exact rfl; intro _) | ((with_reducible apply post_seq))
  rename_i g0
  refine CS_loop (ι := Nat × Nat × Nat × List Ru) (fun i => [(0, v), (3, .slice (some ⟨i.2.1, 0, none⟩) i.2.2.2.length i.2.2.1), (4, .int .i64 (i.1 : Int))]) (fun i => Wd w [ruE i.2.1 i.2.2.1 i.2.2.2]) (fun i => i.1 ≤ l.length ∧ i.2.2.2.Perm (l.take i.1) ∧ i.2.2.2.Pairwise bef ∧ i.2.2.2.length ≤ i.2.2.1 ∧ i.2.2.1 ≤ maxLen) (fun i => l.length - i.1) (0, g0, 0, []) ⟨by dsimp only; omega, by simp, by simp, by simp, by simp⟩ ⟨rfl, rfl, rfl, trivial⟩ (fun _ hw => hw) ?_
  rintro ⟨k, g1, c1, s⟩ ⟨a1, a2, a3, a4, a5⟩
  dsimp only at a1 a2 a3 a4 a5 ⊢
  have hsl : s.length = k := by rw [a2.length_eq, List.length_take]; omega
  by_cases hk : k < l.length
  · obtain ⟨x, hx⟩ : ∃ y, l[k]? = some y := ⟨_, List.getElem?_eq_getElem hk⟩
    have hnx := nums_new hn a2 hx
    repeat' first | ((with_reducible apply (LR_index_old (k))); exact rfl; exact rfl; exact rfl; exact rfl; exact hs; omega; exact hx; exact rfl; intro _ _) | ((with_reducible apply (LS_append_one 1 0 s x)); exact rfl; exact rfl; exact rfl; exact rfl; exact rfl; exact rfl; exact rfl; exact rfl; exact rfl; exact rfl; exact rfl; omega; omega; omega; intro g4 c4 e1 e2) | ((with_reducible apply CS_seq)) | ((with_reducible apply CS_block)) | ((with_reducible apply CS_region)) | ((with_reducible apply RR_end)) | ((with_reducible apply LR_pure); exact rfl; exact rfl; exact rfl) | ((with_reducible apply LR_sub); exact rfl; exact rfl; exact rfl; exact rfl; omega; omega) | ((with_reducible apply LR_load_old_agg); exact rfl; exact rfl; exact rfl; assumption; exact rfl) | ((with_reducible apply LR_len); exact rfl; exact rfl; exact rfl) | ((with_reducible apply LR_len_sl); exact rfl; exact rfl; exact rfl; assumption) | ((with_reducible apply LS_buildSlice); exact rfl; exact rfl; exact rfl; exact rfl; exact rfl; exact rfl; exact rfl; intro _) | ((with_reducible apply post_seq)) | ((with_reducible apply CS_skip)) | ((with_reducible apply CS_cond_d); exact rfl; all_goals intro hb; all_goals try (exfalso; omega))
    refine CS_loop (ι := Nat) (fun j => [(0, v), (3, .slice (some ⟨g4, 0, none⟩) (s.length + 1) c4), (4, .int .i64 (k : Int)), (5, .int .i64 (j : Int))]) (fun j => Wd w [ruE g4 c4 (s.take j ++ x :: s.drop j)]) (fun j => j ≤ s.length ∧ ∀ y ∈ s.drop j, bef x y) (fun j => j) s.length ⟨by omega, by simp⟩ ⟨rfl, rfl, rfl, by rw [show ((s.length : Nat) : Int) = ((s.length + 1 : Nat) : Int) - 1 by omega]; rfl, trivial⟩ (fun _ hw => by rw [List.take_length, List.drop_length]; exact hw.picks [0] rfl) ?_
    rintro j ⟨j1, j2⟩
    have hlen := ins_len s x j
    have hat := ins_at (x := x) j1
    by_cases hj0 : 0 < j
    · obtain ⟨y, hy⟩ : ∃ y, s[j-1]? = some y := ⟨_, List.getElem?_eq_getElem (by omega)⟩
      have hpv := ins_prev (x := x) hj0 hy
      have hsd := swap_down (x := x) hj0 hy
      by_cases hB : bef x y
      · have hBt : bef x y ↔ true = true := by simp [hB]
        have hdr : s.drop (j - 1) = y :: s.drop j := by
          rw [List.drop_eq_getElem_cons (by omega), (List.getElem?_eq_some_iff.1 hy).2, show j - 1 + 1 = j by omega]
        repeat' first | ((with_reducible apply (LR_index_own (j))); exact rfl; exact rfl; exact rfl; exact rfl; omega; omega) | ((with_reducible apply (LR_index_own (j-1))); exact rfl; exact rfl; exact rfl; exact rfl; omega; omega) | ((with_reducible apply (LR_load_own_agg 0)); exact rfl; exact rfl; exact rfl; exact rfl; exact take_row _ (j) _ _ hat rfl) | ((with_reducible apply (LR_load_own_agg 0)); exact rfl; exact rfl; exact rfl; exact rfl; exact take_row _ (j-1) _ _ hpv rfl) | ((with_reducible apply (LR_load_own_agg 1)); exact rfl; exact rfl; exact rfl; exact rfl; exact take_row _ (j-1) _ _ hpv rfl) | ((with_reducible apply (LR_call (f := 144))); exact rfl; exact rfl; exact rfl; exact fun w hw => before_ok x y w true hBt) | ((with_reducible apply (LS_store_agg 1)); exact rfl; exact rfl; exact rfl; exact rfl; exact rfl; exact rfl; exact rfl; exact putF_set (s.take j ++ x :: s.drop j) (j) y (by first | omega | (simp only [List.length_set]; omega))) | ((with_reducible apply (LS_store_agg 0)); exact rfl; exact rfl; exact rfl; exact rfl; exact rfl; exact rfl; exact rfl; exact putF_set ((s.take j ++ x :: s.drop j).set j y) (j-1) x (by first | omega | (simp only [List.length_set]; omega))) | ((with_reducible apply CS_seq)) | ((with_reducible apply CS_block)) | ((with_reducible apply CS_region)) | ((with_reducible apply CS_regionq_wd); kernel_rfl; kernel_rfl) | ((with_reducible apply RR_end)) | ((with_reducible apply LR_pure); exact rfl; exact rfl; exact rfl) | ((with_reducible apply LR_sub); exact rfl; exact rfl; exact rfl; exact rfl; omega; omega) | ((with_reducible apply LR_load_own_agg 1); exact rfl; exact rfl; exact rfl; exact rfl; exact rfl) | ((with_reducible apply LS_alloc); exact rfl; exact rfl; exact rfl; intro _) | ((with_reducible apply LS_store_agg 0); exact rfl; exact rfl; exact rfl; exact rfl; exact rfl; exact rfl; exact rfl; exact rfl) | ((with_reducible apply post_seq)) | ((with_reducible apply post_block_n)) | ((with_reducible apply CS_skip)) | ((with_reducible apply CS_cond_t); exact rfl) | ((with_reducible apply LR_caseg_d); exact rfl; exact rfl; all_goals intro hb; all_goals try (exfalso; omega))
        all_goals first | (exfalso; contradiction) | (exfalso; omega) | (exfalso; simp at hb <;> omega) | skip
        exact post_round (i := j) (j - 1) ⟨by omega, fun z hz => by
          rw [hdr] at hz
          rcases List.mem_cons.1 hz with rfl | hz
          · exact hB
          · exact j2 z hz⟩ (by omega) ⟨rfl, rfl, rfl, by rw [show ((j - 1 : Nat) : Int) = (j : Int) - 1 by omega]; rfl, trivial⟩ (fun _ hw => by rw [← hsd]; exact hw.picks [0] rfl)
      · have hBf : bef x y ↔ false = true := by simp [hB]
        repeat' first | ((with_reducible apply (LR_index_own (j))); exact rfl; exact rfl; exact rfl; exact rfl; omega; omega) | ((with_reducible apply (LR_index_own (j-1))); exact rfl; exact rfl; exact rfl; exact rfl; omega; omega) | ((with_reducible apply (LR_load_own_agg 0)); exact rfl; exact rfl; exact rfl; exact rfl; exact take_row _ (j) _ _ hat rfl) | ((with_reducible apply (LR_load_own_agg 0)); exact rfl; exact rfl; exact rfl; exact rfl; exact take_row _ (j-1) _ _ hpv rfl) | ((with_reducible apply (LR_call (f := 144))); exact rfl; exact rfl; exact rfl; exact fun w hw => before_ok x y w false hBf) | ((with_reducible apply CS_seq)) | ((with_reducible apply CS_region)) | ((with_reducible apply CS_regionq_wd); kernel_rfl; kernel_rfl) | ((with_reducible apply RR_end)) | ((with_reducible apply LR_pure); exact rfl; exact rfl; exact rfl) | ((with_reducible apply LR_add); exact rfl; exact rfl; exact rfl; exact rfl; omega; omega) | ((with_reducible apply LR_sub); exact rfl; exact rfl; exact rfl; exact rfl; omega; omega) | ((with_reducible apply post_seq)) | ((with_reducible apply post_then_exit)) | ((with_reducible apply post_block_n)) | ((with_reducible apply post_block_eq)) | ((with_reducible apply CS_exit)) | ((with_reducible apply CS_cond_f); exact rfl) | ((with_reducible apply LR_caseg_d); exact rfl; exact rfl; all_goals intro hb; all_goals try (exfalso; omega))
        all_goals first | (exfalso; contradiction) | (exfalso; omega) | (exfalso; simp at hb <;> omega) | skip
        exact post_round (i := (k, g1, c1, s)) (k + 1, g4, c4, s.take j ++ x :: s.drop j) ⟨by dsimp only; omega, by
          dsimp only
          rw [take_snoc hx]
          exact (ins_perm s x j).trans (a2.append_right _), ins_sorted a3 hnx j1 j2 (.inr ⟨y, hy, hB⟩), by dsimp only; omega, e2⟩ (by dsimp only; omega) ⟨rfl, by dsimp only; rw [hlen]; rfl, rfl, trivial⟩ (fun _ hw => hw)
    · have hj00 : j = 0 := by omega
      subst hj00
      repeat' first | ((with_reducible apply CS_seq)) | ((with_reducible apply CS_region)) | ((with_reducible apply CS_regionq_wd); kernel_rfl; kernel_rfl) | ((with_reducible apply RR_end)) | ((with_reducible apply LR_pure); exact rfl; exact rfl; exact rfl) | ((with_reducible apply LR_skip); exact rfl; exact rfl) | ((with_reducible apply LR_add); exact rfl; exact rfl; exact rfl; exact rfl; omega; omega) | ((with_reducible apply post_seq)) | ((with_reducible apply post_then_exit)) | ((with_reducible apply post_block_n)) | ((with_reducible apply post_block_eq)) | ((with_reducible apply CS_exit)) | ((with_reducible apply CS_cond_f); exact rfl)
      all_goals first | (exfalso; contradiction) | (exfalso; omega) | (exfalso; simp at hb <;> omega) | skip
      exact post_round (i := (k, g1, c1, s)) (k + 1, g4, c4, s.take 0 ++ x :: s.drop 0) ⟨by dsimp only; omega, by
          dsimp only
          rw [take_snoc hx]
          exact (ins_perm s x 0).trans (a2.append_right _), ins_sorted a3 hnx j1 j2 (.inl rfl), by dsimp only; omega, e2⟩ (by dsimp only; omega) ⟨rfl, by dsimp only; rw [hlen]; rfl, rfl, trivial⟩ (fun _ hw => hw)
  · have hke : k = l.length := by omega
    subst hke
    rw [List.take_length] at a2
    have he := srt_eq hn a2 a3
    subst he
    repeat' first | ((with_reducible apply LR_len_sl); exact rfl; exact rfl; exact rfl; exact hs) | ((with_reducible apply CS_seq)) | ((with_reducible apply CS_region)) | ((with_reducible apply RR_end)) | ((with_reducible apply LR_pure); exact rfl; exact rfl; exact rfl) | ((with_reducible apply post_seq)) | ((with_reducible apply post_then_exit)) | ((with_reducible apply post_block_eq)) | ((with_reducible apply CS_ret)) | ((with_reducible apply CS_exit)) | ((with_reducible apply CS_cond_d); exact rfl; all_goals intro hb; all_goals try (exfalso; omega))
    all_goals first | (exfalso; contradiction) | (exfalso; omega) | (exfalso; simp at hb <;> omega) | skip
    apply post_ret1; exact rfl; exact rfl; intro w' hw'; exact ⟨(g1, c1), ⟨a4, a5⟩, rfl, hw'⟩
theorem ordered_ok (v : Value) (l : List Ru) (w : World) (hs : Sl w v l) (hn : Nums l) (hl : l.length ≤ 100) : Calls Tryz.prog 81 #[v] w
    (fun x w' => ∃ i : Nat × Nat, ((srt l).length ≤ i.2 ∧ i.2 ≤ maxLen) ∧ x = .returned (.slice (some ⟨i.1, 0, none⟩) (srt l).length i.2) ∧ Wd w [ruE i.1 i.2 (srt l)] w') := by
  have hml : maxLen = 9223372036854775807 := rfl
  have hsl := srt_len l
  refine enter (vs := [v]) Tryz.func81 rfl Tryz.ntmps81 rfl ?_
  repeat' first | ((with_reducible apply (LS_append_sl 0 ([] : List Ru) l)); exact rfl; exact rfl; exact rfl; exact rfl; exact rfl; exact rfl; exact rfl; exact rfl; exact rfl; omega; exact fun w hw => hs.mono hw; (simp only [List.length_nil]; omega); (simp only [List.length_nil]; omega); intro g c b1 b2) | ((with_reducible apply CS_seq)) | ((with_reducible apply CS_region)) | ((with_reducible apply RR_end)) | ((with_reducible apply LR_pure); exact rfl; exact rfl; exact rfl) | ((with_reducible apply LS_buildSlice); exact rfl; exact rfl; exact rfl; exact rfl; exact rfl; exact rfl; exact rfl; intro _) | ((with_reducible apply post_seq))
  simp only [List.length_nil, Nat.zero_add] at b1
  repeat' first | ((with_reducible apply (LS_callf (f := 119))); exact rfl; exact rfl; exact rfl; exact fun w hw => sortRu_ok _ _ w g c l hw (by omega); rintro l' ⟨p1, p2⟩) | ((with_reducible apply CS_seq)) | ((with_reducible apply CS_region)) | ((with_reducible apply RR_end)) | ((with_reducible apply LR_pure); exact rfl; exact rfl; exact rfl) | ((with_reducible apply post_seq)) | ((with_reducible apply CS_ret))
  have he : l' = srt l := srt_eq hn p1 (nbef_pairwise (hn.perm p1.symm) p2)
  subst he
  apply post_ret1; exact rfl; exact rfl; intro w' hw'; exact ⟨(g, c), ⟨by rw [hsl]; exact b1, b2⟩, by rw [hsl]; rfl, hw'⟩
/-- the numbers of rules in their order -/
def ordL (l : List Ru) : List Int := (srt l).map Ru.num
theorem ordL_len (l : List Ru) : (ordL l).length = l.length := by simp [ordL, srt_len]
theorem ordL_at {l : List Ru} {k : Nat} {r : Ru} (h : (srt l)[k]? = some r) : (ordL l).take (k + 1) = (ordL l).take k ++ [r.num] := by
  apply take_snoc
  simp [ordL, h]
theorem iRuleOrder_ok (v : Value) (l : List Ru) (w : World) (hs : Sl w v l) (hg : ROks w l) (hV : VRs l) : Calls Tryz.prog 61 #[v] w
    (fun x w' => ∃ i : Nat × Nat, ((ordL l).length ≤ i.2 ∧ i.2 ≤ maxLen) ∧ x = .returned (.slice (some ⟨i.1, 0, none⟩) (ordL l).length i.2) ∧ Wd w [intE i.1 i.2 (ordL l)] w') := by
  have hml : maxLen = 9223372036854775807 := rfl
  have hB : VRs l ↔ true = true := by simp [hV]
  have hn := VRs_nums hV
  have hl6 := hV.1
  have hsl := srt_len l
  have hol := ordL_len l
  refine enter (vs := [v]) Tryz.func61 rfl Tryz.ntmps61 rfl ?_
  repeat' first | ((with_reducible apply (LR_call (f := 97))); exact rfl; exact rfl; exact rfl; exact fun w hw => iValidRules_ok v l w _ (hs.mono hw) (fun r hr => (hg r hr).mono hw) hB) | ((with_reducible apply (LS_callx (f := 81))); exact rfl; exact rfl; exact rfl; exact fun w hw => ordered_ok v l w (hs.mono hw) hn (by omega); rintro ⟨gs, cs⟩ ⟨d1, d2⟩; dsimp only at d1 d2 ⊢) | ((with_reducible apply CS_seq)) | ((with_reducible apply CS_block)) | ((with_reducible apply CS_region)) | ((with_reducible apply RR_end)) | ((with_reducible apply LR_pure); exact rfl; exact rfl; exact rfl) | ((with_reducible apply LR_len); exact rfl; exact rfl; exact rfl) | ((with_reducible apply LS_buildSlice); exact rfl; exact rfl; exact rfl; exact rfl; exact rfl; exact rfl; exact rfl; intro _) | ((with_reducible apply post_seq)) | ((with_reducible apply CS_skip)) | ((with_reducible apply CS_cond_f); exact rfl)
  all_goals first | (exfalso; contradiction) | (exfalso; omega) | (exfalso; simp at hb <;> omega) | skip
  rename_i g0
  refine CS_loop (ι := Nat × Nat × Nat) (fun i => [(3, .slice (some ⟨i.2.1, 0, none⟩) ((ordL l).take i.1).length i.2.2), (12, .slice (some ⟨gs, 0, none⟩) (srt l).length cs), (13, .int .i64 (srt l).length), (14, .int .i64 (i.1 : Int))]) (fun i => Wd w [intE i.2.1 i.2.2 ((ordL l).take i.1), ruE gs cs (srt l)]) (fun i => i.1 ≤ l.length ∧ ((ordL l).take i.1).length ≤ i.2.2 ∧ i.2.2 ≤ maxLen) (fun i => l.length - i.1) (0, g0, 0) ⟨by dsimp only; omega, by simp, by simp⟩ ⟨rfl, rfl, rfl, rfl, trivial⟩ (fun _ hw => by first | exact hw.reord [1, 0] rfl | exact hw) ?_
  rintro ⟨k, g1, c1⟩ ⟨a1, a2, a3⟩
  dsimp only at a1 a2 a3 ⊢
  have htl : ((ordL l).take k).length = k := by rw [List.length_take]; omega
  by_cases hk : k < l.length
  · obtain ⟨r, hr⟩ : ∃ y, (srt l)[k]? = some y := ⟨_, List.getElem?_eq_getElem (by omega)⟩
    have hst := ordL_at hr
    repeat' first | ((with_reducible apply (LR_index_own (k))); exact rfl; exact rfl; exact rfl; exact rfl; omega; omega) | ((with_reducible apply (LR_load_own_agg 1)); exact rfl; exact rfl; exact rfl; exact rfl; exact take_row _ (k) _ _ hr rfl) | ((with_reducible apply (LS_append_one 2 0 ((ordL l).take k) r.num)); exact rfl; exact rfl; exact rfl; exact rfl; exact rfl; exact rfl; exact rfl; exact rfl; exact rfl; exact rfl; exact rfl; omega; omega; omega; intro g4 c4 e1 e2) | ((with_reducible apply CS_seq)) | ((with_reducible apply CS_block)) | ((with_reducible apply CS_region)) | ((with_reducible apply RR_end)) | ((with_reducible apply LR_pure); exact rfl; exact rfl; exact rfl) | ((with_reducible apply LR_add); exact rfl; exact rfl; exact rfl; exact rfl; omega; omega) | ((with_reducible apply LR_field_own); exact rfl; exact rfl; exact rfl) | ((with_reducible apply LR_load_own 0); exact rfl; exact rfl; exact rfl; exact rfl; exact rfl) | ((with_reducible apply LS_alloc); exact rfl; exact rfl; exact rfl; intro _) | ((with_reducible apply LS_store_agg 0); exact rfl; exact rfl; exact rfl; exact rfl; exact rfl; exact rfl; exact rfl; exact rfl) | ((with_reducible apply LS_buildSlice); exact rfl; exact rfl; exact rfl; exact rfl; exact rfl; exact rfl; exact rfl; intro _) | ((with_reducible apply post_seq)) | ((with_reducible apply post_block_n)) | ((with_reducible apply CS_skip)) | ((with_reducible apply CS_cond_d); exact rfl; all_goals intro hb; all_goals try (exfalso; omega))
    all_goals first | (exfalso; contradiction) | (exfalso; omega) | (exfalso; simp at hb <;> omega) | skip
    exact post_round (i := (k, g1, c1)) (k + 1, g4, c4) ⟨by dsimp only; omega, by dsimp only; rw [hst, List.length_append]; exact e1, e2⟩ (by dsimp only; omega) ⟨by dsimp only; rw [hst, List.length_append]; rfl, rfl, rfl, rfl, trivial⟩ (fun _ hw => by dsimp only; rw [hst]; first | exact hw.picks [0, 2] rfl | exact hw.picks [0, 1] rfl)
  · have hke : (ordL l).take k = ordL l := List.take_of_length_le (by omega)
    rw [hke] at a2 ⊢
    repeat' first | ((with_reducible apply CS_seq)) | ((with_reducible apply CS_region)) | ((with_reducible apply RR_end)) | ((with_reducible apply LR_pure); exact rfl; exact rfl; exact rfl) | ((with_reducible apply post_seq)) | ((with_reducible apply post_then_exit)) | ((with_reducible apply post_block_eq)) | ((with_reducible apply CS_ret)) | ((with_reducible apply CS_exit)) | ((with_reducible apply CS_cond_d); exact rfl; all_goals intro hb; all_goals try (exfalso; omega))
    all_goals first | (exfalso; contradiction) | (exfalso; omega) | (exfalso; simp at hb <;> omega) | skip
    apply post_ret1; exact rfl; exact rfl; intro w' hw'; exact ⟨(g1, c1), ⟨a2, a3⟩, rfl, hw'.picks [0] rfl⟩
theorem iRuleOrder_no (v : Value) (l : List Ru) (w : World) (hs : Sl w v l) (hg : ROks w l) (hV : ¬ VRs l) : Calls Tryz.prog 61 #[v] w
    (fun x w' => ∃ i : Nat, True ∧ x = .returned (.slice (some ⟨i, 0, none⟩) 0 0) ∧ Wd w [intE i 0 []] w') := by
  have hB : VRs l ↔ false = true := by simp [hV]
  refine enter (vs := [v]) Tryz.func61 rfl Tryz.ntmps61 rfl ?_
  repeat' first | ((with_reducible apply (LR_call (f := 97))); exact rfl; exact rfl; exact rfl; exact fun w hw => iValidRules_ok v l w _ (hs.mono hw) (fun r hr => (hg r hr).mono hw) hB) | ((with_reducible apply CS_seq)) | ((with_reducible apply CS_region)) | ((with_reducible apply RR_end)) | ((with_reducible apply LR_pure); exact rfl; exact rfl; exact rfl) | ((with_reducible apply LS_buildSlice); exact rfl; exact rfl; exact rfl; exact rfl; exact rfl; exact rfl; exact rfl; intro _) | ((with_reducible apply post_seq)) | ((with_reducible apply post_then_ret)) | ((with_reducible apply CS_ret)) | ((with_reducible apply CS_cond_t); exact rfl)
  all_goals first | (exfalso; contradiction) | (exfalso; omega) | (exfalso; simp at hb <;> omega) | skip
  apply post_ret1; exact rfl; exact rfl; intro w' hw'; exact ⟨_, trivial, rfl, hw'⟩
end Go.Proofs.YtbgfkhliideegaaGreat
