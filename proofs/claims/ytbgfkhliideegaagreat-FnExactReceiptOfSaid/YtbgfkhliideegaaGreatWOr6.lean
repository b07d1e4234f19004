/- The walks of the conflicts among rules and of clear lists, of the program. No condition beyond those that each theorem states. -/
import Derived.Test.YtbgfkhliideegaaGreatWOr5
namespace Go.Proofs.YtbgfkhliideegaaGreat
open Go.RowKit
attribute [local irreducible] Calls
abbrev rbP (g : Nat) (r : Ru) : Ent := ⟨g, 71, 11, Enc.enc r⟩
theorem iCf_n {a b : Ru} {w : World} (ha : ROk w a) (hb' : ROk w b) (h : ¬ Cf a b) : Calls Tryz.prog 148 #[ruV a, ruV b] w (Gives (.tuple #[ptV0, .bool false]) w) := iCf_no a b w ha hb' h
set_option maxHeartbeats 8000000 in
theorem iAllConflicts_ok (v : Value) (l : List Ru) (w : World) (hs : Sl w v l) (hg : ROks w l) (hV : VRs l) : Calls Tryz.prog 118 #[v] w
    (fun x w' => ∃ i : PgG, (IsPairs l (i.ps.map pPr) ∧ i.ps.length ≤ 1000000 ∧ i.ps.length ≤ i.c ∧ i.c ≤ maxLen ∧ PpOk i.ps) ∧ x = .returned (.slice (some ⟨i.g, 0, none⟩) i.ps.length i.c) ∧ Wd w (ppE i.g i.c i.ps :: pEs i.ps) w') := by
  have hml : maxLen = 9223372036854775807 := rfl
  have hlen := hV.1
  have hn := VRs_nums hV
  have hVb : VRs l ↔ true = true := by simp [hV]
  refine enter (vs := [v]) Tryz.func118 rfl Tryz.ntmps118 rfl ?_
  repeat' first | ((with_reducible apply (LR_call (f := 97))); exact rfl; exact rfl; exact rfl; exact fun w hw => iValidRules_ok v l w _ (hs.mono hw) (fun r hr => (hg r hr).mono hw) hVb) | ((with_reducible apply CS_seq)) | ((with_reducible apply CS_block)) | ((with_reducible apply CS_region)) | ((with_reducible apply RR_end)) | ((with_reducible apply LR_pure); exact rfl; exact rfl; exact rfl) | ((with_reducible apply LR_len_sl); exact rfl; exact rfl; exact rfl; assumption) | ((with_reducible apply LS_buildSlice); exact rfl; exact rfl; exact rfl; exact rfl; exact rfl; exact rfl; exact rfl; intro _) | ((with_reducible apply post_seq)) | ((with_reducible apply CS_skip)) | ((with_reducible apply CS_cond_f); exact rfl)
  all_goals first | (exfalso; contradiction) | (exfalso; omega) | (exfalso; simp at hb <;> omega) | skip
  rename_i g0
  refine CS_loop (ι := Nat × PgG) (fun i => [(0, v), (3, .slice (some ⟨i.2.g, 0, none⟩) i.2.ps.length i.2.c), (15, v), (16, .int .i64 l.length), (17, .int .i64 (i.1 : Int))]) (fun i => Wd w (ppE i.2.g i.2.c i.2.ps :: pEs i.2.ps)) (fun i => i.1 ≤ l.length ∧ i.2.ps.length ≤ 6 * i.1 ∧ i.2.ps.length ≤ i.2.c ∧ i.2.c ≤ maxLen ∧ PpOk i.2.ps ∧ Gat2 l (i.2.ps.map pPr) i.1 0) (fun i => l.length - i.1) (0, ⟨g0, 0, []⟩) ⟨by dsimp only; omega, by simp, by simp, by simp, PpOk.nil, gat2_start l⟩ ⟨rfl, rfl, rfl, rfl, rfl, trivial⟩ (fun _ hw => hw) ?_
  rintro ⟨i, g1, c1, ps⟩ ⟨a1, a2, a3, a4, a5, a6⟩
  dsimp only at a1 a2 a3 a4 a5 a6 ⊢
  by_cases hi : i < l.length
  · obtain ⟨x, hx⟩ : ∃ y, l[i]? = some y := ⟨_, List.getElem?_eq_getElem hi⟩
    have hxm := List.mem_of_getElem? hx
    have hxg := hg x hxm
    have hxv := VRs_all hV x hxm
    repeat' first | ((with_reducible apply (LR_index_old (i))); exact rfl; exact rfl; exact rfl; exact rfl; exact hs; omega; exact hx; exact rfl; intro _ _) | ((with_reducible apply CS_seq)) | ((with_reducible apply CS_block)) | ((with_reducible apply CS_region)) | ((with_reducible apply RR_end)) | ((with_reducible apply LR_pure); exact rfl; exact rfl; exact rfl) | ((with_reducible apply LR_load_old_agg); exact rfl; exact rfl; exact rfl; assumption; exact rfl) | ((with_reducible apply LR_len_sl); exact rfl; exact rfl; exact rfl; assumption) | ((with_reducible apply LS_alloc); exact rfl; exact rfl; exact rfl; intro _) | ((with_reducible apply LS_store_agg 0); exact rfl; exact rfl; exact rfl; exact rfl; exact rfl; exact rfl; exact rfl; exact rfl) | ((with_reducible apply post_seq)) | ((with_reducible apply CS_skip)) | ((with_reducible apply CS_cond_d); exact rfl; all_goals intro hb; all_goals try (exfalso; omega))
    all_goals first | (exfalso; contradiction) | (exfalso; omega) | (exfalso; simp at hb <;> omega) | skip
    rename_i ga
    refine CS_loop (ι := Nat × PgG) (fun k => [(0, v), (3, .slice (some ⟨k.2.g, 0, none⟩) k.2.ps.length k.2.c), (5, .pointer (some ⟨ga, 0, none⟩)), (15, v), (16, .int .i64 l.length), (17, .int .i64 (i : Int)), (21, v), (22, .int .i64 l.length), (23, .int .i64 (k.1 : Int))]) (fun k => Wd w (ppE k.2.g k.2.c k.2.ps :: rbP ga x :: pEs k.2.ps)) (fun k => k.1 ≤ l.length ∧ k.2.ps.length ≤ 6 * i + k.1 ∧ k.2.ps.length ≤ k.2.c ∧ k.2.c ≤ maxLen ∧ PpOk k.2.ps ∧ Gat2 l (k.2.ps.map pPr) i k.1) (fun k => l.length - k.1) (0, ⟨g1, c1, ps⟩) ⟨by dsimp only; omega, by dsimp only; omega, a3, a4, a5, a6⟩ ⟨rfl, rfl, rfl, rfl, rfl, rfl, rfl, rfl, rfl, trivial⟩ (fun _ hw => hw.reord [1] rfl) ?_
    clear a2 a3 a4 a5 a6
    rintro ⟨k, g2, c2, ps⟩ ⟨b1, b2, b3, b4, b5, b6⟩
    dsimp only at b1 b2 b3 b4 b5 b6 ⊢
    by_cases hk : k < l.length
    · obtain ⟨y, hy⟩ : ∃ y, l[k]? = some y := ⟨_, List.getElem?_eq_getElem hk⟩
      have hym := List.mem_of_getElem? hy
      have hyg := hg y hym
      have hyv := VRs_all hV y hym
      by_cases hC : Cf x y
      · have hCl : Cfl x y := (Cf_iff hxv hyv hC.2.2.1).1 hC
        by_cases hlt : x.num < y.num
        · have hst := gat2_yes hn b6 hx hy hlt hCl
          repeat' first | ((with_reducible apply (LR_index_old (k))); exact rfl; exact rfl; exact rfl; exact rfl; exact hs; omega; exact hy; exact rfl; intro _ _) | ((with_reducible apply (LS_callx (f := 148))); exact rfl; exact rfl; exact rfl; exact fun w hw => iCf_yes x y w (hxg.mono hw) (hyg.mono hw) hC; rintro ⟨m1, m2, m3, m4⟩ _; dsimp only [ptV] at *) | ((with_reducible apply (LS_append_one 6 0 ps ⟨_, 2, x.num, y.num⟩)); exact rfl; exact rfl; exact rfl; exact rfl; exact rfl; exact rfl; exact rfl; exact rfl; exact rfl; exact rfl; exact rfl; omega; omega; omega; intro g4 c4 e1 e2) | ((with_reducible apply CS_seq)) | ((with_reducible apply CS_block)) | ((with_reducible apply CS_region)) | ((with_reducible apply RR_end)) | ((with_reducible apply LR_pure); exact rfl; exact rfl; exact rfl) | ((with_reducible apply LR_add); exact rfl; exact rfl; exact rfl; exact rfl; omega; omega) | ((with_reducible apply LR_field_own); exact rfl; exact rfl; exact rfl) | ((with_reducible apply LR_load_own 3); exact rfl; exact rfl; exact rfl; exact rfl; exact rfl) | ((with_reducible apply LR_load_own 5); exact rfl; exact rfl; exact rfl; exact rfl; exact rfl) | ((with_reducible apply LR_load_old_agg); exact rfl; exact rfl; exact rfl; assumption; exact rfl) | ((with_reducible apply LR_load_own_agg 0); exact rfl; exact rfl; exact rfl; exact rfl; exact rfl) | ((with_reducible apply LR_load_own_agg 2); exact rfl; exact rfl; exact rfl; exact rfl; exact rfl) | ((with_reducible apply LS_alloc); exact rfl; exact rfl; exact rfl; intro _) | ((with_reducible apply LS_store_agg 0); exact rfl; exact rfl; exact rfl; exact rfl; exact rfl; exact rfl; exact rfl; exact rfl) | ((with_reducible apply LS_buildSlice); exact rfl; exact rfl; exact rfl; exact rfl; exact rfl; exact rfl; exact rfl; intro _) | ((with_reducible apply post_seq)) | ((with_reducible apply post_block_n)) | ((with_reducible apply CS_skip)) | ((with_reducible apply CS_cond_d); exact rfl; all_goals intro hb; all_goals try (exfalso; omega))
          all_goals first | (exfalso; contradiction) | (exfalso; omega) | (exfalso; simp at hb <;> omega) | skip
          rename_i gp _
          exact post_round (i := (k, (⟨g2, c2, ps⟩ : PgG))) (k + 1, ⟨g4, c4, ps ++ [⟨gp, 2, x.num, y.num⟩]⟩) ⟨by dsimp only; omega, by simp only [List.length_append, List.length_singleton]; omega, by simpa using e1, e2, b5.snoc (by dsimp only; omega) (by dsimp only; omega), by dsimp only; rw [map_snoc]; exact hst⟩ (by dsimp only; omega) ⟨rfl, by dsimp only; rw [List.length_append]; rfl, rfl, rfl, rfl, rfl, rfl, rfl, rfl, trivial⟩ (fun _ hw => by dsimp only; rw [pEs_snoc]; exact (hw.reord [0, 6, 1] rfl).sub (by repeat (first | exact List.Sublist.refl _ | exact List.nil_sublist _ | apply List.Sublist.cons_cons | apply List.Sublist.cons)))
        · have hst := gat2_no b6 hx hy (fun h => hlt h.1)
          repeat' first | ((with_reducible apply (LR_index_old (k))); exact rfl; exact rfl; exact rfl; exact rfl; exact hs; omega; exact hy; exact rfl; intro _ _) | ((with_reducible apply (LS_callx (f := 148))); exact rfl; exact rfl; exact rfl; exact fun w hw => iCf_yes x y w (hxg.mono hw) (hyg.mono hw) hC; rintro ⟨m1, m2, m3, m4⟩ _; dsimp only [ptV] at *) | ((with_reducible apply CS_seq)) | ((with_reducible apply CS_block)) | ((with_reducible apply CS_region)) | ((with_reducible apply RR_end)) | ((with_reducible apply LR_pure); exact rfl; exact rfl; exact rfl) | ((with_reducible apply LR_add); exact rfl; exact rfl; exact rfl; exact rfl; omega; omega) | ((with_reducible apply LR_field_own); exact rfl; exact rfl; exact rfl) | ((with_reducible apply LR_load_own 3); exact rfl; exact rfl; exact rfl; exact rfl; exact rfl) | ((with_reducible apply LR_load_own 5); exact rfl; exact rfl; exact rfl; exact rfl; exact rfl) | ((with_reducible apply LR_load_old_agg); exact rfl; exact rfl; exact rfl; assumption; exact rfl) | ((with_reducible apply LR_load_own_agg 0); exact rfl; exact rfl; exact rfl; exact rfl; exact rfl) | ((with_reducible apply LR_load_own_agg 2); exact rfl; exact rfl; exact rfl; exact rfl; exact rfl) | ((with_reducible apply LS_alloc); exact rfl; exact rfl; exact rfl; intro _) | ((with_reducible apply LS_store_agg 0); exact rfl; exact rfl; exact rfl; exact rfl; exact rfl; exact rfl; exact rfl; exact rfl) | ((with_reducible apply post_seq)) | ((with_reducible apply post_block_n)) | ((with_reducible apply CS_skip)) | ((with_reducible apply CS_cond_d); exact rfl; all_goals intro hb; all_goals try (exfalso; omega))
          all_goals first | (exfalso; contradiction) | (exfalso; omega) | (exfalso; simp at hb <;> omega) | skip
          exact post_round (i := (k, (⟨g2, c2, ps⟩ : PgG))) (k + 1, ⟨g2, c2, ps⟩) ⟨by dsimp only; omega, by dsimp only; omega, b3, b4, b5, hst⟩ (by dsimp only; omega) ⟨rfl, rfl, rfl, rfl, rfl, rfl, rfl, rfl, rfl, trivial⟩ (fun _ hw => hw.sub (by repeat (first | exact List.Sublist.refl _ | exact List.nil_sublist _ | apply List.Sublist.cons_cons | apply List.Sublist.cons)))
      · have hst := gat2_no b6 hx hy (fun h => hC ((Cf_iff hxv hyv (by omega)).2 h.2))
        repeat' first | ((with_reducible apply (LR_index_old (k))); exact rfl; exact rfl; exact rfl; exact rfl; exact hs; omega; exact hy; exact rfl; intro _ _) | ((with_reducible apply (LR_call (f := 148))); exact rfl; exact rfl; exact rfl; exact fun w hw => iCf_n (hxg.mono hw) (hyg.mono hw) hC) | ((with_reducible apply CS_seq)) | ((with_reducible apply CS_block)) | ((with_reducible apply CS_region)) | ((with_reducible apply RR_end)) | ((with_reducible apply LR_pure); exact rfl; exact rfl; exact rfl) | ((with_reducible apply LR_skip); exact rfl; exact rfl) | ((with_reducible apply LR_add); exact rfl; exact rfl; exact rfl; exact rfl; omega; omega) | ((with_reducible apply LR_load_old_agg); exact rfl; exact rfl; exact rfl; assumption; exact rfl) | ((with_reducible apply LR_load_own_agg 0); exact rfl; exact rfl; exact rfl; exact rfl; exact rfl) | ((with_reducible apply LR_load_own_agg 2); exact rfl; exact rfl; exact rfl; exact rfl; exact rfl) | ((with_reducible apply LS_alloc); exact rfl; exact rfl; exact rfl; intro _) | ((with_reducible apply LS_store_agg 0); exact rfl; exact rfl; exact rfl; exact rfl; exact rfl; exact rfl; exact rfl; exact rfl) | ((with_reducible apply post_seq)) | ((with_reducible apply post_block_n)) | ((with_reducible apply CS_skip)) | ((with_reducible apply CS_cond_f); exact rfl) | ((with_reducible apply CS_cond_d); exact rfl; all_goals intro hb; all_goals try (exfalso; omega))
        all_goals first | (exfalso; contradiction) | (exfalso; omega) | (exfalso; simp at hb <;> omega) | skip
        exact post_round (i := (k, (⟨g2, c2, ps⟩ : PgG))) (k + 1, ⟨g2, c2, ps⟩) ⟨by dsimp only; omega, by dsimp only; omega, b3, b4, b5, hst⟩ (by dsimp only; omega) ⟨rfl, rfl, rfl, rfl, rfl, rfl, rfl, rfl, rfl, trivial⟩ (fun _ hw => hw.sub (by repeat (first | exact List.Sublist.refl _ | exact List.nil_sublist _ | apply List.Sublist.cons_cons | apply List.Sublist.cons)))
    · have hke : k = l.length := by omega
      subst hke
      have hst := gat2_next b6
      repeat' first | ((with_reducible apply CS_seq)) | ((with_reducible apply CS_region)) | ((with_reducible apply RR_end)) | ((with_reducible apply LR_pure); exact rfl; exact rfl; exact rfl) | ((with_reducible apply LR_add); exact rfl; exact rfl; exact rfl; exact rfl; omega; omega) | ((with_reducible apply post_seq)) | ((with_reducible apply post_then_exit)) | ((with_reducible apply post_block_n)) | ((with_reducible apply post_block_eq)) | ((with_reducible apply CS_exit)) | ((with_reducible apply CS_cond_d); exact rfl; all_goals intro hb; all_goals try (exfalso; omega))
      all_goals first | (exfalso; contradiction) | (exfalso; omega) | (exfalso; simp at hb <;> omega) | skip
      exact post_round (i := (i, (⟨g1, c1, ps⟩ : PgG))) (i + 1, ⟨g2, c2, ps⟩) ⟨by dsimp only; omega, by dsimp only; omega, b3, b4, b5, hst⟩ (by dsimp only; omega) ⟨rfl, rfl, rfl, rfl, rfl, trivial⟩ (fun _ hw => hw.sub (by repeat (first | exact List.Sublist.refl _ | exact List.nil_sublist _ | apply List.Sublist.cons_cons | apply List.Sublist.cons)))
  · have hie : i = l.length := by omega
    subst hie
    by_cases hne : ps = []
    · subst hne
      have hst := gat2_end (L' := []) a6 (List.Perm.refl _) List.Pairwise.nil
      repeat' first | ((with_reducible apply (LR_call (f := 149))); exact rfl; exact rfl; exact rfl; exact fun w hw => sortPp_nil _ c1 _ w) | ((with_reducible apply CS_seq)) | ((with_reducible apply CS_region)) | ((with_reducible apply RR_end)) | ((with_reducible apply LR_pure); exact rfl; exact rfl; exact rfl) | ((with_reducible apply post_seq)) | ((with_reducible apply post_then_exit)) | ((with_reducible apply post_block_eq)) | ((with_reducible apply CS_ret)) | ((with_reducible apply CS_exit)) | ((with_reducible apply CS_cond_d); exact rfl; all_goals intro hb; all_goals try (exfalso; omega))
      all_goals first | (exfalso; contradiction) | (exfalso; omega) | (exfalso; simp at hb <;> omega) | skip
      apply post_ret1; exact rfl; exact rfl; intro w' hw'; exact ⟨⟨g1, c1, []⟩, ⟨hst, by dsimp only; omega, a3, a4, a5⟩, rfl, hw'⟩
    · skip
      repeat' first | ((with_reducible apply (LS_callf (f := 149))); exact rfl; exact rfl; exact rfl; exact fun w hw => sortPp_ok _ _ w g1 c1 ps hne hw (fun p hp => ⟨pEs_mem hp, a5 p hp⟩) (by omega); rintro l' ⟨p1, p2⟩) | ((with_reducible apply CS_seq)) | ((with_reducible apply CS_region)) | ((with_reducible apply RR_end)) | ((with_reducible apply LR_pure); exact rfl; exact rfl; exact rfl) | ((with_reducible apply post_seq)) | ((with_reducible apply post_then_exit)) | ((with_reducible apply post_block_eq)) | ((with_reducible apply CS_ret)) | ((with_reducible apply CS_exit)) | ((with_reducible apply CS_cond_d); exact rfl; all_goals intro hb; all_goals try (exfalso; omega))
      all_goals first | (exfalso; contradiction) | (exfalso; omega) | (exfalso; simp at hb <;> omega) | skip
      have hst : IsPairs l (l'.map pPr) := gat2_end a6 (p1.map _) (List.pairwise_map.2 p2)
      have hle := p1.length_eq
      apply post_ret1; exact rfl; exact rfl; intro w' hw'; exact ⟨⟨g1, c1, l'⟩, ⟨hst, by dsimp only; omega, by dsimp only; omega, a4, fun p hp => a5 p (p1.mem_iff.1 hp)⟩, by rw [hle], hw'.perm ((pEs_perm p1.symm).cons _)⟩
theorem iAllConflicts_no (v : Value) (l : List Ru) (w : World) (hs : Sl w v l) (hg : ROks w l) (hV : ¬ VRs l) : Calls Tryz.prog 118 #[v] w
    (fun x w' => ∃ i : Nat, True ∧ x = .returned (.slice (some ⟨i, 0, none⟩) 0 0) ∧ Wd w [ppE i 0 []] w') := by
  have hB : VRs l ↔ false = true := by simp [hV]
  refine enter (vs := [v]) Tryz.func118 rfl Tryz.ntmps118 rfl ?_
  repeat' first | ((with_reducible apply (LR_call (f := 97))); exact rfl; exact rfl; exact rfl; exact fun w hw => iValidRules_ok v l w _ (hs.mono hw) (fun r hr => (hg r hr).mono hw) hB) | ((with_reducible apply CS_seq)) | ((with_reducible apply CS_region)) | ((with_reducible apply RR_end)) | ((with_reducible apply LR_pure); exact rfl; exact rfl; exact rfl) | ((with_reducible apply LS_buildSlice); exact rfl; exact rfl; exact rfl; exact rfl; exact rfl; exact rfl; exact rfl; intro _) | ((with_reducible apply post_seq)) | ((with_reducible apply post_then_ret)) | ((with_reducible apply CS_ret)) | ((with_reducible apply CS_cond_t); exact rfl)
  all_goals first | (exfalso; contradiction) | (exfalso; omega) | (exfalso; simp at hb <;> omega) | skip
  apply post_ret1; exact rfl; exact rfl; intro w' hw'; exact ⟨_, trivial, rfl, hw'⟩
theorem iIsClear_ok (v : Value) (l : List Ru) (w : World) (bb : Bool) (hs : Sl w v l) (hg : ROks w l) (hB : Clear l ↔ bb = true) : Calls Tryz.prog 80 #[v] w (Gives (.bool bb) w) := by
  by_cases hV : VRs l
  · have hVb : VRs l ↔ true = true := by simp [hV]
    refine enter (vs := [v]) Tryz.func80 rfl Tryz.ntmps80 rfl ?_
    repeat' first | ((with_reducible apply (LR_call (f := 97))); exact rfl; exact rfl; exact rfl; exact fun w hw => iValidRules_ok v l w _ (hs.mono hw) (fun r hr => (hg r hr).mono hw) hVb) | ((with_reducible apply (LS_callx (f := 118))); exact rfl; exact rfl; exact rfl; exact fun w hw => iAllConflicts_ok v l w (hs.mono hw) (fun r hr => (hg r hr).mono hw) hV; rintro ⟨g1, c1, ps⟩ ⟨q1, q2, q3, q4, q5⟩; dsimp only at q1 q2 q3 q4 q5 ⊢) | ((with_reducible apply CS_seq)) | ((with_reducible apply CS_region)) | ((with_reducible apply RR_end)) | ((with_reducible apply LR_pure); exact rfl; exact rfl; exact rfl) | ((with_reducible apply LR_len); exact rfl; exact rfl; exact rfl) | ((with_reducible apply post_seq)) | ((with_reducible apply CS_ret))
    all_goals first | (exfalso; contradiction) | (exfalso; omega) | (exfalso; simp at hb <;> omega) | skip
    have hc : Clear l ↔ ps.length = 0 := by
      rw [Clear_pairs hV q1]
      constructor
      · intro h
        have := congrArg List.length h
        simpa using this
      · intro h
        rw [List.length_eq_zero_iff.1 h]; rfl
    all_goals (apply ret_bool; exact rfl; exact rfl; exact b_of (by rw [← hB, hc]; simp <;> omega))
  · have hVb : VRs l ↔ false = true := by simp [hV]
    have hbf := bfalse hB (fun h => hV h.1)
    refine enter (vs := [v]) Tryz.func80 rfl Tryz.ntmps80 rfl ?_
    repeat' first | ((with_reducible apply (LR_call (f := 97))); exact rfl; exact rfl; exact rfl; exact fun w hw => iValidRules_ok v l w _ (hs.mono hw) (fun r hr => (hg r hr).mono hw) hVb) | ((with_reducible apply CS_seq)) | ((with_reducible apply CS_region)) | ((with_reducible apply RR_end)) | ((with_reducible apply LR_pure); exact rfl; exact rfl; exact rfl) | ((with_reducible apply LR_skip); exact rfl; exact rfl) | ((with_reducible apply post_seq)) | ((with_reducible apply CS_ret))
    all_goals first | (exfalso; contradiction) | (exfalso; omega) | (exfalso; simp at hb <;> omega) | skip
    all_goals (apply ret_bool; exact rfl; exact rfl; exact hbf)
end Go.Proofs.YtbgfkhliideegaaGreat
