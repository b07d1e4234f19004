/- The walks of the helpers on lists of rules, and of FnExactValidRules. No condition beyond those that each theorem states. -/
import Derived.Test.YtbgfkhliideegaaGreatWExR
namespace Go.Proofs.YtbgfkhliideegaaGreat
open Go.RowKit
attribute [local irreducible] Calls
theorem szRuleS_ok (v : Value) (l : List Ru) (left : Int) (w : World) (hs : Sl w v l) (hg : ROks w l) (h1 : 0 ≤ left) (h2 : left ≤ 1000000000) : Calls Tryz.prog 29 #[v, .int .i64 left] w (fun x w' => ∃ n : Int, (n < 0 ∨ (0 ≤ n ∧ n ≤ left ∧ l.length ≤ left ∧ ∀ r ∈ l, r.g.cs.length ≤ left)) ∧ x = .returned (.int .i64 n) ∧ Wd w [] w') := by
  have hlen := hs.len
  simp only [maxLen] at hlen
  by_cases hl : left - l.length < 0
  · skip
    refine enter (vs := [v, .int .i64 left]) Tryz.func29 rfl Tryz.ntmps29 rfl ?_
    repeat' first | ((with_reducible apply LR_len_sl); exact rfl; exact rfl; exact rfl; exact hs) | ((with_reducible apply CS_seq)) | ((with_reducible apply CS_region)) | ((with_reducible apply RR_end)) | ((with_reducible apply LR_pure); exact rfl; exact rfl; exact rfl) | ((with_reducible apply LR_sub); exact rfl; exact rfl; exact rfl; exact rfl; omega; omega) | ((with_reducible apply post_seq)) | ((with_reducible apply post_then_ret)) | ((with_reducible apply CS_ret)) | ((with_reducible apply CS_cond_d); exact rfl; all_goals intro hb; all_goals try (exfalso; omega))
    all_goals first | (exfalso; contradiction) | (exfalso; omega) | (exfalso; simp at hb <;> omega) | skip
    all_goals (apply post_ret1; exact rfl; exact rfl; intro w' hw'; exact ⟨-1, .inl (by omega), rfl, hw'.nil⟩)
  · skip
    refine enter (vs := [v, .int .i64 left]) Tryz.func29 rfl Tryz.ntmps29 rfl ?_
    repeat' first | ((with_reducible apply LR_len_sl); exact rfl; exact rfl; exact rfl; exact hs) | ((with_reducible apply CS_seq)) | ((with_reducible apply CS_block)) | ((with_reducible apply CS_region)) | ((with_reducible apply RR_end)) | ((with_reducible apply LR_pure); exact rfl; exact rfl; exact rfl) | ((with_reducible apply LR_sub); exact rfl; exact rfl; exact rfl; exact rfl; omega; omega) | ((with_reducible apply post_seq)) | ((with_reducible apply CS_skip)) | ((with_reducible apply CS_cond_d); exact rfl; all_goals intro hb; all_goals try (exfalso; omega))
    all_goals first | (exfalso; contradiction) | (exfalso; omega) | (exfalso; simp at hb <;> omega) | skip
    refine CS_loop (ι := Nat × Int) (fun i => [(0, v), (1, .int .i64 i.2), (5, .int .i64 (i.1 : Int))]) (fun _ => Wd w []) (fun i => i.1 ≤ l.length ∧ 0 ≤ i.2 ∧ i.2 ≤ left ∧ ∀ j r, j < i.1 → l[j]? = some r → r.g.cs.length ≤ left) (fun i => l.length - i.1) (0, left - l.length) ⟨by omega, by dsimp only; omega, by dsimp only; omega, fun j r h => by dsimp only at h; omega⟩ ⟨rfl, rfl, rfl, trivial⟩ (fun _ hw => hw) ?_
    rintro ⟨k, n⟩ ⟨q0, q1, q2, q3⟩
    dsimp only at q0 q1 q2 q3 ⊢
    by_cases hi : k < l.length
    · obtain ⟨c, hc⟩ : ∃ c, l[k]? = some c := ⟨_, List.getElem?_eq_getElem hi⟩
      have hrok := hg c (List.mem_of_getElem? hc)
      repeat' first | ((with_reducible apply (LR_index_old (k))); exact rfl; exact rfl; exact rfl; exact rfl; exact hs; omega; exact hc; exact rfl; intro _ _) | ((with_reducible apply (LS_callx (f := 66))); exact rfl; exact rfl; exact rfl; exact fun w hw => szRule_ok c n w (hrok.mono hw) (by omega) (by omega); rintro n2 hn2; unfold szOk at hn2) | ((with_reducible apply CS_seq)) | ((with_reducible apply CS_block)) | ((with_reducible apply CS_region)) | ((with_reducible apply RR_end)) | ((with_reducible apply LR_pure); exact rfl; exact rfl; exact rfl) | ((with_reducible apply LR_add); exact rfl; exact rfl; exact rfl; exact rfl; omega; omega) | ((with_reducible apply LR_load_old_agg); exact rfl; exact rfl; exact rfl; assumption; exact rfl) | ((with_reducible apply LR_len_sl); exact rfl; exact rfl; exact rfl; assumption) | ((with_reducible apply post_seq)) | ((with_reducible apply post_then_ret)) | ((with_reducible apply post_block_n)) | ((with_reducible apply post_block_ret)) | ((with_reducible apply CS_skip)) | ((with_reducible apply CS_ret)) | ((with_reducible apply CS_cond_d); exact rfl; all_goals intro hb; all_goals try (exfalso; omega))
      all_goals first | (exfalso; contradiction) | (exfalso; omega) | (exfalso; simp at hb <;> omega) | skip
      · apply post_ret1; exact rfl; exact rfl; intro w' hw'; exact ⟨-1, .inl (by omega), rfl, hw'.nil⟩
      · exact post_round (i := (k, n)) (k + 1, n2) ⟨hi, by dsimp only; omega, by dsimp only; omega, fun j r hj hr => by
          dsimp only at hj
          by_cases hjk : j = k
          · subst hjk; rw [hc] at hr; cases hr; omega
          · exact q3 j r (by omega) hr⟩ (by dsimp only; omega) ⟨rfl, rfl, rfl, trivial⟩ (fun _ hw => hw.nil)
    · skip
      repeat' first | ((with_reducible apply LR_len_sl); exact rfl; exact rfl; exact rfl; exact hs) | ((with_reducible apply CS_seq)) | ((with_reducible apply CS_region)) | ((with_reducible apply RR_end)) | ((with_reducible apply LR_pure); exact rfl; exact rfl; exact rfl) | ((with_reducible apply post_seq)) | ((with_reducible apply post_then_exit)) | ((with_reducible apply post_block_eq)) | ((with_reducible apply CS_ret)) | ((with_reducible apply CS_exit)) | ((with_reducible apply CS_cond_d); exact rfl; all_goals intro hb; all_goals try (exfalso; omega))
      all_goals first | (exfalso; contradiction) | (exfalso; omega) | (exfalso; simp at hb <;> omega) | skip
      apply post_ret1; exact rfl; exact rfl; intro w' hw'; exact ⟨n, .inr ⟨q1, q2, by omega, fun r hr => by
        obtain ⟨j, hj⟩ := List.mem_iff_getElem?.1 hr
        exact q3 j r (by have := (List.getElem?_eq_some_iff.1 hj).1; omega) hj⟩, rfl, hw'.nil⟩
abbrev ru0 : Ru := ⟨0, 0, 0, 0, 0, 0, 0, ⟨⟨0, 0⟩, none, 0, 0, [], 0⟩⟩
/-- a list of rules in an own block, whose counts lie in own blocks -/
structure RsG where
  g : Nat
  rs : List Ru
  es : List Ent
/-- what is known of it: its counts read as they should wherever its blocks stand -/
def RsOk (rs : List Ru) (es : List Ent) : Prop := ∀ w, (∀ e ∈ es, e.At w) → ROks w rs
theorem RsOk.of {w0 w : World} {H : List Ent} {rs : List Ru} {es : List Ent} (h : RsOk rs es) (hw : Wd w0 H w) (hs : ∀ e ∈ es, e ∈ H) : ROks w rs := h w fun e he => (hw.at_ e (hs e he)).2
theorem toRuleS_ok (v : Value) (l : List Ru) (w : World) (hs : Sl w v l) (hg : ROks w l) (hl : l.length ≤ 1048576) (hc3 : ∀ r ∈ l, r.g.cs.length ≤ 1048576) : Calls Tryz.prog 33 #[v] w
    (fun x w' => ∃ i : RsG, (i.rs.length = l.length ∧ EqL l i.rs ∧ RsOk i.rs i.es) ∧ x = .returned (.slice (some ⟨i.g, 0, none⟩) i.rs.length i.rs.length) ∧ Wd w (ruE i.g i.rs.length i.rs :: i.es) w') := by
  refine enter (vs := [v]) Tryz.func33 rfl Tryz.ntmps33 rfl ?_
  repeat' first | ((with_reducible apply (LS_make l.length ru0)); exact rfl; exact rfl; exact rfl; exact rfl; exact rfl; exact rfl; exact rfl; omega; (unfold maxLen; omega); intro g) | ((with_reducible apply CS_seq)) | ((with_reducible apply CS_block)) | ((with_reducible apply CS_region)) | ((with_reducible apply RR_end)) | ((with_reducible apply LR_pure); exact rfl; exact rfl; exact rfl) | ((with_reducible apply LR_len_sl); exact rfl; exact rfl; exact rfl; assumption) | ((with_reducible apply post_seq))
  refine CS_loop (ι := Nat × List Ru × List Ent) (fun i => [(0, v), (3, .slice (some ⟨g, 0, none⟩) l.length l.length), (4, .int .i64 (i.1 : Int))]) (fun i => Wd w (ruE g l.length i.2.1 :: i.2.2)) (fun i => i.1 ≤ l.length ∧ i.2.1.length = l.length ∧ (∀ (j : Nat) (r r' : Ru), j < i.1 → l[j]? = some r → i.2.1[j]? = some r' → EqR r r') ∧ (∀ w, (∀ e ∈ i.2.2, e.At w) → ∀ (j : Nat) (r' : Ru), j < i.1 → i.2.1[j]? = some r' → ROk w r')) (fun i => l.length - i.1) (0, List.replicate l.length ru0, []) ⟨by omega, by simp, fun j r r' h => by dsimp only at h; omega, fun w _ j r' h => by dsimp only at h; omega⟩ ⟨rfl, rfl, rfl, trivial⟩ (fun _ hw => hw) ?_
  rintro ⟨k, rs, es⟩ ⟨q0, q1, q2, q3⟩
  dsimp only at q0 q1 q2 q3 ⊢
  by_cases hi : k < l.length
  · obtain ⟨c, hc⟩ : ∃ c, l[k]? = some c := ⟨_, List.getElem?_eq_getElem hi⟩
    have hrok := hg c (List.mem_of_getElem? hc)
    have hcl := hc3 c (List.mem_of_getElem? hc)
    repeat' first | ((with_reducible apply (LS_callx (f := 69))); exact rfl; exact rfl; exact rfl; exact fun w hw => toRule_ok c w (hrok.mono hw) hcl; rintro b _) | ((with_reducible apply (LR_index_old (k))); exact rfl; exact rfl; exact rfl; exact rfl; exact hs; omega; exact hc; exact rfl; intro _ _) | ((with_reducible apply (LR_index_own k)); exact rfl; exact rfl; exact rfl; exact rfl; omega; omega) | ((with_reducible apply (LS_store_agg 1)); exact rfl; exact rfl; exact rfl; exact rfl; exact rfl; exact rfl; exact rfl; exact putF_set rs k (reR c _) (by omega)) | ((with_reducible apply CS_seq)) | ((with_reducible apply CS_block)) | ((with_reducible apply CS_region)) | ((with_reducible apply RR_end)) | ((with_reducible apply LR_pure); exact rfl; exact rfl; exact rfl) | ((with_reducible apply LR_add); exact rfl; exact rfl; exact rfl; exact rfl; omega; omega) | ((with_reducible apply LR_load_old_agg); exact rfl; exact rfl; exact rfl; assumption; exact rfl) | ((with_reducible apply LR_len_sl); exact rfl; exact rfl; exact rfl; assumption) | ((with_reducible apply post_seq)) | ((with_reducible apply post_block_n)) | ((with_reducible apply CS_skip)) | ((with_reducible apply CS_cond_d); exact rfl; all_goals intro hb; all_goals try (exfalso; omega))
    refine post_round (i := (k, rs, es)) (k + 1, rs.set k (reR c b), spE b c.g.cs.length c.g.cs :: es) ⟨hi, by simpa using q1, fun j r r' hj hr hr' => ?_, fun w he j r' hj hr' => ?_⟩ (by dsimp only; omega) ⟨rfl, rfl, rfl, trivial⟩ (fun _ hw => hw)
    · dsimp only at hj hr'
      rw [List.getElem?_set] at hr'
      by_cases hjk : k = j
      · subst hjk
        rw [if_pos rfl, if_pos (by omega)] at hr'
        rw [hc] at hr; cases hr; cases hr'
        exact reR_eq c b
      · rw [if_neg hjk] at hr'
        exact q2 j r r' (by omega) hr hr'
    · dsimp only at hj hr'
      rw [List.getElem?_set] at hr'
      by_cases hjk : k = j
      · subst hjk
        rw [if_pos rfl, if_pos (by omega)] at hr'
        cases hr'
        exact (he _ (List.mem_cons_self)).sl rfl rfl (Nat.le_refl _) (by unfold maxLen; show c.g.cs.length ≤ _; omega)
      · rw [if_neg hjk] at hr'
        exact q3 w (fun e h => he e (List.mem_cons_of_mem _ h)) j r' (by omega) hr'
  · have hk : k = l.length := by omega
    subst hk
    repeat' first | ((with_reducible apply CS_seq)) | ((with_reducible apply CS_region)) | ((with_reducible apply RR_end)) | ((with_reducible apply LR_pure); exact rfl; exact rfl; exact rfl) | ((with_reducible apply LR_len_sl); exact rfl; exact rfl; exact rfl; assumption) | ((with_reducible apply post_seq)) | ((with_reducible apply post_then_exit)) | ((with_reducible apply post_block_eq)) | ((with_reducible apply CS_ret)) | ((with_reducible apply CS_exit)) | ((with_reducible apply CS_cond_d); exact rfl; all_goals intro hb; all_goals try (exfalso; omega))
    apply post_ret1; exact rfl; exact rfl; intro w' hw'
    refine ⟨⟨g, rs, es⟩, ⟨q1, ⟨q1.symm, fun j r r' hr hr' => q2 j r r' (List.getElem?_eq_some_iff.1 hr).1 hr hr'⟩, fun w he r hr => ?_⟩, by dsimp only; rw [q1], by dsimp only; rw [q1]; exact hw'⟩
    obtain ⟨j, hj⟩ := List.mem_iff_getElem?.1 hr
    exact q3 w he j r (by have := (List.getElem?_eq_some_iff.1 hj).1; dsimp only at this; omega) hj
theorem toRuleS_r (v : Value) (l : List Ru) (w : World) (hs : Sl w v l) (hg : ROks w l) (hl : l.length ≤ 1048576) (hc3 : ∀ r ∈ l, r.g.cs.length ≤ 1048576) : Calls Tryz.prog 33 #[v] w
    (fun x w' => ∃ i : Value × List Ru, (Sl w' i.1 i.2 ∧ ROks w' i.2 ∧ EqL l i.2) ∧ x = .returned i.1 ∧ Wd w [] w') :=
  (toRuleS_ok v l w hs hg hl hc3).mono fun x w' ⟨i, ⟨h1, h2, h3⟩, h4, h5⟩ => ⟨(_, i.rs), ⟨h5.head.sl rfl rfl (Nat.le_refl _) (by unfold maxLen; omega), h3.of h5.tail fun e he => he, h2⟩, h4, h5.nil⟩
theorem eqRuleS_ok (v v' : Value) (l l' : List Ru) (w : World) (hs : Sl w v l) (hs' : Sl w v' l') (hg : ROks w l) (hg' : ROks w l') (he : EqL l l') : Calls Tryz.prog 37 #[v, v'] w (Gives (.bool true) w) := by
  have hlen := hs.len
  simp only [maxLen] at hlen
  have hll := he.1
  refine enter (vs := [v, v']) Tryz.func37 rfl Tryz.ntmps37 rfl ?_
  repeat' first | ((with_reducible apply LR_len_sl); exact rfl; exact rfl; exact rfl; exact hs) | ((with_reducible apply LR_len_sl); exact rfl; exact rfl; exact rfl; exact hs') | ((with_reducible apply CS_seq)) | ((with_reducible apply CS_block)) | ((with_reducible apply CS_region)) | ((with_reducible apply RR_end)) | ((with_reducible apply LR_pure); exact rfl; exact rfl; exact rfl) | ((with_reducible apply post_seq)) | ((with_reducible apply CS_skip)) | ((with_reducible apply CS_cond_nd); exact rfl; all_goals intro hb; all_goals try (exfalso; omega))
  all_goals first | (exfalso; contradiction) | (exfalso; omega) | (exfalso; simp at hb <;> omega) | skip
  refine CS_loop (ι := Int) (fun i => [(0, v), (1, v'), (5, .int .i64 i)]) (fun _ => Wd w []) (fun i => 0 ≤ i ∧ i ≤ l.length) (fun i => (l.length - i).toNat) 0 ⟨by omega, by omega⟩ ⟨rfl, rfl, rfl, trivial⟩ (fun _ hw => hw) ?_
  rintro i ⟨h0, h1⟩
  obtain ⟨k, hk⟩ : ∃ k : Nat, i = k := ⟨i.toNat, by omega⟩
  by_cases hi : k < l.length
  · obtain ⟨c, hc⟩ : ∃ c, l[k]? = some c := ⟨_, List.getElem?_eq_getElem hi⟩
    obtain ⟨c', hc'⟩ : ∃ c, l'[k]? = some c := ⟨_, List.getElem?_eq_getElem (by omega)⟩
    have e := he.2 k c c' hc hc'
    have r1 := hg c (List.mem_of_getElem? hc)
    have r2 := hg' c' (List.mem_of_getElem? hc')
    repeat' first | ((with_reducible apply LR_len_sl); exact rfl; exact rfl; exact rfl; exact hs) | ((with_reducible apply (LR_call (f := 72))); exact rfl; exact rfl; exact rfl; exact fun w hw => eqRule_ok c c' w (r1.mono hw) (r2.mono hw) e) | ((with_reducible apply (LR_index_old (k))); exact rfl; exact rfl; exact rfl; exact rfl; exact hs; omega; exact hc; exact rfl; intro _ _) | ((with_reducible apply (LR_index_old (k))); exact rfl; exact rfl; exact rfl; exact rfl; exact hs'; omega; exact hc'; exact rfl; intro _ _) | ((with_reducible apply CS_seq)) | ((with_reducible apply CS_block)) | ((with_reducible apply CS_region)) | ((with_reducible apply CS_regionq_wd); kernel_rfl; kernel_rfl) | ((with_reducible apply RR_end)) | ((with_reducible apply LR_pure); exact rfl; exact rfl; exact rfl) | ((with_reducible apply LR_add); exact rfl; exact rfl; exact rfl; exact rfl; omega; omega) | ((with_reducible apply LR_load_old_agg); exact rfl; exact rfl; exact rfl; assumption; exact rfl) | ((with_reducible apply post_seq)) | ((with_reducible apply post_block_n)) | ((with_reducible apply CS_skip)) | ((with_reducible apply CS_cond_f); exact rfl) | ((with_reducible apply CS_cond_d); exact rfl; all_goals intro hb; all_goals try (exfalso; omega))
    all_goals first | (exfalso; contradiction) | (exfalso; omega) | (exfalso; simp at hb <;> omega) | skip
    exact post_round (i := i) (i + 1) ⟨by omega, by omega⟩ (by omega) ⟨rfl, rfl, rfl, trivial⟩ (fun _ hw => hw.nil)
  · skip
    repeat' first | ((with_reducible apply LR_len_sl); exact rfl; exact rfl; exact rfl; exact hs) | ((with_reducible apply CS_seq)) | ((with_reducible apply CS_region)) | ((with_reducible apply RR_end)) | ((with_reducible apply LR_pure); exact rfl; exact rfl; exact rfl) | ((with_reducible apply post_seq)) | ((with_reducible apply post_then_exit)) | ((with_reducible apply post_block_eq)) | ((with_reducible apply CS_ret)) | ((with_reducible apply CS_exit)) | ((with_reducible apply CS_cond_d); exact rfl; all_goals intro hb; all_goals try (exfalso; omega))
    all_goals first | (exfalso; contradiction) | (exfalso; omega) | (exfalso; simp at hb <;> omega) | skip
    apply ret_bool; exact rfl; exact rfl; rfl
end Go.Proofs.YtbgfkhliideegaaGreat
