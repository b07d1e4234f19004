/- The walks of the helpers that turn lists of rules into own blocks and mark them. No condition beyond those that each theorem states. -/
import Derived.Test.YtbgfkhliideegaaGreatWExP
import Derived.Test.YtbgfkhliideegaaGreatWExS
namespace Go.Proofs.YtbgfkhliideegaaGreat
open Go.RowKit
attribute [local irreducible] Calls
abbrev spB (r : Ru) (b : Nat) : Ent := spE b r.g.cs.length r.g.cs
/-- rules in an own block whose counts lie in own blocks, place by place -/
def RsP (l rs : List Ru) (es : List Ent) : Prop := rs.length = l.length ∧ es.length = l.length ∧ ∀ (j : Nat) (r : Ru), l[j]? = some r → ∃ b, rs[j]? = some (reR r b) ∧ es[j]? = some (spB r b)
theorem RsP.eql {l rs : List Ru} {es : List Ent} (h : RsP l rs es) : EqL l rs := ⟨h.1.symm, fun j r r' hr hr' => by
  obtain ⟨b, h1, _⟩ := h.2.2 j r hr
  rw [h1] at hr'; cases hr'
  exact reR_eq r b⟩
theorem RsP.rsok {l rs : List Ru} {es : List Ent} (h : RsP l rs es) (hc3 : ∀ r ∈ l, r.g.cs.length ≤ 1048576) : RsOk rs es := fun w he r hr => by
  obtain ⟨j, hj⟩ := List.mem_iff_getElem?.1 hr
  have hjl := (List.getElem?_eq_some_iff.1 hj).1
  obtain ⟨c, hc⟩ : ∃ c, l[j]? = some c := ⟨_, List.getElem?_eq_getElem (by rw [← h.1]; exact hjl)⟩
  obtain ⟨b, h1, h2⟩ := h.2.2 j c hc
  rw [h1] at hj; cases hj
  have hcl := hc3 c (List.mem_of_getElem? hc)
  exact (he _ (List.mem_of_getElem? h2)).sl rfl rfl (Nat.le_refl _) (by unfold maxLen; show c.g.cs.length ≤ _; omega)
theorem toRuleS_x (v : Value) (l : List Ru) (w : World) (hs : Sl w v l) (hg : ROks w l) (hl : l.length ≤ 1048576) (hc3 : ∀ r ∈ l, r.g.cs.length ≤ 1048576) : Calls Tryz.prog 33 #[v] w
    (fun x w' => ∃ i : RsG, RsP l i.rs i.es ∧ x = .returned (.slice (some ⟨i.g, 0, none⟩) i.rs.length i.rs.length) ∧ Wd w (ruE i.g i.rs.length i.rs :: i.es) w') := by
  refine enter (vs := [v]) Tryz.func33 rfl Tryz.ntmps33 rfl ?_
  repeat' first | ((with_reducible apply (LS_make l.length ru0)); exact rfl; exact rfl; exact rfl; exact rfl; exact rfl; exact rfl; exact rfl; omega; (unfold maxLen; omega); intro g) | ((with_reducible apply CS_seq)) | ((with_reducible apply CS_block)) | ((with_reducible apply CS_region)) | ((with_reducible apply RR_end)) | ((with_reducible apply LR_pure); exact rfl; exact rfl; exact rfl) | ((with_reducible apply LR_len_sl); exact rfl; exact rfl; exact rfl; assumption) | ((with_reducible apply post_seq))
  refine CS_loop (ι := Nat × List Ru × List Ent) (fun i => [(0, v), (3, .slice (some ⟨g, 0, none⟩) l.length l.length), (4, .int .i64 (i.1 : Int))]) (fun i => Wd w (ruE g l.length i.2.1 :: i.2.2)) (fun i => i.1 ≤ l.length ∧ i.2.1.length = l.length ∧ i.2.2.length = i.1 ∧ (∀ (j : Nat) (r : Ru), j < i.1 → l[j]? = some r → ∃ b, i.2.1[j]? = some (reR r b) ∧ i.2.2[j]? = some (spB r b))) (fun i => l.length - i.1) (0, List.replicate l.length ru0, []) ⟨by dsimp only; omega, by simp, by simp, fun j r h => by dsimp only at h; omega⟩ ⟨rfl, rfl, rfl, trivial⟩ (fun _ hw => hw) ?_
  rintro ⟨k, rs, es⟩ ⟨q0, q1, q2, q3⟩
  dsimp only at q0 q1 q2 q3 ⊢
  by_cases hi : k < l.length
  · obtain ⟨c, hc⟩ : ∃ c, l[k]? = some c := ⟨_, List.getElem?_eq_getElem hi⟩
    have hrok := hg c (List.mem_of_getElem? hc)
    have hcl := hc3 c (List.mem_of_getElem? hc)
    repeat' first | ((with_reducible apply (LS_callx (f := 69))); exact rfl; exact rfl; exact rfl; exact fun w hw => toRule_ok c w (hrok.mono hw) hcl; rintro b _) | ((with_reducible apply (LR_index_old (k))); exact rfl; exact rfl; exact rfl; exact rfl; exact hs; omega; exact hc; exact rfl; intro _ _) | ((with_reducible apply (LR_index_own (k))); exact rfl; exact rfl; exact rfl; exact rfl; omega; omega) | ((with_reducible apply (LS_store_agg 1)); exact rfl; exact rfl; exact rfl; exact rfl; exact rfl; exact rfl; exact rfl; exact putF_set rs k (reR c _) (by omega)) | ((with_reducible apply CS_seq)) | ((with_reducible apply CS_block)) | ((with_reducible apply CS_region)) | ((with_reducible apply RR_end)) | ((with_reducible apply LR_pure); exact rfl; exact rfl; exact rfl) | ((with_reducible apply LR_add); exact rfl; exact rfl; exact rfl; exact rfl; omega; omega) | ((with_reducible apply LR_load_old_agg); exact rfl; exact rfl; exact rfl; assumption; exact rfl) | ((with_reducible apply LR_len_sl); exact rfl; exact rfl; exact rfl; assumption) | ((with_reducible apply post_seq)) | ((with_reducible apply post_block_n)) | ((with_reducible apply CS_skip)) | ((with_reducible apply CS_cond_d); exact rfl; all_goals intro hb; all_goals try (exfalso; omega))
    refine post_round (i := (k, rs, es)) (k + 1, rs.set k (reR c b), es ++ [spB c b]) ⟨hi, by simpa using q1, by simp [q2], fun j r hj hr => ?_⟩ (by dsimp only; omega) ⟨rfl, rfl, rfl, trivial⟩ (fun _ hw => hw.perm ((List.perm_append_singleton _ _).symm.cons _))
    dsimp only at hj ⊢
    by_cases hjk : k = j
    · subst hjk
      rw [hc] at hr; cases hr
      exact ⟨b, by rw [List.getElem?_set_self (by omega)], by rw [List.getElem?_append_right (by omega), q2, Nat.sub_self]; rfl⟩
    · obtain ⟨b', h1, h2⟩ := q3 j r (by omega) hr
      exact ⟨b', by rw [List.getElem?_set_ne hjk]; exact h1, by rw [List.getElem?_append_left (by omega)]; exact h2⟩
  · have hk : k = l.length := by omega
    subst hk
    repeat' first | ((with_reducible apply CS_seq)) | ((with_reducible apply CS_region)) | ((with_reducible apply RR_end)) | ((with_reducible apply LR_pure); exact rfl; exact rfl; exact rfl) | ((with_reducible apply LR_len_sl); exact rfl; exact rfl; exact rfl; assumption) | ((with_reducible apply post_seq)) | ((with_reducible apply post_then_exit)) | ((with_reducible apply post_block_eq)) | ((with_reducible apply CS_ret)) | ((with_reducible apply CS_exit)) | ((with_reducible apply CS_cond_d); exact rfl; all_goals intro hb; all_goals try (exfalso; omega))
    apply post_ret1; exact rfl; exact rfl; intro w' hw'
    exact ⟨⟨g, rs, es⟩, ⟨q1, q2, fun j r hr => q3 j r (List.getElem?_eq_some_iff.1 hr).1 hr⟩, by dsimp only; rw [q1], by dsimp only; rw [q1]; exact hw'⟩
/-! ## marking -/
def upd : Nat → Ru → Int → Ru
  | 0, r, a => ⟨a, r.lev, r.rank, r.grp, r.kind, r.val, r.cap, r.g⟩
  | 1, r, a => ⟨r.num, a, r.rank, r.grp, r.kind, r.val, r.cap, r.g⟩
  | 2, r, a => ⟨r.num, r.lev, a, r.grp, r.kind, r.val, r.cap, r.g⟩
  | 3, r, a => ⟨r.num, r.lev, r.rank, a, r.kind, r.val, r.cap, r.g⟩
  | 4, r, a => ⟨r.num, r.lev, r.rank, r.grp, a, r.val, r.cap, r.g⟩
  | 5, r, a => ⟨r.num, r.lev, r.rank, r.grp, r.kind, a, r.cap, r.g⟩
  | 6, r, a => ⟨r.num, r.lev, r.rank, r.grp, r.kind, r.val, a, r.g⟩
  | 7, r, a => ⟨r.num, r.lev, r.rank, r.grp, r.kind, r.val, r.cap, ⟨⟨a, r.g.tot.hi⟩, r.g.A, r.g.n, r.g.c, r.g.cs, r.g.cp⟩⟩
  | 8, r, a => ⟨r.num, r.lev, r.rank, r.grp, r.kind, r.val, r.cap, ⟨⟨r.g.tot.lo, a⟩, r.g.A, r.g.n, r.g.c, r.g.cs, r.g.cp⟩⟩
  | 10, r, a => ⟨r.num, r.lev, r.rank, r.grp, r.kind, r.val, r.cap, ⟨r.g.tot, r.g.A, r.g.n, r.g.c, r.g.cs, a⟩⟩
  | _, r, _ => r
def mdf (xs : List Ru) (k : Nat) (o : Nat) (a : Int) : List Ru := xs.set k (upd o (xs.getD k ru0) a)
theorem mdf_len (xs : List Ru) (k o : Nat) (a : Int) : (mdf xs k o a).length = xs.length := by simp [mdf]
theorem mdf_at {xs : List Ru} {k : Nat} {u : Ru} (o : Nat) (a : Int) (h : xs[k]? = some u) : (mdf xs k o a)[k]? = some (upd o u a) := by
  have hk := (List.getElem?_eq_some_iff.1 h).1
  unfold mdf
  rw [List.getElem?_set_self hk, List.getD_eq_getElem?_getD, h]; rfl
theorem mdf_ne {xs : List Ru} {k j : Nat} (o : Nat) (a : Int) (h : k ≠ j) : (mdf xs k o a)[j]? = xs[j]? := by
  unfold mdf; rw [List.getElem?_set_ne h]
theorem putF_mdf {xs : List Ru} {k : Nat} {u : Ru} (h : xs[k]? = some u) (o : Nat) (ho : o < 11) (h9 : o ≠ 9) (a : Int) : putF (flat xs) (k * Enc.k Ru + o) [.int .i64 a] = some (flat (mdf xs k o a)) := by
  have e : mdf xs k o a = xs.set k (upd o u a) := by unfold mdf; rw [List.getD_eq_getElem?_getD, h]; rfl
  rw [e]
  refine putF_fld xs k u (upd o u a) o _ h ho ?_
  match o, ho, h9 with
  | 0, _, _ => rfl
  | 1, _, _ => rfl
  | 2, _, _ => rfl
  | 3, _, _ => rfl
  | 4, _, _ => rfl
  | 5, _, _ => rfl
  | 6, _, _ => rfl
  | 7, _, _ => rfl
  | 8, _, _ => rfl
  | 9, _, h9 => exact absurd rfl h9
  | 10, _, _ => rfl
  | n + 11, ho, _ => omega
theorem split_at {es : List Ent} {j : Nat} {e : Ent} (h : es[j]? = some e) : es = es.take j ++ e :: es.drop (j + 1) := by
  have hj := (List.getElem?_eq_some_iff.1 h).1
  rw [← (List.getElem?_eq_some_iff.1 h).2, ← List.drop_eq_getElem_cons hj, List.take_append_drop]
/-- a block of a list, drawn to its front -/
theorem perm_front {es : List Ent} {j : Nat} {e : Ent} (h : es[j]? = some e) : es.Perm (e :: (es.take j ++ es.drop (j + 1))) := by
  have := List.perm_middle (a := e) (l₁ := es.take j) (l₂ := es.drop (j + 1))
  rwa [← split_at h] at this
theorem perm_back {es : List Ent} {j : Nat} (e' : Ent) (h : j < es.length) : (e' :: (es.take j ++ es.drop (j + 1))).Perm (es.set j e') := by
  have h1 : (es.set j e')[j]? = some e' := List.getElem?_set_self h
  have h2 := perm_front h1
  have e1 : (es.set j e').take j = es.take j := by
    rw [List.take_set]; exact List.set_eq_of_length_le (by rw [List.length_take]; omega)
  have e2 : (es.set j e').drop (j + 1) = es.drop (j + 1) := by
    rw [List.drop_set, if_pos (by omega)]
  rw [e1, e2] at h2
  exact h2.symm
set_option maxHeartbeats 8000000 in
theorem markRuleS_ok (w0 : World) (h : List Ent) (w : World) (g : Nat) (l rs : List Ru) (es : List Ent) (n : Nat) (k0 : Int) (en : n = rs.length) (hw : Wd w0 (ruE g n rs :: (es ++ h)) w) (hP : RsP l rs es) (hl : n ≤ 1048576) (hc3 : ∀ r ∈ l, r.g.cs.length ≤ 1048576) (h0 : 0 ≤ k0) (h1 : k0 ≤ 10000000000) :
    Calls Tryz.prog 41 #[.slice (some ⟨g, 0, none⟩) n n, .int .i64 k0] w
      (fun x w' => ∃ i : Int × List Ru × List Ent, (0 ≤ i.1 ∧ i.1 ≤ 10000000000000) ∧ x = .returned (.int .i64 i.1) ∧ Wd w0 (ruE g n i.2.1 :: (i.2.2 ++ h)) w') := by
  have hln := hP.1
  have hle := hP.2.1
  refine enter_in (vs := [.slice (some ⟨g, 0, none⟩) n n, .int .i64 k0]) hw Tryz.func41 rfl Tryz.ntmps41 rfl ?_
  repeat' first | ((with_reducible apply CS_seq)) | ((with_reducible apply CS_block)) | ((with_reducible apply CS_region)) | ((with_reducible apply RR_end)) | ((with_reducible apply LR_pure); exact rfl; exact rfl; exact rfl) | ((with_reducible apply post_seq))
  refine CS_loop (ι := Nat × Int × List Ru × List Ent) (fun i => [(0, .slice (some ⟨g, 0, none⟩) n n), (1, .int .i64 i.2.1), (5, .int .i64 (i.1 : Int))]) (fun i => Wd w0 (ruE g n i.2.2.1 :: (i.2.2.2 ++ h))) (fun i => i.1 ≤ n ∧ 0 ≤ i.2.1 ∧ i.2.1 ≤ 10000000000 + 3000000 * i.1 ∧ i.2.2.1.length = n ∧ i.2.2.2.length = n ∧ (∀ j, i.1 ≤ j → i.2.2.1[j]? = rs[j]? ∧ i.2.2.2[j]? = es[j]?)) (fun i => n - i.1) (0, k0, rs, es) ⟨by dsimp only; omega, h0, by dsimp only; omega, en.symm, by dsimp only; omega, fun j _ => ⟨rfl, rfl⟩⟩ ⟨rfl, rfl, rfl, trivial⟩ (fun _ hw => hw) ?_
  rintro ⟨k, kk, ys, fs⟩ ⟨a1, a2, a3, a4, a5, a6⟩
  dsimp only at a1 a2 a3 a4 a5 a6 ⊢
  by_cases hk : k < n
  · obtain ⟨c, hc⟩ : ∃ c, l[k]? = some c := ⟨_, List.getElem?_eq_getElem (by omega)⟩
    have hcl := hc3 c (List.mem_of_getElem? hc)
    obtain ⟨b, hb1, hb2⟩ := hP.2.2 k c hc
    have hc0 := (a6 k (Nat.le_refl k)).1.trans hb1
    have he0 := (a6 k (Nat.le_refl k)).2.trans hb2
    have pf := perm_front he0
    repeat' first | ((with_reducible apply (LR_index_own (k))); exact rfl; exact rfl; exact rfl; exact rfl; omega; omega) | ((with_reducible apply (LS_store1 0)); exact rfl; exact rfl; exact rfl; exact rfl; exact rfl; first | exact putF_mdf (by repeat (first | exact hc0 | apply mdf_at)) 0 (by decide) (by decide) _ | exact putF_mdf (by repeat (first | exact hc0 | apply mdf_at)) 1 (by decide) (by decide) _ | exact putF_mdf (by repeat (first | exact hc0 | apply mdf_at)) 2 (by decide) (by decide) _ | exact putF_mdf (by repeat (first | exact hc0 | apply mdf_at)) 3 (by decide) (by decide) _ | exact putF_mdf (by repeat (first | exact hc0 | apply mdf_at)) 4 (by decide) (by decide) _ | exact putF_mdf (by repeat (first | exact hc0 | apply mdf_at)) 5 (by decide) (by decide) _ | exact putF_mdf (by repeat (first | exact hc0 | apply mdf_at)) 6 (by decide) (by decide) _ | exact putF_mdf (by repeat (first | exact hc0 | apply mdf_at)) 7 (by decide) (by decide) _ | exact putF_mdf (by repeat (first | exact hc0 | apply mdf_at)) 8 (by decide) (by decide) _ | exact putF_mdf (by repeat (first | exact hc0 | apply mdf_at)) 10 (by decide) (by decide) _) | ((with_reducible apply (LS_store1 1)); exact rfl; exact rfl; exact rfl; exact rfl; exact rfl; first | exact putF_mdf (by repeat (first | exact hc0 | apply mdf_at)) 0 (by decide) (by decide) _ | exact putF_mdf (by repeat (first | exact hc0 | apply mdf_at)) 1 (by decide) (by decide) _ | exact putF_mdf (by repeat (first | exact hc0 | apply mdf_at)) 2 (by decide) (by decide) _ | exact putF_mdf (by repeat (first | exact hc0 | apply mdf_at)) 3 (by decide) (by decide) _ | exact putF_mdf (by repeat (first | exact hc0 | apply mdf_at)) 4 (by decide) (by decide) _ | exact putF_mdf (by repeat (first | exact hc0 | apply mdf_at)) 5 (by decide) (by decide) _ | exact putF_mdf (by repeat (first | exact hc0 | apply mdf_at)) 6 (by decide) (by decide) _ | exact putF_mdf (by repeat (first | exact hc0 | apply mdf_at)) 7 (by decide) (by decide) _ | exact putF_mdf (by repeat (first | exact hc0 | apply mdf_at)) 8 (by decide) (by decide) _ | exact putF_mdf (by repeat (first | exact hc0 | apply mdf_at)) 10 (by decide) (by decide) _) | ((with_reducible apply (LR_load_own 0)); exact rfl; exact rfl; exact rfl; exact rfl; exact nth_fld _ k _ 9 _ (mdf_at _ _ (mdf_at _ _ (mdf_at _ _ (mdf_at _ _ (mdf_at _ _ (mdf_at _ _ (mdf_at _ _ (mdf_at _ _ (mdf_at _ _ hc0))))))))) rfl) | ((with_reducible apply (LS_callf (f := 73))); exact rfl; exact rfl; exact rfl; exact fun w hw => markSpanS_ok w0 _ w b c.g.cs.length c.g.cs _ (hw.perm (((pf.append_right h).cons _).trans (List.Perm.swap _ _ _))) (by omega) (by omega) (by omega); rintro _ _) | ((with_reducible apply CS_seq)) | ((with_reducible apply CS_block)) | ((with_reducible apply CS_region)) | ((with_reducible apply RR_end)) | ((with_reducible apply LR_pure); exact rfl; exact rfl; exact rfl) | ((with_reducible apply LR_add); exact rfl; exact rfl; exact rfl; exact rfl; omega; omega) | ((with_reducible apply LR_field_own); exact rfl; exact rfl; exact rfl) | ((with_reducible apply LR_len); exact rfl; exact rfl; exact rfl) | ((with_reducible apply post_seq)) | ((with_reducible apply post_block_n)) | ((with_reducible apply CS_skip)) | ((with_reducible apply CS_cond_d); exact rfl; all_goals intro hb; all_goals try (exfalso; omega))
    all_goals first | (exfalso; contradiction) | (exfalso; omega) | (exfalso; simp at hb <;> omega) | skip
    refine post_round (i := (k, kk, ys, fs)) (k + 1, _, _, fs.set k (spE b c.g.cs.length (mkS (kk + 1 + 1 + 1 + 1 + 1 + 1 + 1 + 1 + 1) c.g.cs.length))) ⟨by dsimp only; omega, ?_, ?_, ?_, by dsimp only; rw [List.length_set]; exact a5, fun j hj => ?_⟩ (by dsimp only; omega) ⟨rfl, rfl, rfl, trivial⟩ (fun _ hw => hw.perm ((((perm_back _ (by omega)).append_right h)).cons _))
    · dsimp only; omega
    · dsimp only; omega
    · dsimp only; simp only [mdf_len, List.length_set]; exact a4
    · dsimp only at hj ⊢
      have hne : k ≠ j := by omega
      simp only [mdf_ne _ _ hne, List.getElem?_set_ne hne]
      exact a6 j (by omega)
  · skip
    repeat' first | ((with_reducible apply CS_seq)) | ((with_reducible apply CS_region)) | ((with_reducible apply RR_end)) | ((with_reducible apply LR_pure); exact rfl; exact rfl; exact rfl) | ((with_reducible apply LR_len); exact rfl; exact rfl; exact rfl) | ((with_reducible apply post_seq)) | ((with_reducible apply post_then_exit)) | ((with_reducible apply post_block_eq)) | ((with_reducible apply CS_ret)) | ((with_reducible apply CS_exit)) | ((with_reducible apply CS_cond_d); exact rfl; all_goals intro hb; all_goals try (exfalso; omega))
    all_goals first | (exfalso; contradiction) | (exfalso; omega) | (exfalso; simp at hb <;> omega) | skip
    apply post_ret1; exact rfl; exact rfl; intro w' hw'; exact ⟨(kk, ys, fs), ⟨a2, by dsimp only; omega⟩, rfl, hw'⟩
end Go.Proofs.YtbgfkhliideegaaGreat
