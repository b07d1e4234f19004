/- The walk of the exact law on the conflicts among rules. No condition beyond those that each theorem states. -/
import Derived.Test.YtpflkichnjfgkaaWExI
import Derived.Test.YtpflkichnjfgkaaWOr8
namespace Go.Proofs.Ytpflkichnjfgkaa
open Go.RowKit
attribute [local irreducible] Calls
/-- pairs whose numbers are marked one after another -/
def mkP (k0 : Int) (ps : List Pp) : List Pp := ps.mapIdx fun j p => ⟨p.g, p.c, k0 + 2 * (j : Int), k0 + 2 * (j : Int) + 1⟩
theorem mkP_len (k0 : Int) (ps : List Pp) : (mkP k0 ps).length = ps.length := by simp [mkP]
theorem mkP_at {k0 : Int} {ps : List Pp} {j : Nat} {p : Pp} (h : ps[j]? = some p) : (mkP k0 ps)[j]? = some ⟨p.g, p.c, k0 + 2 * (j : Int), k0 + 2 * (j : Int) + 1⟩ := by simp [mkP, h]
theorem mk1_two (k : Int) : mk1 k 2 = [k, k + 1] := by
  apply List.ext_getElem?
  intro j
  by_cases hj : j < 2
  · rw [mk1_at hj]
    match j, hj with
    | 0, _ => simp
    | 1, _ => simp
  · rw [List.getElem?_eq_none (by rw [mk1_len]; omega), List.getElem?_eq_none (by simp; omega)]
theorem map_set_pEnt (xs : List Pp) (k : Nat) (p : Pp) : (xs.map pEnt).set k (pEnt p) = (xs.set k p).map pEnt := by rw [List.map_set]
set_option maxHeartbeats 4000000 in
theorem markIntSS_ok (w0 : World) (h : List Ent) (w : World) (g c : Nat) (ps : List Pp) (k0 : Int) (hw : Wd w0 (ppE g c ps :: (ps.map pEnt ++ h)) w) (hp : PpOk ps) (hx : ps.length ≤ 1000000) (h0 : 0 ≤ k0) (h1 : k0 ≤ 1000000) :
    Calls Try.prog 37 #[.slice (some ⟨g, 0, none⟩) ps.length c, .int .i64 k0] w
      (fun x w' => ∃ _ : Unit, True ∧ x = .returned (.int .i64 (k0 + 2 * ps.length)) ∧ Wd w0 (ppE g c ps :: ((mkP k0 ps).map pEnt ++ h)) w') := by
  have hm := mkP_len k0 ps
  refine enter_in (vs := [.slice (some ⟨g, 0, none⟩) ps.length c, .int .i64 k0]) hw Try.func37 rfl Try.ntmps37 rfl ?_
  repeat' first
    | ((with_reducible apply CS_seq))
    | ((with_reducible apply CS_block))
    | ((with_reducible apply CS_region))
    | ((with_reducible apply RR_end))
    | ((with_reducible apply LR_pure); exact rfl; exact rfl; exact rfl)
    | ((with_reducible apply LR_add); exact rfl; exact rfl; exact rfl; exact rfl; omega; omega)
    | ((with_reducible apply LR_load_own 0); exact rfl; exact rfl; exact rfl; exact rfl; exact rfl)
    | ((with_reducible apply LR_load_own 1); exact rfl; exact rfl; exact rfl; exact rfl; exact rfl)
    | ((with_reducible apply LR_load_own 2); exact rfl; exact rfl; exact rfl; exact rfl; exact rfl)
    | ((with_reducible apply LR_load_own 3); exact rfl; exact rfl; exact rfl; exact rfl; exact rfl)
    | ((with_reducible apply LR_load_own 4); exact rfl; exact rfl; exact rfl; exact rfl; exact rfl)
    | ((with_reducible apply LR_load_old); exact rfl; exact rfl; exact rfl; assumption; exact rfl)
    | ((with_reducible apply LR_load_old0); exact rfl; exact rfl; exact rfl; assumption; exact rfl)
    | ((with_reducible apply LR_load_old_agg); exact rfl; exact rfl; exact rfl; assumption; exact rfl)
    | ((with_reducible apply LR_load_old_aggk); exact rfl; exact rfl; exact rfl; assumption; exact rfl)
    | ((with_reducible apply LR_load_own_agg 0); exact rfl; exact rfl; exact rfl; exact rfl; exact rfl)
    | ((with_reducible apply LR_load_own_agg 1); exact rfl; exact rfl; exact rfl; exact rfl; exact rfl)
    | ((with_reducible apply LR_load_own_agg 2); exact rfl; exact rfl; exact rfl; exact rfl; exact rfl)
    | ((with_reducible apply LR_load_own_agg 3); exact rfl; exact rfl; exact rfl; exact rfl; exact rfl)
    | ((with_reducible apply LR_load_own_agg 4); exact rfl; exact rfl; exact rfl; exact rfl; exact rfl)
    | ((with_reducible apply LR_len); exact rfl; exact rfl; exact rfl)
    | ((with_reducible apply LR_len_sl); exact rfl; exact rfl; exact rfl; assumption)
    | ((with_reducible apply LR_index_any); exact rfl; exact rfl; exact rfl; exact rfl; assumption; omega; omega; exact rfl; intro _ _ _ _)
    | ((with_reducible apply LR_load_cls0); exact rfl; exact rfl; exact rfl; assumption; exact rfl)
    | ((with_reducible apply LR_load_cls); exact rfl; exact rfl; exact rfl; assumption; exact rfl)
    | ((with_reducible apply LR_load_cls_agg); exact rfl; exact rfl; exact rfl; assumption; exact rfl)
    | ((with_reducible apply post_seq))
    | ((with_reducible apply post_then_ret))
    | ((with_reducible apply post_then_exit))
    | ((with_reducible apply post_block_n))
    | ((with_reducible apply post_block_ret))
    | ((with_reducible apply post_block_eq))
    | ((with_reducible apply post_block_ne); exact rfl)
    | ((with_reducible apply CS_skip))
    | ((with_reducible apply CS_ret))
    | ((with_reducible apply CS_exit))
    | ((with_reducible apply CS_cond_t); exact rfl)
    | ((with_reducible apply CS_cond_f); exact rfl)
    | ((with_reducible apply CS_cond_nd); exact rfl; all_goals intro hb; all_goals try (exfalso; omega))
    | ((with_reducible apply CS_cond_d); exact rfl; all_goals intro hb; all_goals try (exfalso; omega))
    | ((with_reducible apply CS_cond_n); exact rfl; all_goals intro hb; all_goals try (exfalso; omega))
    | ((with_reducible apply CS_cond); exact rfl; all_goals intro hb; all_goals try (exfalso; omega))
  refine CS_loop (ι := Nat) (fun i => [(0, .slice (some ⟨g, 0, none⟩) ps.length c), (1, .int .i64 (k0 + 2 * (i : Int))), (5, .int .i64 (i : Int))]) (fun i => Wd w0 (ppE g c ps :: ((mix (mkP k0 ps) ps i).map pEnt ++ h))) (fun i => i ≤ ps.length) (fun i => ps.length - i) 0 (by omega) ⟨rfl, by rw [show k0 + 2 * ((0 : Nat) : Int) = k0 by omega]; rfl, rfl, trivial⟩ (fun _ hw => by rw [mix_zero]; exact hw) ?_
  intro k hkl
  by_cases hk : k < ps.length
  · obtain ⟨p, hpk⟩ : ∃ c, ps[k]? = some c := ⟨_, List.getElem?_eq_getElem hk⟩
    have hpo := hp p (List.mem_of_getElem? hpk)
    have hml := mix_len hm k
    have hat : ((mix (mkP k0 ps) ps k).map pEnt)[k]? = some (pEnt p) := by
      rw [List.getElem?_map]
      have : (mix (mkP k0 ps) ps k)[k]? = some p := by
        unfold mix
        rw [List.getElem?_append_right (by rw [List.length_take]; omega), List.length_take, show k - min k (mkP k0 ps).length = 0 by omega, List.getElem?_drop]
        simpa using hpk
      rw [this]; rfl
    have pf := perm_front hat
    have hst : ((mix (mkP k0 ps) ps k).map pEnt).set k (intE p.g p.c (mk1 (k0 + 2 * (k : Int)) 2)) = (mix (mkP k0 ps) ps (k + 1)).map pEnt := by
      rw [mk1_two, ← mix_set hm (mkP_at hpk), ← map_set_pEnt]
    repeat' first
      | ((with_reducible apply (LR_index_own (k))); exact rfl; exact rfl; exact rfl; exact rfl; omega; omega)
      | ((with_reducible apply (LR_load_own 0)); exact rfl; exact rfl; exact rfl; exact rfl; exact nth_fld _ k p 0 _ hpk rfl)
      | ((with_reducible apply (LS_callf (f := 30))); exact rfl; exact rfl; exact rfl; exact fun w hw => markIntS_ok w0 _ w p.g p.c [p.a, p.b] _ (hw.perm (((pf.append_right h).cons _).trans (List.Perm.swap _ _ _))) (by simp) (by omega) (by omega) hpo.1 hpo.2; rintro _ _)
      | ((with_reducible apply CS_seq))
      | ((with_reducible apply CS_block))
      | ((with_reducible apply CS_region))
      | ((with_reducible apply RR_end))
      | ((with_reducible apply LR_pure); exact rfl; exact rfl; exact rfl)
      | ((with_reducible apply LR_add); exact rfl; exact rfl; exact rfl; exact rfl; omega; omega)
      | ((with_reducible apply LR_load_own 0); exact rfl; exact rfl; exact rfl; exact rfl; exact rfl)
      | ((with_reducible apply LR_load_own 1); exact rfl; exact rfl; exact rfl; exact rfl; exact rfl)
      | ((with_reducible apply LR_load_own 2); exact rfl; exact rfl; exact rfl; exact rfl; exact rfl)
      | ((with_reducible apply LR_load_own 3); exact rfl; exact rfl; exact rfl; exact rfl; exact rfl)
      | ((with_reducible apply LR_load_own 4); exact rfl; exact rfl; exact rfl; exact rfl; exact rfl)
      | ((with_reducible apply LR_load_old); exact rfl; exact rfl; exact rfl; assumption; exact rfl)
      | ((with_reducible apply LR_load_old0); exact rfl; exact rfl; exact rfl; assumption; exact rfl)
      | ((with_reducible apply LR_load_old_agg); exact rfl; exact rfl; exact rfl; assumption; exact rfl)
      | ((with_reducible apply LR_load_old_aggk); exact rfl; exact rfl; exact rfl; assumption; exact rfl)
      | ((with_reducible apply LR_load_own_agg 0); exact rfl; exact rfl; exact rfl; exact rfl; exact rfl)
      | ((with_reducible apply LR_load_own_agg 1); exact rfl; exact rfl; exact rfl; exact rfl; exact rfl)
      | ((with_reducible apply LR_load_own_agg 2); exact rfl; exact rfl; exact rfl; exact rfl; exact rfl)
      | ((with_reducible apply LR_load_own_agg 3); exact rfl; exact rfl; exact rfl; exact rfl; exact rfl)
      | ((with_reducible apply LR_load_own_agg 4); exact rfl; exact rfl; exact rfl; exact rfl; exact rfl)
      | ((with_reducible apply LR_len); exact rfl; exact rfl; exact rfl)
      | ((with_reducible apply LR_len_sl); exact rfl; exact rfl; exact rfl; assumption)
      | ((with_reducible apply LR_index_any); exact rfl; exact rfl; exact rfl; exact rfl; assumption; omega; omega; exact rfl; intro _ _ _ _)
      | ((with_reducible apply LR_load_cls0); exact rfl; exact rfl; exact rfl; assumption; exact rfl)
      | ((with_reducible apply LR_load_cls); exact rfl; exact rfl; exact rfl; assumption; exact rfl)
      | ((with_reducible apply LR_load_cls_agg); exact rfl; exact rfl; exact rfl; assumption; exact rfl)
      | ((with_reducible apply post_seq))
      | ((with_reducible apply post_then_ret))
      | ((with_reducible apply post_then_exit))
      | ((with_reducible apply post_block_n))
      | ((with_reducible apply post_block_ret))
      | ((with_reducible apply post_block_eq))
      | ((with_reducible apply post_block_ne); exact rfl)
      | ((with_reducible apply CS_skip))
      | ((with_reducible apply CS_ret))
      | ((with_reducible apply CS_exit))
      | ((with_reducible apply CS_cond_t); exact rfl)
      | ((with_reducible apply CS_cond_f); exact rfl)
      | ((with_reducible apply CS_cond_nd); exact rfl; all_goals intro hb; all_goals try (exfalso; omega))
      | ((with_reducible apply CS_cond_d); exact rfl; all_goals intro hb; all_goals try (exfalso; omega))
      | ((with_reducible apply CS_cond_n); exact rfl; all_goals intro hb; all_goals try (exfalso; omega))
      | ((with_reducible apply CS_cond); exact rfl; all_goals intro hb; all_goals try (exfalso; omega))
    all_goals first | (exfalso; contradiction) | (exfalso; omega) | (exfalso; simp at hb <;> omega) | skip
    exact post_round (i := k) (k + 1) (by omega) (by omega) ⟨rfl, by rw [show k0 + 2 * ((k + 1 : Nat) : Int) = k0 + 2 * (k : Int) + 2 by omega]; rfl, rfl, trivial⟩ (fun _ hw => by
      rw [← hst]
      exact hw.perm ((List.Perm.swap _ _ _).trans (((perm_back _ (by rw [List.length_map]; omega)).append_right h).cons _)))
  · have hke : k = ps.length := by omega
    subst hke
    rw [mix_end hm]
    repeat' first
      | ((with_reducible apply CS_seq))
      | ((with_reducible apply CS_block))
      | ((with_reducible apply CS_region))
      | ((with_reducible apply RR_end))
      | ((with_reducible apply LR_pure); exact rfl; exact rfl; exact rfl)
      | ((with_reducible apply LR_add); exact rfl; exact rfl; exact rfl; exact rfl; omega; omega)
      | ((with_reducible apply LR_load_own 0); exact rfl; exact rfl; exact rfl; exact rfl; exact rfl)
      | ((with_reducible apply LR_load_own 1); exact rfl; exact rfl; exact rfl; exact rfl; exact rfl)
      | ((with_reducible apply LR_load_own 2); exact rfl; exact rfl; exact rfl; exact rfl; exact rfl)
      | ((with_reducible apply LR_load_own 3); exact rfl; exact rfl; exact rfl; exact rfl; exact rfl)
      | ((with_reducible apply LR_load_own 4); exact rfl; exact rfl; exact rfl; exact rfl; exact rfl)
      | ((with_reducible apply LR_load_old); exact rfl; exact rfl; exact rfl; assumption; exact rfl)
      | ((with_reducible apply LR_load_old0); exact rfl; exact rfl; exact rfl; assumption; exact rfl)
      | ((with_reducible apply LR_load_old_agg); exact rfl; exact rfl; exact rfl; assumption; exact rfl)
      | ((with_reducible apply LR_load_old_aggk); exact rfl; exact rfl; exact rfl; assumption; exact rfl)
      | ((with_reducible apply LR_load_own_agg 0); exact rfl; exact rfl; exact rfl; exact rfl; exact rfl)
      | ((with_reducible apply LR_load_own_agg 1); exact rfl; exact rfl; exact rfl; exact rfl; exact rfl)
      | ((with_reducible apply LR_load_own_agg 2); exact rfl; exact rfl; exact rfl; exact rfl; exact rfl)
      | ((with_reducible apply LR_load_own_agg 3); exact rfl; exact rfl; exact rfl; exact rfl; exact rfl)
      | ((with_reducible apply LR_load_own_agg 4); exact rfl; exact rfl; exact rfl; exact rfl; exact rfl)
      | ((with_reducible apply LR_len); exact rfl; exact rfl; exact rfl)
      | ((with_reducible apply LR_len_sl); exact rfl; exact rfl; exact rfl; assumption)
      | ((with_reducible apply LR_index_any); exact rfl; exact rfl; exact rfl; exact rfl; assumption; omega; omega; exact rfl; intro _ _ _ _)
      | ((with_reducible apply LR_load_cls0); exact rfl; exact rfl; exact rfl; assumption; exact rfl)
      | ((with_reducible apply LR_load_cls); exact rfl; exact rfl; exact rfl; assumption; exact rfl)
      | ((with_reducible apply LR_load_cls_agg); exact rfl; exact rfl; exact rfl; assumption; exact rfl)
      | ((with_reducible apply post_seq))
      | ((with_reducible apply post_then_ret))
      | ((with_reducible apply post_then_exit))
      | ((with_reducible apply post_block_n))
      | ((with_reducible apply post_block_ret))
      | ((with_reducible apply post_block_eq))
      | ((with_reducible apply post_block_ne); exact rfl)
      | ((with_reducible apply CS_skip))
      | ((with_reducible apply CS_ret))
      | ((with_reducible apply CS_exit))
      | ((with_reducible apply CS_cond_t); exact rfl)
      | ((with_reducible apply CS_cond_f); exact rfl)
      | ((with_reducible apply CS_cond_nd); exact rfl; all_goals intro hb; all_goals try (exfalso; omega))
      | ((with_reducible apply CS_cond_d); exact rfl; all_goals intro hb; all_goals try (exfalso; omega))
      | ((with_reducible apply CS_cond_n); exact rfl; all_goals intro hb; all_goals try (exfalso; omega))
      | ((with_reducible apply CS_cond); exact rfl; all_goals intro hb; all_goals try (exfalso; omega))
    all_goals first | (exfalso; contradiction) | (exfalso; omega) | (exfalso; simp at hb <;> omega) | skip
    apply post_ret1; exact rfl; exact rfl; intro w' hw'; exact ⟨(), trivial, rfl, hw'⟩
theorem heldIntSS_ok (v : Value) (ps : List Pp) (k0 : Int) (w : World) (hs : Sl w v ps) (hel : ∀ (j : Nat) (p : Pp), ps[j]? = some p → Sl w (pVal p) (mk1 (k0 + 2 * (j : Int)) 2)) (hx : ps.length ≤ 1000000) (h0 : 0 ≤ k0) (h1 : k0 ≤ 1000000) : Calls Try.prog 38 #[v, .int .i64 k0] w (Gives (.int .i64 (k0 + 2 * ps.length)) w) := by
  refine enter (vs := [v, .int .i64 k0]) Try.func38 rfl Try.ntmps38 rfl ?_
  repeat' first
    | ((with_reducible apply CS_seq))
    | ((with_reducible apply CS_block))
    | ((with_reducible apply CS_region))
    | ((with_reducible apply RR_end))
    | ((with_reducible apply LR_pure); exact rfl; exact rfl; exact rfl)
    | ((with_reducible apply LR_add); exact rfl; exact rfl; exact rfl; exact rfl; omega; omega)
    | ((with_reducible apply LR_load_own 0); exact rfl; exact rfl; exact rfl; exact rfl; exact rfl)
    | ((with_reducible apply LR_load_own 1); exact rfl; exact rfl; exact rfl; exact rfl; exact rfl)
    | ((with_reducible apply LR_load_own 2); exact rfl; exact rfl; exact rfl; exact rfl; exact rfl)
    | ((with_reducible apply LR_load_own 3); exact rfl; exact rfl; exact rfl; exact rfl; exact rfl)
    | ((with_reducible apply LR_load_own 4); exact rfl; exact rfl; exact rfl; exact rfl; exact rfl)
    | ((with_reducible apply LR_load_old); exact rfl; exact rfl; exact rfl; assumption; exact rfl)
    | ((with_reducible apply LR_load_old0); exact rfl; exact rfl; exact rfl; assumption; exact rfl)
    | ((with_reducible apply LR_load_old_agg); exact rfl; exact rfl; exact rfl; assumption; exact rfl)
    | ((with_reducible apply LR_load_old_aggk); exact rfl; exact rfl; exact rfl; assumption; exact rfl)
    | ((with_reducible apply LR_load_own_agg 0); exact rfl; exact rfl; exact rfl; exact rfl; exact rfl)
    | ((with_reducible apply LR_load_own_agg 1); exact rfl; exact rfl; exact rfl; exact rfl; exact rfl)
    | ((with_reducible apply LR_load_own_agg 2); exact rfl; exact rfl; exact rfl; exact rfl; exact rfl)
    | ((with_reducible apply LR_load_own_agg 3); exact rfl; exact rfl; exact rfl; exact rfl; exact rfl)
    | ((with_reducible apply LR_load_own_agg 4); exact rfl; exact rfl; exact rfl; exact rfl; exact rfl)
    | ((with_reducible apply LR_len); exact rfl; exact rfl; exact rfl)
    | ((with_reducible apply LR_len_sl); exact rfl; exact rfl; exact rfl; assumption)
    | ((with_reducible apply LR_index_any); exact rfl; exact rfl; exact rfl; exact rfl; assumption; omega; omega; exact rfl; intro _ _ _ _)
    | ((with_reducible apply LR_load_cls0); exact rfl; exact rfl; exact rfl; assumption; exact rfl)
    | ((with_reducible apply LR_load_cls); exact rfl; exact rfl; exact rfl; assumption; exact rfl)
    | ((with_reducible apply LR_load_cls_agg); exact rfl; exact rfl; exact rfl; assumption; exact rfl)
    | ((with_reducible apply post_seq))
    | ((with_reducible apply post_then_ret))
    | ((with_reducible apply post_then_exit))
    | ((with_reducible apply post_block_n))
    | ((with_reducible apply post_block_ret))
    | ((with_reducible apply post_block_eq))
    | ((with_reducible apply post_block_ne); exact rfl)
    | ((with_reducible apply CS_skip))
    | ((with_reducible apply CS_ret))
    | ((with_reducible apply CS_exit))
    | ((with_reducible apply CS_cond_t); exact rfl)
    | ((with_reducible apply CS_cond_f); exact rfl)
    | ((with_reducible apply CS_cond_nd); exact rfl; all_goals intro hb; all_goals try (exfalso; omega))
    | ((with_reducible apply CS_cond_d); exact rfl; all_goals intro hb; all_goals try (exfalso; omega))
    | ((with_reducible apply CS_cond_n); exact rfl; all_goals intro hb; all_goals try (exfalso; omega))
    | ((with_reducible apply CS_cond); exact rfl; all_goals intro hb; all_goals try (exfalso; omega))
  refine CS_loop (ι := Nat) (fun i => [(0, v), (1, .int .i64 (k0 + 2 * (i : Int))), (5, .int .i64 (i : Int))]) (fun _ => Wd w []) (fun i => i ≤ ps.length) (fun i => ps.length - i) 0 (by omega) ⟨rfl, by rw [show k0 + 2 * ((0 : Nat) : Int) = k0 by omega]; rfl, rfl, trivial⟩ (fun _ hw => hw) ?_
  intro k hkl
  by_cases hk : k < ps.length
  · obtain ⟨p, hpk⟩ : ∃ c, ps[k]? = some c := ⟨_, List.getElem?_eq_getElem hk⟩
    have he := hel k p hpk
    repeat' first
      | ((with_reducible apply LR_len_sl); exact rfl; exact rfl; exact rfl; exact hs)
      | ((with_reducible apply (LR_index_old (k))); exact rfl; exact rfl; exact rfl; exact rfl; exact hs; omega; exact hpk; exact rfl; intro _ _)
      | ((with_reducible apply (LR_call (f := 31))); exact rfl; exact rfl; exact rfl; exact fun w hw => heldIntS_ok _ 2 _ w (he.mono hw) (by omega) (by omega) (by omega))
      | ((with_reducible apply CS_seq))
      | ((with_reducible apply CS_block))
      | ((with_reducible apply CS_region))
      | ((with_reducible apply RR_end))
      | ((with_reducible apply LR_pure); exact rfl; exact rfl; exact rfl)
      | ((with_reducible apply LR_add); exact rfl; exact rfl; exact rfl; exact rfl; omega; omega)
      | ((with_reducible apply LR_load_own 0); exact rfl; exact rfl; exact rfl; exact rfl; exact rfl)
      | ((with_reducible apply LR_load_own 1); exact rfl; exact rfl; exact rfl; exact rfl; exact rfl)
      | ((with_reducible apply LR_load_own 2); exact rfl; exact rfl; exact rfl; exact rfl; exact rfl)
      | ((with_reducible apply LR_load_own 3); exact rfl; exact rfl; exact rfl; exact rfl; exact rfl)
      | ((with_reducible apply LR_load_own 4); exact rfl; exact rfl; exact rfl; exact rfl; exact rfl)
      | ((with_reducible apply LR_load_old); exact rfl; exact rfl; exact rfl; assumption; exact rfl)
      | ((with_reducible apply LR_load_old0); exact rfl; exact rfl; exact rfl; assumption; exact rfl)
      | ((with_reducible apply LR_load_old_agg); exact rfl; exact rfl; exact rfl; assumption; exact rfl)
      | ((with_reducible apply LR_load_old_aggk); exact rfl; exact rfl; exact rfl; assumption; exact rfl)
      | ((with_reducible apply LR_load_own_agg 0); exact rfl; exact rfl; exact rfl; exact rfl; exact rfl)
      | ((with_reducible apply LR_load_own_agg 1); exact rfl; exact rfl; exact rfl; exact rfl; exact rfl)
      | ((with_reducible apply LR_load_own_agg 2); exact rfl; exact rfl; exact rfl; exact rfl; exact rfl)
      | ((with_reducible apply LR_load_own_agg 3); exact rfl; exact rfl; exact rfl; exact rfl; exact rfl)
      | ((with_reducible apply LR_load_own_agg 4); exact rfl; exact rfl; exact rfl; exact rfl; exact rfl)
      | ((with_reducible apply LR_len); exact rfl; exact rfl; exact rfl)
      | ((with_reducible apply LR_len_sl); exact rfl; exact rfl; exact rfl; assumption)
      | ((with_reducible apply LR_index_any); exact rfl; exact rfl; exact rfl; exact rfl; assumption; omega; omega; exact rfl; intro _ _ _ _)
      | ((with_reducible apply LR_load_cls0); exact rfl; exact rfl; exact rfl; assumption; exact rfl)
      | ((with_reducible apply LR_load_cls); exact rfl; exact rfl; exact rfl; assumption; exact rfl)
      | ((with_reducible apply LR_load_cls_agg); exact rfl; exact rfl; exact rfl; assumption; exact rfl)
      | ((with_reducible apply post_seq))
      | ((with_reducible apply post_then_ret))
      | ((with_reducible apply post_then_exit))
      | ((with_reducible apply post_block_n))
      | ((with_reducible apply post_block_ret))
      | ((with_reducible apply post_block_eq))
      | ((with_reducible apply post_block_ne); exact rfl)
      | ((with_reducible apply CS_skip))
      | ((with_reducible apply CS_ret))
      | ((with_reducible apply CS_exit))
      | ((with_reducible apply CS_cond_t); exact rfl)
      | ((with_reducible apply CS_cond_f); exact rfl)
      | ((with_reducible apply CS_cond_nd); exact rfl; all_goals intro hb; all_goals try (exfalso; omega))
      | ((with_reducible apply CS_cond_d); exact rfl; all_goals intro hb; all_goals try (exfalso; omega))
      | ((with_reducible apply CS_cond_n); exact rfl; all_goals intro hb; all_goals try (exfalso; omega))
      | ((with_reducible apply CS_cond); exact rfl; all_goals intro hb; all_goals try (exfalso; omega))
    all_goals first | (exfalso; contradiction) | (exfalso; omega) | (exfalso; simp at hb <;> omega) | skip
    exact post_round (i := k) (k + 1) (by omega) (by omega) ⟨rfl, by rw [show k0 + 2 * ((k + 1 : Nat) : Int) = k0 + 2 * (k : Int) + ((2 : Nat) : Int) by omega]; rfl, rfl, trivial⟩ (fun _ hw => hw.nil)
  · have hke : k = ps.length := by omega
    subst hke
    repeat' first
      | ((with_reducible apply LR_len_sl); exact rfl; exact rfl; exact rfl; exact hs)
      | ((with_reducible apply CS_seq))
      | ((with_reducible apply CS_block))
      | ((with_reducible apply CS_region))
      | ((with_reducible apply RR_end))
      | ((with_reducible apply LR_pure); exact rfl; exact rfl; exact rfl)
      | ((with_reducible apply LR_add); exact rfl; exact rfl; exact rfl; exact rfl; omega; omega)
      | ((with_reducible apply LR_load_own 0); exact rfl; exact rfl; exact rfl; exact rfl; exact rfl)
      | ((with_reducible apply LR_load_own 1); exact rfl; exact rfl; exact rfl; exact rfl; exact rfl)
      | ((with_reducible apply LR_load_own 2); exact rfl; exact rfl; exact rfl; exact rfl; exact rfl)
      | ((with_reducible apply LR_load_own 3); exact rfl; exact rfl; exact rfl; exact rfl; exact rfl)
      | ((with_reducible apply LR_load_own 4); exact rfl; exact rfl; exact rfl; exact rfl; exact rfl)
      | ((with_reducible apply LR_load_old); exact rfl; exact rfl; exact rfl; assumption; exact rfl)
      | ((with_reducible apply LR_load_old0); exact rfl; exact rfl; exact rfl; assumption; exact rfl)
      | ((with_reducible apply LR_load_old_agg); exact rfl; exact rfl; exact rfl; assumption; exact rfl)
      | ((with_reducible apply LR_load_old_aggk); exact rfl; exact rfl; exact rfl; assumption; exact rfl)
      | ((with_reducible apply LR_load_own_agg 0); exact rfl; exact rfl; exact rfl; exact rfl; exact rfl)
      | ((with_reducible apply LR_load_own_agg 1); exact rfl; exact rfl; exact rfl; exact rfl; exact rfl)
      | ((with_reducible apply LR_load_own_agg 2); exact rfl; exact rfl; exact rfl; exact rfl; exact rfl)
      | ((with_reducible apply LR_load_own_agg 3); exact rfl; exact rfl; exact rfl; exact rfl; exact rfl)
      | ((with_reducible apply LR_load_own_agg 4); exact rfl; exact rfl; exact rfl; exact rfl; exact rfl)
      | ((with_reducible apply LR_len); exact rfl; exact rfl; exact rfl)
      | ((with_reducible apply LR_len_sl); exact rfl; exact rfl; exact rfl; assumption)
      | ((with_reducible apply LR_index_any); exact rfl; exact rfl; exact rfl; exact rfl; assumption; omega; omega; exact rfl; intro _ _ _ _)
      | ((with_reducible apply LR_load_cls0); exact rfl; exact rfl; exact rfl; assumption; exact rfl)
      | ((with_reducible apply LR_load_cls); exact rfl; exact rfl; exact rfl; assumption; exact rfl)
      | ((with_reducible apply LR_load_cls_agg); exact rfl; exact rfl; exact rfl; assumption; exact rfl)
      | ((with_reducible apply post_seq))
      | ((with_reducible apply post_then_ret))
      | ((with_reducible apply post_then_exit))
      | ((with_reducible apply post_block_n))
      | ((with_reducible apply post_block_ret))
      | ((with_reducible apply post_block_eq))
      | ((with_reducible apply post_block_ne); exact rfl)
      | ((with_reducible apply CS_skip))
      | ((with_reducible apply CS_ret))
      | ((with_reducible apply CS_exit))
      | ((with_reducible apply CS_cond_t); exact rfl)
      | ((with_reducible apply CS_cond_f); exact rfl)
      | ((with_reducible apply CS_cond_nd); exact rfl; all_goals intro hb; all_goals try (exfalso; omega))
      | ((with_reducible apply CS_cond_d); exact rfl; all_goals intro hb; all_goals try (exfalso; omega))
      | ((with_reducible apply CS_cond_n); exact rfl; all_goals intro hb; all_goals try (exfalso; omega))
      | ((with_reducible apply CS_cond); exact rfl; all_goals intro hb; all_goals try (exfalso; omega))
    all_goals first | (exfalso; contradiction) | (exfalso; omega) | (exfalso; simp at hb <;> omega) | skip
    apply ret_int; exact rfl; exact rfl; rfl
theorem mkP_el {w0 w : World} {H : List Ent} {ps : List Pp} {k0 : Int} (hw : Wd w0 H w) (hs : ∀ q ∈ mkP k0 ps, pEnt q ∈ H) (hk : PpOk ps) : ∀ (j : Nat) (p : Pp), ps[j]? = some p → Sl w (pVal p) (mk1 (k0 + 2 * (j : Int)) 2) := fun j p hp => by
  rw [mk1_two]
  exact Ent.At.sl (g := p.g) (T := 3) (tot := p.c * Enc.k Int) (cs := flat [k0 + 2 * (j : Int), k0 + 2 * (j : Int) + 1]) (hw.at_ _ (hs _ (List.mem_of_getElem? (mkP_at hp)))).2 rfl rfl (hk p (List.mem_of_getElem? hp)).1 (hk p (List.mem_of_getElem? hp)).2
theorem iAllConflicts_g (v : Value) (l rs : List Ru) (qs : List Pp) (w : World) (hs : Sl w v rs) (hg : ROks w rs) (he : EqL l rs) (hq1 : VRs l → IsPairs l (qs.map pPr)) (hq2 : ¬ VRs l → qs = []) : Calls Try.prog 24 #[v] w
    (fun x w' => ∃ i : PgG, (i.ps.map pPr = qs.map pPr ∧ i.ps.length ≤ 1000000 ∧ i.ps.length ≤ i.c ∧ i.c ≤ maxLen ∧ PpOk i.ps) ∧ x = .returned (.slice (some ⟨i.g, 0, none⟩) i.ps.length i.c) ∧ Wd w (ppE i.g i.c i.ps :: i.ps.map pEnt) w') := by
  by_cases hV : VRs rs
  · exact (iAllConflicts_ok v rs w hs hg hV).mono fun x w' ⟨i, ⟨h1, h2, h3, h4, h5⟩, h6, h7⟩ => ⟨i, ⟨pairs_unique h1 (IsPairs_eq he (hq1 (VRs_eq he.symm hV))), h2, h3, h4, h5⟩, h6, h7.perm (((List.reverse_perm i.ps).map _).cons _)⟩
  · have e : qs = [] := hq2 (fun h => hV (VRs_eq he h))
    subst e
    exact (iAllConflicts_no v rs w hs hg hV).mono fun x w' ⟨g, _, h1, h2⟩ => ⟨⟨g, 0, []⟩, ⟨rfl, by simp, by simp, by simp [maxLen], PpOk.nil⟩, h1, h2⟩
set_option maxHeartbeats 8000000 in
theorem FnExactAllConflicts_ok (v : Value) (l : List Ru) (w : World) (hs : Sl w v l) (hg : ROks w l) : Calls Try.prog 14 #[v] w (Gives (.bool true) w) := by
  have hml : maxLen = 9223372036854775807 := rfl
  refine enter (vs := [v]) Try.func14 rfl Try.ntmps14 rfl ?_
  repeat' first
    | ((with_reducible apply (LS_callx (f := 25))); exact rfl; exact rfl; exact rfl; exact fun w hw => szRuleS_ok v l _ w (hs.mono hw) (fun r hr => (hg r hr).mono hw) (by omega) (by omega); rintro n hn)
    | ((with_reducible apply CS_seq))
    | ((with_reducible apply CS_region))
    | ((with_reducible apply RR_end))
    | ((with_reducible apply LR_pure); exact rfl; exact rfl; exact rfl)
    | ((with_reducible apply LR_skip); exact rfl; exact rfl)
    | ((with_reducible apply LR_neqb); exact rfl; exact rfl; exact rfl; exact rfl)
    | ((with_reducible apply post_seq))
    | ((with_reducible apply post_then_ret))
    | ((with_reducible apply post_then_exit))
    | ((with_reducible apply CS_skip))
    | ((with_reducible apply CS_ret))
    | ((with_reducible apply CS_exit))
    | ((with_reducible apply CS_cond_t); exact rfl)
    | ((with_reducible apply CS_cond_f); exact rfl)
    | ((with_reducible apply CS_cond_nd); exact rfl; all_goals intro hb; all_goals try (exfalso; omega))
    | ((with_reducible apply CS_cond_d); exact rfl; all_goals intro hb; all_goals try (exfalso; omega))
    | ((with_reducible apply CS_cond_n); exact rfl; all_goals intro hb; all_goals try (exfalso; omega))
    | ((with_reducible apply CS_cond); exact rfl; all_goals intro hb; all_goals try (exfalso; omega))
    | ((with_reducible apply LR_caseg_nd); exact rfl; exact rfl; all_goals intro hb; all_goals try (exfalso; omega))
    | ((with_reducible apply LR_caseg_d); exact rfl; exact rfl; all_goals intro hb; all_goals try (exfalso; omega))
    | ((with_reducible apply LR_caseg_n); exact rfl; exact rfl; all_goals intro hb; all_goals try (exfalso; omega))
    | ((with_reducible apply LR_caseg); exact rfl; exact rfl; all_goals intro hb; all_goals try (exfalso; omega))
    | ((with_reducible apply LR_casep_nd); exact rfl; all_goals intro hb; all_goals (fail_if_success guard_hyp hb :ₛ true = true); all_goals try (exfalso; omega))
    | ((with_reducible apply LR_casep_d); exact rfl; all_goals intro hb; all_goals (fail_if_success guard_hyp hb :ₛ true = true); all_goals try (exfalso; omega))
    | ((with_reducible apply LR_casep_n); exact rfl; all_goals intro hb; all_goals (fail_if_success guard_hyp hb :ₛ true = true); all_goals try (exfalso; omega))
    | ((with_reducible apply LR_casep); exact rfl; all_goals intro hb; all_goals (fail_if_success guard_hyp hb :ₛ true = true); all_goals try (exfalso; omega))
  all_goals first | (exfalso; contradiction) | (exfalso; omega) | (exfalso; simp at hb <;> omega) | skip
  · apply ret_bool; exact rfl; exact rfl; rfl
  · have hl : l.length ≤ 1048576 := by omega
    have hl3 : ∀ r ∈ l, r.g.cs.length ≤ 1048576 := fun r hr => by
      rcases hn with h | h
      · omega
      · have := h.2.2.2 r hr; omega
    repeat' first
      | ((with_reducible apply (LS_callr (f := 34))); exact rfl; exact rfl; exact rfl; exact fun w hw => sAllConflicts_r v1 rs1 _ (z1.mono hw) (fun r hr => (z2 r hr).mono hw); rintro ⟨v0, qs⟩ w2 k2 y1; dsimp only at y1 ⊢; (have hs := (hs.mono k1).mono k2); (have hg : ROks w2 l := fun r hr => ((hg r hr).mono k1).mono k2); (have hL := y1.len))
      | ((have _t := hP); ((have _t := g0); ((with_reducible apply (LS_callx (f := 24))); exact rfl; exact rfl; exact rfl; exact fun w hw => iAllConflicts_g _ rs1 rs' qs w (own_sl 0 hw rfl rfl rfl (Nat.le_refl _) (by rw [hP'.1]; omega)) ((hP'.rsok hl3).of hw (fun e he => by simp [he])) (z3.symm.trans hP'.eql) y1.yes y1.no; rintro ⟨g5, c5, us⟩ ⟨f1, f2, f3, f4, f5⟩; dsimp only at f1 f2 f3 f4 f5 ⊢)))
      | ((with_reducible apply (LS_callx (f := 24))); exact rfl; exact rfl; exact rfl; exact fun w hw => iAllConflicts_g _ rs1 rs qs w (own_sl 0 hw rfl rfl rfl (Nat.le_refl _) (by rw [hP.1]; omega)) ((hP.rsok hl3).of hw (fun e he => by simp [he])) (z3.symm.trans hP.eql) y1.yes y1.no; rintro ⟨g0, c0, ps⟩ ⟨d1, d2, d3, d4, d5⟩; dsimp only at d1 d2 d3 d4 d5 ⊢)
      | ((have _t := hP); ((with_reducible apply (LS_callx (f := 26))); exact rfl; exact rfl; exact rfl; exact fun w hw => toRuleS_x v l w (hs.mono hw) (fun r hr => (hg r hr).mono hw) hl hl3; rintro ⟨g', rs', es'⟩ hP'; dsimp only at hP' ⊢))
      | ((have _t := hL); ((with_reducible apply (LS_callx (f := 26))); exact rfl; exact rfl; exact rfl; exact fun w hw => toRuleS_x v l w (hs.mono hw) (fun r hr => (hg r hr).mono hw) hl hl3; rintro ⟨g, rs, es⟩ hP; dsimp only at hP ⊢; (refine RR_weak (fun w hw => by rw [List.append_nil] at hw; exact hw) ?_)))
      | ((with_reducible apply (LS_callr (f := 26))); exact rfl; exact rfl; exact rfl; exact fun w hw => toRuleS_r v l w (hs.mono hw) (fun r hr => (hg r hr).mono hw) hl hl3; rintro ⟨v1, rs1⟩ w1 k1 ⟨z1, z2, z3⟩; dsimp only at z1 z2 z3 ⊢)
      | ((with_reducible apply (LR_call (f := 36))); exact rfl; exact rfl; exact rfl; exact fun w hw => (by first | exact eqIntSS_ok _ v0 ps qs w ((hw.at_ (ppE g0 c0 ps) (by simp)).2.sl rfl rfl d3 d4) (y1.sl.mono hw) (pp_el hw (fun p hp => (by repeat (first | exact List.mem_map_of_mem hp | exact List.mem_append_left _ (List.mem_cons_of_mem _ (List.mem_map_of_mem hp)) | exact List.mem_append_left _ (List.mem_map_of_mem hp) | apply List.mem_append_right | apply List.mem_cons_of_mem))) d5) (fun p hp => (y1.el p hp).mono hw) d1 | exact eqIntSS_ok _ v0 us qs w ((hw.at_ (ppE g5 c5 us) (by simp)).2.sl rfl rfl f3 f4) (y1.sl.mono hw) (pp_el hw (fun p hp => (by repeat (first | exact List.mem_map_of_mem hp | exact List.mem_append_left _ (List.mem_cons_of_mem _ (List.mem_map_of_mem hp)) | exact List.mem_append_left _ (List.mem_map_of_mem hp) | apply List.mem_append_right | apply List.mem_cons_of_mem))) f5) (fun p hp => (y1.el p hp).mono hw) f1))
      | (((with_reducible apply (LR_call (f := 27))); exact rfl; exact rfl; exact rfl; exact fun w hw => eqRuleS_ok _ _ rs rs' w ((hw.at_ (ruE g rs.length rs) (by simp)).2.sl rfl rfl (Nat.le_refl _) (by rw [hP.1]; omega)) (own_sl 0 hw rfl rfl rfl (Nat.le_refl _) (by rw [hP'.1]; omega)) ((hP.rsok hl3).of hw (fun e he => by simp [he])) ((hP'.rsok hl3).of hw (fun e he => by simp [he])) (hP.eql.symm.trans hP'.eql)); (refine RR_weak (fun w hw => hw.sub ((List.sublist_append_right _ _).cons _)) ?_))
      | (((with_reducible apply (LS_callf (f := 29))); exact rfl; exact rfl; exact rfl; exact fun w hw => markRuleS_ok _ _ w g l rs es _ _ rfl (hw.perm (List.perm_append_comm (l₁ := ppE g0 c0 ps :: ps.map pEnt) (l₂ := ruE g rs.length rs :: es))) hP (by rw [hP.1]; omega) hl3 (by omega) (by omega); rintro ⟨km, ys, fs⟩ ⟨hk1, hk2⟩; dsimp only at hk1 hk2 ⊢; (refine RR_weak (fun w hw => hw.sub ((List.sublist_append_right _ _).cons _)) ?_)))
      | ((with_reducible apply (LS_callf (f := 37))); exact rfl; exact rfl; exact rfl; exact fun w hw => markIntSS_ok _ [] w g0 c0 ps _ (by rw [List.append_nil]; exact hw) d5 d2 (by omega) (by omega); rintro _ _)
      | ((with_reducible apply (LR_call (f := 38))); exact rfl; exact rfl; exact rfl; exact fun w hw => heldIntSS_ok _ ps 1 w ((hw.at_ (ppE g0 c0 ps) (by simp)).2.sl rfl rfl d3 d4) (mkP_el hw (fun q hq => (by repeat (first | exact List.mem_map_of_mem hq | exact List.mem_append_left _ (List.mem_cons_of_mem _ (List.mem_map_of_mem hq)) | exact List.mem_append_left _ (List.mem_map_of_mem hq) | apply List.mem_append_right | apply List.mem_cons_of_mem))) d5) d2 (by omega) (by omega))
      | ((with_reducible apply CS_seq))
      | ((with_reducible apply CS_region))
      | ((with_reducible apply RR_end))
      | ((with_reducible apply LR_pure); exact rfl; exact rfl; exact rfl)
      | ((with_reducible apply LR_skip); exact rfl; exact rfl)
      | ((with_reducible apply LR_neqb); exact rfl; exact rfl; exact rfl; exact rfl)
      | ((with_reducible apply post_seq))
      | ((with_reducible apply post_then_ret))
      | ((with_reducible apply post_then_exit))
      | ((with_reducible apply CS_skip))
      | ((with_reducible apply CS_ret))
      | ((with_reducible apply CS_exit))
      | ((with_reducible apply CS_cond_t); exact rfl)
      | ((with_reducible apply CS_cond_f); exact rfl)
      | ((with_reducible apply CS_cond_nd); exact rfl; all_goals intro hb; all_goals try (exfalso; omega))
      | ((with_reducible apply CS_cond_d); exact rfl; all_goals intro hb; all_goals try (exfalso; omega))
      | ((with_reducible apply CS_cond_n); exact rfl; all_goals intro hb; all_goals try (exfalso; omega))
      | ((with_reducible apply CS_cond); exact rfl; all_goals intro hb; all_goals try (exfalso; omega))
      | ((with_reducible apply LR_caseg_nd); exact rfl; exact rfl; all_goals intro hb; all_goals try (exfalso; omega))
      | ((with_reducible apply LR_caseg_d); exact rfl; exact rfl; all_goals intro hb; all_goals try (exfalso; omega))
      | ((with_reducible apply LR_caseg_n); exact rfl; exact rfl; all_goals intro hb; all_goals try (exfalso; omega))
      | ((with_reducible apply LR_caseg); exact rfl; exact rfl; all_goals intro hb; all_goals try (exfalso; omega))
      | ((with_reducible apply LR_casep_nd); exact rfl; all_goals intro hb; all_goals (fail_if_success guard_hyp hb :ₛ true = true); all_goals try (exfalso; omega))
      | ((with_reducible apply LR_casep_d); exact rfl; all_goals intro hb; all_goals (fail_if_success guard_hyp hb :ₛ true = true); all_goals try (exfalso; omega))
      | ((with_reducible apply LR_casep_n); exact rfl; all_goals intro hb; all_goals (fail_if_success guard_hyp hb :ₛ true = true); all_goals try (exfalso; omega))
      | ((with_reducible apply LR_casep); exact rfl; all_goals intro hb; all_goals (fail_if_success guard_hyp hb :ₛ true = true); all_goals try (exfalso; omega))
    all_goals first | (exfalso; contradiction) | (exfalso; omega) | (exfalso; simp at hb <;> omega) | skip
    all_goals (apply ret_boolr (k1.call k2); exact rfl; exact rfl; rfl)
end Go.Proofs.Ytpflkichnjfgkaa
