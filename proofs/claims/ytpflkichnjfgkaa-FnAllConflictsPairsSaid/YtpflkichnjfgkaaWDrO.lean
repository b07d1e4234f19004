/- The walks of the reference's generators of lists of rules to be put in order. No condition beyond those that each theorem states. -/
import Derived.Test.YtpflkichnjfgkaaWDrT
import Derived.Test.YtpflkichnjfgkaaPInt
namespace Go.Proofs.Ytpflkichnjfgkaa
open Go.RowKit
attribute [local irreducible] Calls
theorem DrawRuleOrder_ok (v : Value) (l : List By) (w : World) (hs : Sl w v l) (hby : BytesOk l) : Calls Try.prog 15 #[v] w
    (fun x w' => ∃ i : Value × List Ru, (Sl w' i.1 i.2 ∧ ROks w' i.2 ∧ i.2.length ≤ 7) ∧ x = .returned i.1 ∧ Wd w [] w') := by
  have hml : maxLen = 9223372036854775807 := rfl
  refine enter (vs := [v]) Try.func15 rfl Try.ntmps15 rfl ?_
  repeat' first
    | ((with_reducible apply (LS_callf (f := 40))); exact rfl; exact rfl; exact rfl; exact fun w hw => newReader_ok _ _ w hw v l hs hby; rintro ⟨g, bv, l'⟩ ⟨q1, q2, q3⟩)
    | ((with_reducible apply (LS_callf (f := 39))); exact rfl; exact rfl; exact rfl; exact fun w hw => anyRules_ok _ _ w g _ bv _ l' hw ⟨q1, q2, q3⟩ (by omega) (by omega); rintro ⟨p2, g3, c3, rs, es⟩ ⟨a1, a2, a3, a4, a5, a6⟩)
    | ((with_reducible apply CS_seq))
    | ((with_reducible apply CS_region))
    | ((with_reducible apply RR_end))
    | ((with_reducible apply LR_pure); exact rfl; exact rfl; exact rfl)
    | ((with_reducible apply post_seq))
    | ((with_reducible apply CS_ret))
  dsimp only at *
  apply post_ret1; exact rfl; exact rfl; intro w' hw'; exact ⟨(_, rs), ⟨own_sl 1 hw' rfl rfl rfl a4 a5, a6.of hw' (fun e he => by simp [he]), a3⟩, rfl, hw'.nil⟩
theorem EsOk.lr {rs : List Ru} {es : List Ent} (h : EsOk rs es) {k : Nat} {r : Ru} (hr : rs[k]? = some r) (a b : Int) : EsOk (rs.set k ⟨r.num, a, b, r.grp, r.kind, r.val, r.cap, r.g⟩) es := fun w he x hx => by
  rcases List.mem_or_eq_of_mem_set hx with hx | rfl
  · exact h w he x hx
  · exact h w he r (List.mem_of_getElem? hr)
theorem putF_lev {rs : List Ru} {k : Nat} {r : Ru} (a : Int) (hr : rs[k]? = some r) : putF (flat rs) (k * Enc.k Ru + 1) [.int .i64 a] = some (flat (rs.set k ⟨r.num, a, r.rank, r.grp, r.kind, r.val, r.cap, r.g⟩)) := putF_fld _ k r _ 1 _ hr (by decide) rfl
theorem putF_rnk {rs : List Ru} {k : Nat} {r : Ru} (a : Int) (hr : rs[k]? = some r) : putF (flat rs) (k * Enc.k Ru + 2) [.int .i64 a] = some (flat (rs.set k ⟨r.num, r.lev, a, r.grp, r.kind, r.val, r.cap, r.g⟩)) := putF_fld _ k r _ 2 _ hr (by decide) rfl
set_option maxHeartbeats 4000000 in
theorem DrawAllConflicts_ok (v : Value) (l : List By) (w : World) (hs : Sl w v l) (hby : BytesOk l) : Calls Try.prog 32 #[v] w
    (fun x w' => ∃ i : Value × List Ru, (Sl w' i.1 i.2 ∧ ROks w' i.2 ∧ i.2.length ≤ 7) ∧ x = .returned i.1 ∧ Wd w [] w') := by
  have hml : maxLen = 9223372036854775807 := rfl
  refine enter (vs := [v]) Try.func32 rfl Try.ntmps32 rfl ?_
  repeat' first
    | ((with_reducible apply (LS_callf (f := 40))); exact rfl; exact rfl; exact rfl; exact fun w hw => newReader_ok _ _ w hw v l hs hby; rintro ⟨g, bv, l'⟩ ⟨q1, q2, q3⟩)
    | ((with_reducible apply (LS_callf (f := 39))); exact rfl; exact rfl; exact rfl; exact fun w hw => anyRules_ok _ _ w g _ bv _ l' hw ⟨q1, q2, q3⟩ (by omega) (by omega); rintro ⟨p2, g3, c3, rs, es⟩ ⟨a1, a2, a3, a4, a5, a6⟩; dsimp only at a1 a2 a3 a4 a5 a6 ⊢; (have hR : Rd4 w g 2 bv l' := ⟨q1, q2, q3⟩))
    | ((with_reducible apply (LS_callf (f := 54))); exact rfl; exact rfl; exact rfl; exact fun w hw => pick_at 0 hw rfl hR (by omega) (by omega) (by omega); rintro kx ⟨kx0, kx1, kx2⟩)
    | ((with_reducible apply CS_seq))
    | ((with_reducible apply CS_block))
    | ((with_reducible apply CS_region))
    | ((with_reducible apply RR_end))
    | ((with_reducible apply LR_pure); exact rfl; exact rfl; exact rfl)
    | ((with_reducible apply post_seq))
    | ((with_reducible apply CS_skip))
    | ((with_reducible apply CS_ret))
    | ((with_reducible apply CS_cond_d); exact rfl; all_goals intro hb; all_goals try (exfalso; omega))
  · refine CS_loop (ι := Nat × Int × List Ru) (fun i => [(3, .pointer (some ⟨g, 0, none⟩)), (4, .slice (some ⟨g3, 0, none⟩) i.2.2.length c3), (5, .int .i64 (i.1 : Int))]) (fun i => Wd w (rdE g 2 bv i.2.1 :: ruE g3 c3 i.2.2 :: (es ++ []))) (fun i => i.1 ≤ i.2.2.length ∧ 0 ≤ i.2.1 ∧ i.2.1 ≤ 400 + 2 * i.1 ∧ i.2.2.length ≤ 7 ∧ i.2.2.length ≤ c3 ∧ EsOk i.2.2 es) (fun i => i.2.2.length - i.1) (0, p2 + 1, rs) ⟨by dsimp only; omega, by dsimp only; omega, by dsimp only; omega, a3, a4, a6⟩ ⟨rfl, rfl, rfl, trivial⟩ (fun _ hw => hw) ?_
    clear a1 a2 a3 a4 a6
    rintro ⟨k, p3, rs⟩ ⟨b1, b2, b3, b4, b5, b6⟩
    dsimp only at b1 b2 b3 b4 b5 b6 ⊢
    by_cases hk : k < rs.length
    · obtain ⟨r, hr⟩ : ∃ y, rs[k]? = some y := ⟨_, List.getElem?_eq_getElem hk⟩
      repeat' first
        | ((with_reducible apply (LS_callf (f := 54))); exact rfl; exact rfl; exact rfl; exact fun w hw => pick_at 0 hw rfl hR (by omega) (by omega) (by omega); rintro kx ⟨kx0, kx1, kx2⟩)
        | ((with_reducible apply (LS_callf (f := 54))); exact rfl; exact rfl; exact rfl; exact fun w hw => pick_at 1 hw rfl hR (by omega) (by omega) (by omega); rintro ky ⟨ky0, ky1, ky2⟩)
        | ((with_reducible apply (LR_index_own (k))); exact rfl; exact rfl; exact rfl; exact rfl; omega; omega)
        | ((with_reducible apply (LS_store1 1)); exact rfl; exact rfl; exact rfl; exact rfl; exact rfl; first | exact putF_lev _ hr | exact putF_rnk _ (List.getElem?_set_self hk))
        | ((with_reducible apply CS_seq))
        | ((with_reducible apply CS_block))
        | ((with_reducible apply CS_region))
        | ((with_reducible apply RR_end))
        | ((with_reducible apply LR_pure); exact rfl; exact rfl; exact rfl)
        | ((with_reducible apply LR_add); exact rfl; exact rfl; exact rfl; exact rfl; omega; omega)
        | ((with_reducible apply LR_field_own); exact rfl; exact rfl; exact rfl)
        | ((with_reducible apply LR_len); exact rfl; exact rfl; exact rfl)
        | ((with_reducible apply post_seq))
        | ((with_reducible apply post_block_n))
        | ((with_reducible apply CS_skip))
        | ((with_reducible apply CS_cond_d); exact rfl; all_goals intro hb; all_goals try (exfalso; omega))
      all_goals first | (exfalso; contradiction) | (exfalso; omega) | (exfalso; simp at hb <;> omega) | skip
      refine post_round (i := (k, p3, rs)) (k + 1, p3 + 1 + 1, (rs.set k ⟨r.num, kx, r.rank, r.grp, r.kind, r.val, r.cap, r.g⟩).set k ⟨r.num, kx, ky, r.grp, r.kind, r.val, r.cap, r.g⟩) ⟨by simp only [List.length_set]; omega, by dsimp only; omega, by dsimp only; omega, by simp only [List.length_set]; omega, by simp only [List.length_set]; omega, (b6.lr hr kx r.rank).lr (List.getElem?_set_self hk) kx ky⟩ (by simp only [List.length_set]; omega) ⟨rfl, by simp only [List.length_set]; rfl, rfl, trivial⟩ (fun _ hw => ?_)
      exact hw.reord [1] rfl
    · skip
      repeat' first
        | ((with_reducible apply CS_seq))
        | ((with_reducible apply CS_region))
        | ((with_reducible apply RR_end))
        | ((with_reducible apply LR_pure); exact rfl; exact rfl; exact rfl)
        | ((with_reducible apply LR_len); exact rfl; exact rfl; exact rfl)
        | ((with_reducible apply post_seq))
        | ((with_reducible apply post_then_exit))
        | ((with_reducible apply post_block_eq))
        | ((with_reducible apply CS_ret))
        | ((with_reducible apply CS_exit))
        | ((with_reducible apply CS_cond_d); exact rfl; all_goals intro hb; all_goals try (exfalso; omega))
      all_goals first | (exfalso; contradiction) | (exfalso; omega) | (exfalso; simp at hb <;> omega) | skip
      apply post_ret1; exact rfl; exact rfl; intro w' hw'; exact ⟨(_, rs), ⟨own_sl 1 hw' rfl rfl rfl b5 a5, b6.of hw' (fun e he => by simp [he]), b4⟩, rfl, hw'.nil⟩
  · skip
    skip
    all_goals first | (exfalso; contradiction) | (exfalso; omega) | (exfalso; simp at hb <;> omega) | skip
    apply post_ret1; exact rfl; exact rfl; intro w' hw'; exact ⟨(_, rs), ⟨own_sl 1 hw' rfl rfl rfl a4 a5, a6.of hw' (fun e he => by simp [he]), a3⟩, rfl, hw'.nil⟩
theorem DrawIsClear_ok (v : Value) (l : List By) (w : World) (hs : Sl w v l) (hby : BytesOk l) : Calls Try.prog 21 #[v] w
    (fun x w' => ∃ i : Value × List Ru, (Sl w' i.1 i.2 ∧ ROks w' i.2 ∧ i.2.length ≤ 7) ∧ x = .returned i.1 ∧ Wd w [] w') := by
  refine enter (vs := [v]) Try.func21 rfl Try.ntmps21 rfl ?_
  repeat' first
    | ((with_reducible apply (LS_callr (f := 32))); exact rfl; exact rfl; exact rfl; exact fun w hw => DrawAllConflicts_ok v l w (hs.mono hw) hby; rintro ⟨v1, rs⟩ w1 k1 ⟨z1, z2, z3⟩; dsimp only at z1 z2 z3 ⊢)
    | ((with_reducible apply CS_seq))
    | ((with_reducible apply CS_region))
    | ((with_reducible apply RR_end))
    | ((with_reducible apply LR_pure); exact rfl; exact rfl; exact rfl)
    | ((with_reducible apply post_seq))
    | ((with_reducible apply CS_ret))
  apply post_ret1; exact rfl; exact rfl; intro w' hw'; exact ⟨(v1, rs), ⟨z1.mono hw', fun r hr => (z2 r hr).mono hw', z3⟩, rfl, ⟨k1.below.trans (hw'.below.mono k1.size), fun _ h => (by cases h), List.Pairwise.nil⟩⟩
end Go.Proofs.Ytpflkichnjfgkaa
