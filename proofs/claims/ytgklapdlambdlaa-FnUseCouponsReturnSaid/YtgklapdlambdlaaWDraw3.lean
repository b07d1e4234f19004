/- The walks of the reference's generators of books and of numbers of coupons, second part. No condition beyond those that each theorem states. -/
import Derived.Test.YtgklapdlambdlaaWDraw2
namespace Go.Proofs.Ytgklapdlambdlaa
open Go.RowKit
attribute [local irreducible] Calls
/-- a slice of ints that lies in an own block -/
structure NmG where
  p : Int
  A : Option Addr
  n : Nat
  c : Nat
  zs : List Int
  ent : Ent
theorem spoil_ok (w0 : World) (h : List Ent) (w : World) (g tot : Nat) (bv : Value) (p : Int) (l : List By) (hw : Wd w0 (rdE g tot bv p :: h) w) (hR : Rd4 w0 g tot bv l) (h0 : 0 ≤ p) (h1 : p ≤ 800000) (A : Option Addr) (n c : Nat) (xs : List Int) (m : Int) (hs : ∀ w, Wd w0 h w → Sl w (.slice A n c) xs) (hx : xs.length ≤ 1000) : Calls Try.prog 74 #[.pointer (some ⟨g, 0, none⟩), .slice A n c, .int .i64 m] w
    (fun x w' => ∃ i : NmG, (p ≤ i.p ∧ i.p ≤ p + 3 ∧ i.zs.length ≤ xs.length + 1 ∧ (∀ w, i.ent.At w → Sl w (.slice i.A i.n i.c) i.zs)) ∧ x = .returned (.slice i.A i.n i.c) ∧ Wd w0 (rdE g tot bv i.p :: i.ent :: h) w') := by
  have hml : maxLen = 9223372036854775807 := rfl
  refine enter_in (vs := [.pointer (some ⟨g, 0, none⟩), .slice A n c, .int .i64 m]) hw Try.func74 rfl Try.ntmps74 rfl ?_
  repeat' first
    | ((with_reducible apply (LS_callx (f := 77))); exact rfl; exact rfl; exact rfl; exact fun w hw => copyInts_ok _ xs w (hs w hw.tail) (by omega); rintro ⟨g2, c2⟩ ⟨b1, b2⟩; dsimp only at b1 b2 ⊢)
    | ((with_reducible apply (LS_callf (f := 70))); exact rfl; exact rfl; exact rfl; exact fun w hw => pick_at 1 hw rfl hR (by omega) (by omega) (by omega); rintro kx ⟨kx0, kx1, kx2⟩)
    | ((with_reducible apply (LS_callf (f := 70))); exact rfl; exact rfl; exact rfl; exact fun w hw => pick_at 0 hw rfl hR (by omega) (by omega) (by omega); rintro kx ⟨kx0, kx1, kx2⟩)
    | ((with_reducible apply (LS_callf (f := 71))); exact rfl; exact rfl; exact rfl; exact fun w hw => one_at 1 0 hw rfl rfl rfl rfl (by decide) (by decide) (by decide) hR (by omega) (by omega); rintro _ _)
    | ((with_reducible apply (LS_append_one 2 0 xs m)); exact rfl; exact rfl; exact rfl; exact rfl; exact rfl; exact rfl; exact rfl; exact rfl; exact rfl; exact rfl; exact rfl; omega; omega; omega; intro g4 c4 e1 e2)
    | ((with_reducible apply (LR_slice_ent (fun w => (intE g2 c2 xs).At w) 1 xs.length)); exact rfl; exact rfl; exact rfl; exact rfl; exact rfl; exact fun w hw => hw.sl rfl rfl b1 b2; exact rfl; exact b1; exact .inr rfl; exact .inl ⟨rfl, rfl⟩; omega; omega; intro A5 n5 c5 k5)
    | ((with_reducible apply (LR_index_own kx.toNat)); exact rfl; exact rfl; exact rfl; exact rfl; omega; omega)
    | ((with_reducible apply (LS_store1 2)); exact rfl; exact rfl; exact rfl; exact rfl; exact rfl; exact putF_set xs kx.toNat _ (by omega))
    | ((with_reducible apply CS_seq))
    | ((with_reducible apply CS_block))
    | ((with_reducible apply CS_region))
    | ((with_reducible apply RR_end))
    | ((with_reducible apply LR_pure); exact rfl; exact rfl; exact rfl)
    | ((with_reducible apply LR_eqb); exact rfl; exact rfl; exact rfl; exact rfl)
    | ((with_reducible apply LR_len); exact rfl; exact rfl; exact rfl)
    | ((with_reducible apply LR_len_sl); exact rfl; exact rfl; exact rfl; assumption)
    | ((with_reducible apply LR_index_any); exact rfl; exact rfl; exact rfl; exact rfl; assumption; omega; omega; exact rfl; intro _ _ _ _)
    | ((with_reducible apply LS_store1 0); exact rfl; exact rfl; exact rfl; exact rfl; exact rfl; exact rfl)
    | ((with_reducible apply LS_store1 1); exact rfl; exact rfl; exact rfl; exact rfl; exact rfl; exact rfl)
    | ((with_reducible apply LS_store1 2); exact rfl; exact rfl; exact rfl; exact rfl; exact rfl; exact rfl)
    | ((with_reducible apply LS_store1 3); exact rfl; exact rfl; exact rfl; exact rfl; exact rfl; exact rfl)
    | ((with_reducible apply LS_store_agg 0); exact rfl; exact rfl; exact rfl; exact rfl; exact rfl; exact rfl; exact rfl; exact rfl)
    | ((with_reducible apply LS_store_agg 1); exact rfl; exact rfl; exact rfl; exact rfl; exact rfl; exact rfl; exact rfl; exact rfl)
    | ((with_reducible apply LS_store_agg 2); exact rfl; exact rfl; exact rfl; exact rfl; exact rfl; exact rfl; exact rfl; exact rfl)
    | ((with_reducible apply LS_store_agg 3); exact rfl; exact rfl; exact rfl; exact rfl; exact rfl; exact rfl; exact rfl; exact rfl)
    | ((with_reducible apply LS_buildSlice); exact rfl; exact rfl; exact rfl; exact rfl; exact rfl; exact rfl; exact rfl; intro _)
    | ((with_reducible apply post_seq))
    | ((with_reducible apply post_then_ret))
    | ((with_reducible apply post_then_exit))
    | ((with_reducible apply post_block_n))
    | ((with_reducible apply post_block_ret))
    | ((with_reducible apply post_block_eq))
    | ((with_reducible apply post_block_ne); exact rfl)
    | ((with_reducible apply CS_skip))
    | ((with_reducible apply CS_ret))
    | ((with_reducible apply CS_exit))
    | ((with_reducible apply CS_cond_t); exact rfl)
    | ((with_reducible apply CS_cond_f); exact rfl)
    | ((with_reducible apply CS_cond_nd); exact rfl; all_goals intro hb; all_goals try (exfalso; omega))
    | ((with_reducible apply CS_cond_d); exact rfl; all_goals intro hb; all_goals try (exfalso; omega))
    | ((with_reducible apply CS_cond_n); exact rfl; all_goals intro hb; all_goals try (exfalso; omega))
    | ((with_reducible apply CS_cond); exact rfl; all_goals intro hb; all_goals try (exfalso; omega))
  all_goals (apply post_ret1; exact rfl; exact rfl; intro w' hw')
  · exact ⟨⟨p + 1, _, _, c4, xs ++ [m], intE g4 c4 (xs ++ [m])⟩, ⟨by dsimp only; omega, by dsimp only; omega, by simp, fun w hw => hw.sl rfl (by simp) e1 e2⟩, rfl, (hw'.perm (pull_perm 2 _ _ _ rfl)).sub (by repeat (first | exact List.Sublist.refl _ | exact List.nil_sublist _ | apply List.Sublist.cons_cons | apply List.Sublist.cons))⟩
  · exact ⟨⟨p + 1, A5, n5, c5, _, intE g2 c2 xs⟩, ⟨by dsimp only; omega, by dsimp only; omega, by simp; omega, k5⟩, rfl, hw'⟩
  · exact ⟨⟨p + 1, _, _, c2, xs, intE g2 c2 xs⟩, ⟨by dsimp only; omega, by dsimp only; omega, by dsimp only; omega, fun w hw => hw.sl rfl rfl b1 b2⟩, rfl, hw'⟩
  · rename_i y _ 
    exact ⟨⟨p + 1 + 1 + 1, _, _, c2, xs.set kx.toNat y, intE g2 c2 (xs.set kx.toNat y)⟩, ⟨by dsimp only; omega, by dsimp only; omega, by simp, fun w hw => hw.sl rfl (by simp) b1 b2⟩, rfl, (hw'.perm (pull_perm 1 _ _ _ rfl)).sub (by repeat (first | exact List.Sublist.refl _ | exact List.nil_sublist _ | apply List.Sublist.cons_cons | apply List.Sublist.cons))⟩
  · exact ⟨⟨p + 1, _, _, c2, xs, intE g2 c2 xs⟩, ⟨by dsimp only; omega, by dsimp only; omega, by dsimp only; omega, fun w hw => hw.sl rfl rfl b1 b2⟩, rfl, hw'⟩
  · exact ⟨⟨p + 1, _, _, c2, xs, intE g2 c2 xs⟩, ⟨by dsimp only; omega, by dsimp only; omega, by dsimp only; omega, fun w hw => hw.sl rfl rfl b1 b2⟩, rfl, hw'⟩
theorem pickCoupons_ok (w0 : World) (h : List Ent) (w : World) (g tot : Nat) (bv : Value) (p : Int) (l : List By) (hw : Wd w0 (rdE g tot bv p :: h) w) (hR : Rd4 w0 g tot bv l) (h0 : 0 ≤ p) (h1 : p ≤ 700000) (ad : Option Addr) (n c : Nat) (xs : List Cp) (hs : ∀ w, Wd w0 h w → Sl w (.slice ad n c) xs) (hx : xs.length ≤ 100) : Calls Try.prog 66 #[.pointer (some ⟨g, 0, none⟩), .slice ad n c] w
    (fun x w' => ∃ i : NmG, (p ≤ i.p ∧ i.p ≤ p + 200 ∧ i.zs.length ≤ 4 ∧ (∀ w, i.ent.At w → Sl w (.slice i.A i.n i.c) i.zs)) ∧ x = .returned (.slice i.A i.n i.c) ∧ Wd w0 (rdE g tot bv i.p :: i.ent :: h) w') := by
  have hml : maxLen = 9223372036854775807 := rfl
  obtain ⟨A0, n0, c0, he, hn, hnc, _, hp0⟩ := hs _ hw.tail
  simp only [Value.slice.injEq] at he
  obtain ⟨rfl, rfl, rfl⟩ := he
  refine enter_in (vs := [.pointer (some ⟨g, 0, none⟩), .slice ad n c]) hw Try.func66 rfl Try.ntmps66 rfl ?_
  repeat' first
    | ((with_reducible apply CS_seq))
    | ((with_reducible apply CS_block))
    | ((with_reducible apply CS_region))
    | ((with_reducible apply RR_end))
    | ((with_reducible apply LR_pure); exact rfl; exact rfl; exact rfl)
    | ((with_reducible apply LR_skip); exact rfl; exact rfl)
    | ((with_reducible apply LR_add); exact rfl; exact rfl; exact rfl; exact rfl; omega; omega)
    | ((with_reducible apply LR_eqb); exact rfl; exact rfl; exact rfl; exact rfl)
    | ((with_reducible apply LR_field_own); exact rfl; exact rfl; exact rfl)
    | ((with_reducible apply LR_field); exact rfl; exact rfl; exact rfl)
    | ((with_reducible apply LR_load_own 0); exact rfl; exact rfl; exact rfl; exact rfl; exact rfl)
    | ((with_reducible apply LR_load_own 1); exact rfl; exact rfl; exact rfl; exact rfl; exact rfl)
    | ((with_reducible apply LR_load_own 2); exact rfl; exact rfl; exact rfl; exact rfl; exact rfl)
    | ((with_reducible apply LR_load_own 3); exact rfl; exact rfl; exact rfl; exact rfl; exact rfl)
    | ((with_reducible apply LR_load_own 4); exact rfl; exact rfl; exact rfl; exact rfl; exact rfl)
    | ((with_reducible apply LR_load_old); exact rfl; exact rfl; exact rfl; assumption; exact rfl)
    | ((with_reducible apply LR_load_old0); exact rfl; exact rfl; exact rfl; assumption; exact rfl)
    | ((with_reducible apply LR_load_old_agg); exact rfl; exact rfl; exact rfl; assumption; exact rfl)
    | ((with_reducible apply LR_load_old_aggk); exact rfl; exact rfl; exact rfl; assumption; exact rfl)
    | ((with_reducible apply LR_load_own_agg 0); exact rfl; exact rfl; exact rfl; exact rfl; exact rfl)
    | ((with_reducible apply LR_load_own_agg 1); exact rfl; exact rfl; exact rfl; exact rfl; exact rfl)
    | ((with_reducible apply LR_load_own_agg 2); exact rfl; exact rfl; exact rfl; exact rfl; exact rfl)
    | ((with_reducible apply LR_load_own_agg 3); exact rfl; exact rfl; exact rfl; exact rfl; exact rfl)
    | ((with_reducible apply LR_len); exact rfl; exact rfl; exact rfl)
    | ((with_reducible apply LR_len_sl); exact rfl; exact rfl; exact rfl; assumption)
    | ((with_reducible apply LR_index_any); exact rfl; exact rfl; exact rfl; exact rfl; assumption; omega; omega; exact rfl; intro _ _ _ _)
    | ((with_reducible apply LR_load_cls0); exact rfl; exact rfl; exact rfl; assumption; exact rfl)
    | ((with_reducible apply LR_load_cls); exact rfl; exact rfl; exact rfl; assumption; exact rfl)
    | ((with_reducible apply LR_load_cls_agg); exact rfl; exact rfl; exact rfl; assumption; exact rfl)
    | ((with_reducible apply LS_buildSlice); exact rfl; exact rfl; exact rfl; exact rfl; exact rfl; exact rfl; exact rfl; intro _)
    | ((with_reducible apply post_seq))
    | ((with_reducible apply post_then_ret))
    | ((with_reducible apply post_then_exit))
    | ((with_reducible apply post_block_n))
    | ((with_reducible apply post_block_ret))
    | ((with_reducible apply post_block_eq))
    | ((with_reducible apply post_block_ne); exact rfl)
    | ((with_reducible apply CS_skip))
    | ((with_reducible apply CS_ret))
    | ((with_reducible apply CS_exit))
    | ((with_reducible apply CS_cond_t); exact rfl)
    | ((with_reducible apply CS_cond_f); exact rfl)
    | ((with_reducible apply CS_cond_nd); exact rfl; all_goals intro hb; all_goals try (exfalso; omega))
    | ((with_reducible apply CS_cond_d); exact rfl; all_goals intro hb; all_goals try (exfalso; omega))
    | ((with_reducible apply CS_cond_n); exact rfl; all_goals intro hb; all_goals try (exfalso; omega))
    | ((with_reducible apply CS_cond); exact rfl; all_goals intro hb; all_goals try (exfalso; omega))
    | ((with_reducible apply LR_caseg_nd); exact rfl; exact rfl; all_goals intro hb; all_goals try (exfalso; omega))
    | ((with_reducible apply LR_caseg_d); exact rfl; exact rfl; all_goals intro hb; all_goals try (exfalso; omega))
    | ((with_reducible apply LR_caseg_n); exact rfl; exact rfl; all_goals intro hb; all_goals try (exfalso; omega))
    | ((with_reducible apply LR_caseg); exact rfl; exact rfl; all_goals intro hb; all_goals try (exfalso; omega))
    | ((with_reducible apply LR_casep_nd); exact rfl; all_goals intro hb; all_goals (fail_if_success guard_hyp hb :ₛ true = true); all_goals try (exfalso; omega))
    | ((with_reducible apply LR_casep_d); exact rfl; all_goals intro hb; all_goals (fail_if_success guard_hyp hb :ₛ true = true); all_goals try (exfalso; omega))
    | ((with_reducible apply LR_casep_n); exact rfl; all_goals intro hb; all_goals (fail_if_success guard_hyp hb :ₛ true = true); all_goals try (exfalso; omega))
    | ((with_reducible apply LR_casep); exact rfl; all_goals intro hb; all_goals (fail_if_success guard_hyp hb :ₛ true = true); all_goals try (exfalso; omega))
  rename_i g2
  refine CS_loop (ι := Nat × Int × Nat × Nat × List Int) (fun i => [(0, .pointer (some ⟨g, 0, none⟩)), (1, .slice ad n c), (5, .slice (some ⟨i.2.2.1, 0, none⟩) i.2.2.2.2.length i.2.2.2.1), (6, .int .i64 (i.1 : Int))]) (fun i => Wd w0 (rdE g tot bv i.2.1 :: intE i.2.2.1 i.2.2.2.1 i.2.2.2.2 :: h)) (fun i => i.1 ≤ xs.length ∧ p ≤ i.2.1 ∧ i.2.1 ≤ p + i.1 ∧ i.2.2.2.2.length ≤ 3 ∧ i.2.2.2.2.length ≤ i.2.2.2.1 ∧ i.2.2.2.1 ≤ maxLen) (fun i => xs.length - i.1) (0, p, g2, 0, []) ⟨by dsimp only; omega, by dsimp only; omega, by dsimp only; omega, by simp, by simp, by simp⟩ ⟨rfl, rfl, rfl, rfl, trivial⟩ (fun _ hw => hw.perm (List.Perm.swap _ _ _)) ?_
  rintro ⟨k, p2, g3, c3, ys⟩ ⟨a1, a2, a3, a4, a5, a6⟩
  dsimp only at *
  by_cases hk : k < xs.length
  · obtain ⟨ad0, rfl, _⟩ := hp0 (by omega)
    repeat' first
      | ((with_reducible apply (LS_callf (f := 70))); exact rfl; exact rfl; exact rfl; exact fun w hw => pick_at 0 hw rfl hR (by omega) (by omega) (by omega); rintro kx ⟨kx0, kx1, kx2⟩)
      | ((with_reducible apply LR_index_cls); exact rfl; exact rfl; exact rfl; exact rfl; exact fun w hw => hs w (hw.sub (by repeat (first | exact List.Sublist.refl _ | exact List.nil_sublist _ | apply List.Sublist.cons_cons | apply List.Sublist.cons))); exact hn; omega; omega; exact rfl; intro _ r hr _)
      | ((with_reducible apply (LS_append_one 2 0 ys r.num)); exact rfl; exact rfl; exact rfl; exact rfl; exact rfl; exact rfl; exact rfl; exact rfl; exact rfl; exact rfl; exact rfl; omega; omega; omega; intro g4 c4 e1 e2)
      | ((with_reducible apply CS_seq))
      | ((with_reducible apply CS_block))
      | ((with_reducible apply CS_region))
      | ((with_reducible apply RR_end))
      | ((with_reducible apply LR_pure); exact rfl; exact rfl; exact rfl)
      | ((with_reducible apply LR_skip); exact rfl; exact rfl)
      | ((with_reducible apply LR_add); exact rfl; exact rfl; exact rfl; exact rfl; omega; omega)
      | ((with_reducible apply LR_eqb); exact rfl; exact rfl; exact rfl; exact rfl)
      | ((with_reducible apply LR_field_own); exact rfl; exact rfl; exact rfl)
      | ((with_reducible apply LR_field); exact rfl; exact rfl; exact rfl)
      | ((with_reducible apply LR_load_own 0); exact rfl; exact rfl; exact rfl; exact rfl; exact rfl)
      | ((with_reducible apply LR_load_own 1); exact rfl; exact rfl; exact rfl; exact rfl; exact rfl)
      | ((with_reducible apply LR_load_own 2); exact rfl; exact rfl; exact rfl; exact rfl; exact rfl)
      | ((with_reducible apply LR_load_own 3); exact rfl; exact rfl; exact rfl; exact rfl; exact rfl)
      | ((with_reducible apply LR_load_own 4); exact rfl; exact rfl; exact rfl; exact rfl; exact rfl)
      | ((with_reducible apply LR_load_old); exact rfl; exact rfl; exact rfl; assumption; exact rfl)
      | ((with_reducible apply LR_load_old0); exact rfl; exact rfl; exact rfl; assumption; exact rfl)
      | ((with_reducible apply LR_load_old_agg); exact rfl; exact rfl; exact rfl; assumption; exact rfl)
      | ((with_reducible apply LR_load_old_aggk); exact rfl; exact rfl; exact rfl; assumption; exact rfl)
      | ((with_reducible apply LR_load_own_agg 0); exact rfl; exact rfl; exact rfl; exact rfl; exact rfl)
      | ((with_reducible apply LR_load_own_agg 1); exact rfl; exact rfl; exact rfl; exact rfl; exact rfl)
      | ((with_reducible apply LR_load_own_agg 2); exact rfl; exact rfl; exact rfl; exact rfl; exact rfl)
      | ((with_reducible apply LR_load_own_agg 3); exact rfl; exact rfl; exact rfl; exact rfl; exact rfl)
      | ((with_reducible apply LR_len); exact rfl; exact rfl; exact rfl)
      | ((with_reducible apply LR_len_sl); exact rfl; exact rfl; exact rfl; assumption)
      | ((with_reducible apply LR_index_any); exact rfl; exact rfl; exact rfl; exact rfl; assumption; omega; omega; exact rfl; intro _ _ _ _)
      | ((with_reducible apply LR_load_cls0); exact rfl; exact rfl; exact rfl; assumption; exact rfl)
      | ((with_reducible apply LR_load_cls); exact rfl; exact rfl; exact rfl; assumption; exact rfl)
      | ((with_reducible apply LR_load_cls_agg); exact rfl; exact rfl; exact rfl; assumption; exact rfl)
      | ((with_reducible apply LS_buildSlice); exact rfl; exact rfl; exact rfl; exact rfl; exact rfl; exact rfl; exact rfl; intro _)
      | ((with_reducible apply post_seq))
      | ((with_reducible apply post_then_ret))
      | ((with_reducible apply post_then_exit))
      | ((with_reducible apply post_block_n))
      | ((with_reducible apply post_block_ret))
      | ((with_reducible apply post_block_eq))
      | ((with_reducible apply post_block_ne); exact rfl)
      | ((with_reducible apply CS_skip))
      | ((with_reducible apply CS_ret))
      | ((with_reducible apply CS_exit))
      | ((with_reducible apply CS_cond_t); exact rfl)
      | ((with_reducible apply CS_cond_f); exact rfl)
      | ((with_reducible apply CS_cond_nd); exact rfl; all_goals intro hb; all_goals try (exfalso; omega))
      | ((with_reducible apply CS_cond_d); exact rfl; all_goals intro hb; all_goals try (exfalso; omega))
      | ((with_reducible apply CS_cond_n); exact rfl; all_goals intro hb; all_goals try (exfalso; omega))
      | ((with_reducible apply CS_cond); exact rfl; all_goals intro hb; all_goals try (exfalso; omega))
      | ((with_reducible apply LR_caseg_nd); exact rfl; exact rfl; all_goals intro hb; all_goals try (exfalso; omega))
      | ((with_reducible apply LR_caseg_d); exact rfl; exact rfl; all_goals intro hb; all_goals try (exfalso; omega))
      | ((with_reducible apply LR_caseg_n); exact rfl; exact rfl; all_goals intro hb; all_goals try (exfalso; omega))
      | ((with_reducible apply LR_caseg); exact rfl; exact rfl; all_goals intro hb; all_goals try (exfalso; omega))
      | ((with_reducible apply LR_casep_nd); exact rfl; all_goals intro hb; all_goals (fail_if_success guard_hyp hb :ₛ true = true); all_goals try (exfalso; omega))
      | ((with_reducible apply LR_casep_d); exact rfl; all_goals intro hb; all_goals (fail_if_success guard_hyp hb :ₛ true = true); all_goals try (exfalso; omega))
      | ((with_reducible apply LR_casep_n); exact rfl; all_goals intro hb; all_goals (fail_if_success guard_hyp hb :ₛ true = true); all_goals try (exfalso; omega))
      | ((with_reducible apply LR_casep); exact rfl; all_goals intro hb; all_goals (fail_if_success guard_hyp hb :ₛ true = true); all_goals try (exfalso; omega))
    · exact post_round (i := (k, p2, g3, c3, ys)) (k + 1, p2 + 1, g4, c4, ys ++ [r.num]) ⟨hk, by dsimp only; omega, by dsimp only; omega, by simp only [List.length_append, List.length_singleton]; omega, by simp only [List.length_append, List.length_singleton]; omega, e2⟩ (by dsimp only; omega) ⟨rfl, rfl, by dsimp only; rw [List.length_append]; rfl, rfl, trivial⟩ (fun _ hw => (hw.perm (pull_perm 2 _ _ _ rfl)).sub (by repeat (first | exact List.Sublist.refl _ | exact List.nil_sublist _ | apply List.Sublist.cons_cons | apply List.Sublist.cons)))
    · exact post_round (i := (k, p2, g3, c3, ys)) (k + 1, p2 + 1, g3, c3, ys) ⟨hk, by dsimp only; omega, by dsimp only; omega, a4, a5, a6⟩ (by dsimp only; omega) ⟨rfl, rfl, rfl, rfl, trivial⟩ (fun _ hw => hw)
    · exact post_round (i := (k, p2, g3, c3, ys)) (k + 1, p2, g3, c3, ys) ⟨hk, by dsimp only; omega, by dsimp only; omega, a4, a5, a6⟩ (by dsimp only; omega) ⟨rfl, rfl, rfl, rfl, trivial⟩ (fun _ hw => hw)
  · skip
    repeat' first
      | ((with_reducible apply (LS_callf (f := 74))); exact rfl; exact rfl; exact rfl; exact fun w hw => spoil_ok w0 _ w g tot bv p2 l hw hR (by omega) (by omega) _ _ _ ys _ (fun w hw => own_sl 0 hw rfl rfl rfl a5 a6) (by omega); rintro ⟨p5, A5, n5, c5, zs5, ent5⟩ ⟨d1, d2, d3, d4⟩)
      | ((with_reducible apply CS_seq))
      | ((with_reducible apply CS_block))
      | ((with_reducible apply CS_region))
      | ((with_reducible apply RR_end))
      | ((with_reducible apply LR_pure); exact rfl; exact rfl; exact rfl)
      | ((with_reducible apply LR_skip); exact rfl; exact rfl)
      | ((with_reducible apply LR_add); exact rfl; exact rfl; exact rfl; exact rfl; omega; omega)
      | ((with_reducible apply LR_eqb); exact rfl; exact rfl; exact rfl; exact rfl)
      | ((with_reducible apply LR_field_own); exact rfl; exact rfl; exact rfl)
      | ((with_reducible apply LR_field); exact rfl; exact rfl; exact rfl)
      | ((with_reducible apply LR_load_own 0); exact rfl; exact rfl; exact rfl; exact rfl; exact rfl)
      | ((with_reducible apply LR_load_own 1); exact rfl; exact rfl; exact rfl; exact rfl; exact rfl)
      | ((with_reducible apply LR_load_own 2); exact rfl; exact rfl; exact rfl; exact rfl; exact rfl)
      | ((with_reducible apply LR_load_own 3); exact rfl; exact rfl; exact rfl; exact rfl; exact rfl)
      | ((with_reducible apply LR_load_own 4); exact rfl; exact rfl; exact rfl; exact rfl; exact rfl)
      | ((with_reducible apply LR_load_old); exact rfl; exact rfl; exact rfl; assumption; exact rfl)
      | ((with_reducible apply LR_load_old0); exact rfl; exact rfl; exact rfl; assumption; exact rfl)
      | ((with_reducible apply LR_load_old_agg); exact rfl; exact rfl; exact rfl; assumption; exact rfl)
      | ((with_reducible apply LR_load_old_aggk); exact rfl; exact rfl; exact rfl; assumption; exact rfl)
      | ((with_reducible apply LR_load_own_agg 0); exact rfl; exact rfl; exact rfl; exact rfl; exact rfl)
      | ((with_reducible apply LR_load_own_agg 1); exact rfl; exact rfl; exact rfl; exact rfl; exact rfl)
      | ((with_reducible apply LR_load_own_agg 2); exact rfl; exact rfl; exact rfl; exact rfl; exact rfl)
      | ((with_reducible apply LR_load_own_agg 3); exact rfl; exact rfl; exact rfl; exact rfl; exact rfl)
      | ((with_reducible apply LR_len); exact rfl; exact rfl; exact rfl)
      | ((with_reducible apply LR_len_sl); exact rfl; exact rfl; exact rfl; assumption)
      | ((with_reducible apply LR_index_any); exact rfl; exact rfl; exact rfl; exact rfl; assumption; omega; omega; exact rfl; intro _ _ _ _)
      | ((with_reducible apply LR_load_cls0); exact rfl; exact rfl; exact rfl; assumption; exact rfl)
      | ((with_reducible apply LR_load_cls); exact rfl; exact rfl; exact rfl; assumption; exact rfl)
      | ((with_reducible apply LR_load_cls_agg); exact rfl; exact rfl; exact rfl; assumption; exact rfl)
      | ((with_reducible apply LS_buildSlice); exact rfl; exact rfl; exact rfl; exact rfl; exact rfl; exact rfl; exact rfl; intro _)
      | ((with_reducible apply post_seq))
      | ((with_reducible apply post_then_ret))
      | ((with_reducible apply post_then_exit))
      | ((with_reducible apply post_block_n))
      | ((with_reducible apply post_block_ret))
      | ((with_reducible apply post_block_eq))
      | ((with_reducible apply post_block_ne); exact rfl)
      | ((with_reducible apply CS_skip))
      | ((with_reducible apply CS_ret))
      | ((with_reducible apply CS_exit))
      | ((with_reducible apply CS_cond_t); exact rfl)
      | ((with_reducible apply CS_cond_f); exact rfl)
      | ((with_reducible apply CS_cond_nd); exact rfl; all_goals intro hb; all_goals try (exfalso; omega))
      | ((with_reducible apply CS_cond_d); exact rfl; all_goals intro hb; all_goals try (exfalso; omega))
      | ((with_reducible apply CS_cond_n); exact rfl; all_goals intro hb; all_goals try (exfalso; omega))
      | ((with_reducible apply CS_cond); exact rfl; all_goals intro hb; all_goals try (exfalso; omega))
      | ((with_reducible apply LR_caseg_nd); exact rfl; exact rfl; all_goals intro hb; all_goals try (exfalso; omega))
      | ((with_reducible apply LR_caseg_d); exact rfl; exact rfl; all_goals intro hb; all_goals try (exfalso; omega))
      | ((with_reducible apply LR_caseg_n); exact rfl; exact rfl; all_goals intro hb; all_goals try (exfalso; omega))
      | ((with_reducible apply LR_caseg); exact rfl; exact rfl; all_goals intro hb; all_goals try (exfalso; omega))
      | ((with_reducible apply LR_casep_nd); exact rfl; all_goals intro hb; all_goals (fail_if_success guard_hyp hb :ₛ true = true); all_goals try (exfalso; omega))
      | ((with_reducible apply LR_casep_d); exact rfl; all_goals intro hb; all_goals (fail_if_success guard_hyp hb :ₛ true = true); all_goals try (exfalso; omega))
      | ((with_reducible apply LR_casep_n); exact rfl; all_goals intro hb; all_goals (fail_if_success guard_hyp hb :ₛ true = true); all_goals try (exfalso; omega))
      | ((with_reducible apply LR_casep); exact rfl; all_goals intro hb; all_goals (fail_if_success guard_hyp hb :ₛ true = true); all_goals try (exfalso; omega))
    dsimp only at d1 d2 d3 d4
    apply post_ret1; exact rfl; exact rfl; intro w' hw'; exact ⟨⟨p5, A5, n5, c5, zs5, ent5⟩, ⟨by dsimp only; omega, by dsimp only; omega, by dsimp only; omega, d4⟩, rfl, hw'.sub (by repeat (first | exact List.Sublist.refl _ | exact List.nil_sublist _ | apply List.Sublist.cons_cons | apply List.Sublist.cons))⟩
theorem DrawValidBook_ok (v : Value) (l : List By) (w : World) (hs : Sl w v l) (hby : BytesOk l) : Calls Try.prog 25 #[v] w
    (fun x w' => ∃ i : Value × List Cp, (Sl w' i.1 i.2 ∧ i.2.length ≤ 10) ∧ x = .returned i.1 ∧ Wd w [] w') := by
  have hml : maxLen = 9223372036854775807 := rfl
  refine enter (vs := [v]) Try.func25 rfl Try.ntmps25 rfl ?_
  repeat' first
    | ((with_reducible apply (LS_callf (f := 54))); exact rfl; exact rfl; exact rfl; exact fun w hw => newReader_ok _ _ w hw v l hs hby; rintro ⟨g, bv, l'⟩ ⟨q1, q2, q3⟩)
    | ((with_reducible apply (LS_callf (f := 57))); exact rfl; exact rfl; exact rfl; exact fun w hw => anyBook_ok _ _ w g _ bv _ l' hw ⟨q1, q2, q3⟩ (by omega) (by omega); rintro ⟨p2, g3, c3, xs⟩ ⟨a1, a2, a3, a4, a5⟩)
    | ((with_reducible apply CS_seq))
    | ((with_reducible apply CS_region))
    | ((with_reducible apply RR_end))
    | ((with_reducible apply LR_pure); exact rfl; exact rfl; exact rfl)
    | ((with_reducible apply post_seq))
    | ((with_reducible apply post_then_ret))
    | ((with_reducible apply post_then_exit))
    | ((with_reducible apply CS_skip))
    | ((with_reducible apply CS_ret))
    | ((with_reducible apply CS_exit))
  dsimp only at *
  apply post_ret1; exact rfl; exact rfl; intro w' hw'; exact ⟨(_, xs), ⟨own_sl 1 hw' rfl rfl rfl a4 a5, a3⟩, rfl, hw'.nil⟩
theorem DrawUsableCoupons_ok (v : Value) (l : List By) (w : World) (hs : Sl w v l) (hby : BytesOk l) : Calls Try.prog 31 #[v] w
    (fun x w' => ∃ i : Value × List Cp × Int, (Sl w' i.1 i.2.1 ∧ i.2.1.length ≤ 10) ∧ x = .returned (.tuple #[i.1, .int .i64 i.2.2]) ∧ Wd w [] w') := by
  have hml : maxLen = 9223372036854775807 := rfl
  refine enter (vs := [v]) Try.func31 rfl Try.ntmps31 rfl ?_
  repeat' first
    | ((with_reducible apply (LS_callf (f := 54))); exact rfl; exact rfl; exact rfl; exact fun w hw => newReader_ok _ _ w hw v l hs hby; rintro ⟨g, bv, l'⟩ ⟨q1, q2, q3⟩)
    | ((with_reducible apply (LS_callf (f := 57))); exact rfl; exact rfl; exact rfl; exact fun w hw => anyBook_ok _ _ w g _ bv _ l' hw ⟨q1, q2, q3⟩ (by omega) (by omega); rintro ⟨p2, g3, c3, xs⟩ ⟨a1, a2, a3, a4, a5⟩; dsimp only at *)
    | ((with_reducible apply (LS_callf (f := 61))); exact rfl; exact rfl; exact rfl; exact fun w hw => someDay_ok _ _ w g _ bv _ l' hw ⟨q1, q2, q3⟩ (by omega) (by omega); rintro ⟨dy, p3⟩ ⟨_, _⟩)
    | ((with_reducible apply CS_seq))
    | ((with_reducible apply CS_region))
    | ((with_reducible apply RR_end))
    | ((with_reducible apply LR_pure); exact rfl; exact rfl; exact rfl)
    | ((with_reducible apply post_seq))
    | ((with_reducible apply post_then_ret))
    | ((with_reducible apply post_then_exit))
    | ((with_reducible apply CS_skip))
    | ((with_reducible apply CS_ret))
    | ((with_reducible apply CS_exit))
  dsimp only at *
  apply post_ret2; exact rfl; exact rfl; exact rfl; intro w' hw'; exact ⟨(_, xs, dy), ⟨own_sl 1 hw' rfl rfl rfl a4 a5, a3⟩, rfl, hw'.nil⟩
theorem DrawReturnCoupons_ok (v : Value) (l : List By) (w : World) (hs : Sl w v l) (hby : BytesOk l) : Calls Try.prog 41 #[v] w
    (fun x w' => ∃ i : Value × List Cp × Value × List Int, (Sl w' i.1 i.2.1 ∧ i.2.1.length ≤ 10 ∧ Sl w' i.2.2.1 i.2.2.2 ∧ i.2.2.2.length ≤ 4) ∧ x = .returned (.tuple #[i.1, i.2.2.1]) ∧ Wd w [] w') := by
  have hml : maxLen = 9223372036854775807 := rfl
  refine enter (vs := [v]) Try.func41 rfl Try.ntmps41 rfl ?_
  repeat' first
    | ((with_reducible apply (LS_callf (f := 54))); exact rfl; exact rfl; exact rfl; exact fun w hw => newReader_ok _ _ w hw v l hs hby; rintro ⟨g, bv, l'⟩ ⟨q1, q2, q3⟩)
    | ((with_reducible apply (LS_callf (f := 57))); exact rfl; exact rfl; exact rfl; exact fun w hw => anyBook_ok _ _ w g _ bv _ l' hw ⟨q1, q2, q3⟩ (by omega) (by omega); rintro ⟨p2, g3, c3, xs⟩ ⟨a1, a2, a3, a4, a5⟩; dsimp only at *)
    | ((with_reducible apply (LS_callf (f := 66))); exact rfl; exact rfl; exact rfl; exact fun w hw => pickCoupons_ok _ _ w g _ bv _ l' hw ⟨q1, q2, q3⟩ (by omega) (by omega) _ _ _ xs (fun w hw => own_sl 0 hw rfl rfl rfl a4 a5) (by omega); rintro ⟨p5, A5, n5, c5, zs5, ent5⟩ ⟨d1, d2, d3, d4⟩; dsimp only at *)
    | ((with_reducible apply CS_seq))
    | ((with_reducible apply CS_region))
    | ((with_reducible apply RR_end))
    | ((with_reducible apply LR_pure); exact rfl; exact rfl; exact rfl)
    | ((with_reducible apply post_seq))
    | ((with_reducible apply post_then_ret))
    | ((with_reducible apply post_then_exit))
    | ((with_reducible apply CS_skip))
    | ((with_reducible apply CS_ret))
    | ((with_reducible apply CS_exit))
  apply post_ret2; exact rfl; exact rfl; exact rfl; intro w' hw'; exact ⟨(_, xs, _, zs5), ⟨own_sl 2 hw' rfl rfl rfl a4 a5, a3, d4 _ hw'.tail.head, d3⟩, rfl, hw'.nil⟩
theorem DrawUseCoupons_ok (v : Value) (l : List By) (w : World) (hs : Sl w v l) (hby : BytesOk l) : Calls Try.prog 47 #[v] w
    (fun x w' => ∃ i : Value × List Cp × Value × List Int × Int, (Sl w' i.1 i.2.1 ∧ i.2.1.length ≤ 10 ∧ Sl w' i.2.2.1 i.2.2.2.1 ∧ i.2.2.2.1.length ≤ 4) ∧ x = .returned (.tuple #[i.1, i.2.2.1, .int .i64 i.2.2.2.2]) ∧ Wd w [] w') := by
  have hml : maxLen = 9223372036854775807 := rfl
  refine enter (vs := [v]) Try.func47 rfl Try.ntmps47 rfl ?_
  repeat' first
    | ((with_reducible apply (LS_callf (f := 54))); exact rfl; exact rfl; exact rfl; exact fun w hw => newReader_ok _ _ w hw v l hs hby; rintro ⟨g, bv, l'⟩ ⟨q1, q2, q3⟩)
    | ((with_reducible apply (LS_callf (f := 57))); exact rfl; exact rfl; exact rfl; exact fun w hw => anyBook_ok _ _ w g _ bv _ l' hw ⟨q1, q2, q3⟩ (by omega) (by omega); rintro ⟨p2, g3, c3, xs⟩ ⟨a1, a2, a3, a4, a5⟩; dsimp only at *)
    | ((with_reducible apply (LS_callf (f := 66))); exact rfl; exact rfl; exact rfl; exact fun w hw => pickCoupons_ok _ _ w g _ bv _ l' hw ⟨q1, q2, q3⟩ (by omega) (by omega) _ _ _ xs (fun w hw => own_sl 0 hw rfl rfl rfl a4 a5) (by omega); rintro ⟨p5, A5, n5, c5, zs5, ent5⟩ ⟨d1, d2, d3, d4⟩; dsimp only at *)
    | ((with_reducible apply (LS_callf (f := 61))); exact rfl; exact rfl; exact rfl; exact fun w hw => someDay_ok _ _ w g _ bv _ l' hw ⟨q1, q2, q3⟩ (by omega) (by omega); rintro ⟨dy, p3⟩ ⟨_, _⟩)
    | ((with_reducible apply CS_seq))
    | ((with_reducible apply CS_region))
    | ((with_reducible apply RR_end))
    | ((with_reducible apply LR_pure); exact rfl; exact rfl; exact rfl)
    | ((with_reducible apply post_seq))
    | ((with_reducible apply post_then_ret))
    | ((with_reducible apply post_then_exit))
    | ((with_reducible apply CS_skip))
    | ((with_reducible apply CS_ret))
    | ((with_reducible apply CS_exit))
  dsimp only at *
  apply post_ret3; exact rfl; exact rfl; exact rfl; exact rfl; intro w' hw'; exact ⟨(_, xs, _, zs5, dy), ⟨own_sl 2 hw' rfl rfl rfl a4 a5, a3, d4 _ hw'.tail.head, d3⟩, rfl, hw'.nil⟩
end Go.Proofs.Ytgklapdlambdlaa
