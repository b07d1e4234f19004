/- The walk of the reference's way to spoil numbers. No condition beyond those that each theorem states. -/
import Derived.Test.YtaggfcghkfkngaaWRead
import Derived.Test.YtaggfcghkfkngaaWInt
import Derived.Test.YtaggfcghkfkngaaReg
namespace Go.Proofs.Ytaggfcghkfkngaa
open Go.RowKit
attribute [local irreducible] Calls
/-- a slice of ints that lies in an own block -/
structure NmG where
  p : Int
  A : Option Addr
  n : Nat
  c : Nat
  zs : List Int
  ent : Ent
theorem spoil_ok (w0 : World) (h : List Ent) (w : World) (g tot : Nat) (bv : Value) (p : Int) (l : List By) (hw : Wd w0 (rdE g tot bv p :: h) w) (hR : Rd4 w0 g tot bv l) (h0 : 0 ≤ p) (h1 : p ≤ 800000) (A : Option Addr) (n c : Nat) (xs : List Int) (m : Int) (hs : ∀ w, Wd w0 h w → Sl w (.slice A n c) xs) (hx : xs.length ≤ 1000) : Calls Try.prog 82 #[.pointer (some ⟨g, 0, none⟩), .slice A n c, .int .i64 m] w
    (fun x w' => ∃ i : NmG, (p ≤ i.p ∧ i.p ≤ p + 3 ∧ i.zs.length ≤ xs.length + 1 ∧ (∀ w, i.ent.At w → Sl w (.slice i.A i.n i.c) i.zs)) ∧ x = .returned (.slice i.A i.n i.c) ∧ Wd w0 (rdE g tot bv i.p :: i.ent :: h) w') := by
  have hml : maxLen = 9223372036854775807 := rfl
  refine enter_in (vs := [.pointer (some ⟨g, 0, none⟩), .slice A n c, .int .i64 m]) hw Try.func82 rfl Try.ntmps82 rfl ?_
  repeat' first
    | ((with_reducible apply (LS_callx (f := 43))); exact rfl; exact rfl; exact rfl; exact fun w hw => copyInts_ok _ xs w (hs w hw.tail) (by omega); rintro ⟨g2, c2⟩ ⟨b1, b2⟩; dsimp only at b1 b2 ⊢)
    | ((with_reducible apply (LS_callf (f := 78))); exact rfl; exact rfl; exact rfl; exact fun w hw => pick_at 1 hw rfl hR (by omega) (by omega) (by omega); rintro kx ⟨kx0, kx1, kx2⟩)
    | ((with_reducible apply (LS_callf (f := 78))); exact rfl; exact rfl; exact rfl; exact fun w hw => pick_at 0 hw rfl hR (by omega) (by omega) (by omega); rintro kx ⟨kx0, kx1, kx2⟩)
    | ((with_reducible apply (LS_callf (f := 79))); exact rfl; exact rfl; exact rfl; exact fun w hw => one_at 1 0 hw rfl rfl rfl rfl (by decide) (by decide) (by decide) hR (by omega) (by omega); rintro _ _)
    | ((with_reducible apply (LS_append_one 2 0 xs m)); exact rfl; exact rfl; exact rfl; exact rfl; exact rfl; exact rfl; exact rfl; exact rfl; exact rfl; exact rfl; exact rfl; omega; omega; omega; intro g4 c4 e1 e2)
    | ((with_reducible apply (LR_slice_ent (fun w => (intE g2 c2 xs).At w) 1 xs.length)); exact rfl; exact rfl; exact rfl; exact rfl; exact rfl; exact fun w hw => hw.sl rfl rfl b1 b2; exact rfl; exact b1; exact .inr rfl; exact .inl ⟨rfl, rfl⟩; omega; omega; intro A5 n5 c5 k5)
    | ((with_reducible apply (LR_index_own kx.toNat)); exact rfl; exact rfl; exact rfl; exact rfl; omega; omega)
    | ((with_reducible apply (LS_store1 2)); exact rfl; exact rfl; exact rfl; exact rfl; exact rfl; exact putF_set xs kx.toNat _ (by omega))
    | ((with_reducible apply CS_seq))
    | ((with_reducible apply CS_block))
    | ((with_reducible apply CS_region))
    | ((with_reducible apply RR_end))
    | ((with_reducible apply LR_pure); exact rfl; exact rfl; exact rfl)
    | ((with_reducible apply LR_eqb); exact rfl; exact rfl; exact rfl; exact rfl)
    | ((with_reducible apply LR_len); exact rfl; exact rfl; exact rfl)
    | ((with_reducible apply LR_len_sl); exact rfl; exact rfl; exact rfl; assumption)
    | ((with_reducible apply LR_index_any); exact rfl; exact rfl; exact rfl; exact rfl; assumption; omega; omega; exact rfl; intro _ _ _ _)
    | ((with_reducible apply LS_store1 0); exact rfl; exact rfl; exact rfl; exact rfl; exact rfl; exact rfl)
    | ((with_reducible apply LS_store1 1); exact rfl; exact rfl; exact rfl; exact rfl; exact rfl; exact rfl)
    | ((with_reducible apply LS_store1 2); exact rfl; exact rfl; exact rfl; exact rfl; exact rfl; exact rfl)
    | ((with_reducible apply LS_store1 3); exact rfl; exact rfl; exact rfl; exact rfl; exact rfl; exact rfl)
    | ((with_reducible apply LS_store1 4); exact rfl; exact rfl; exact rfl; exact rfl; exact rfl; exact rfl)
    | ((with_reducible apply LS_store1 5); exact rfl; exact rfl; exact rfl; exact rfl; exact rfl; exact rfl)
    | ((with_reducible apply LS_store1 6); exact rfl; exact rfl; exact rfl; exact rfl; exact rfl; exact rfl)
    | ((with_reducible apply LS_store1 7); exact rfl; exact rfl; exact rfl; exact rfl; exact rfl; exact rfl)
    | ((with_reducible apply LS_store1 8); exact rfl; exact rfl; exact rfl; exact rfl; exact rfl; exact rfl)
    | ((with_reducible apply LS_store_agg 0); exact rfl; exact rfl; exact rfl; exact rfl; exact rfl; exact rfl; exact rfl; exact rfl)
    | ((with_reducible apply LS_store_agg 1); exact rfl; exact rfl; exact rfl; exact rfl; exact rfl; exact rfl; exact rfl; exact rfl)
    | ((with_reducible apply LS_store_agg 2); exact rfl; exact rfl; exact rfl; exact rfl; exact rfl; exact rfl; exact rfl; exact rfl)
    | ((with_reducible apply LS_store_agg 3); exact rfl; exact rfl; exact rfl; exact rfl; exact rfl; exact rfl; exact rfl; exact rfl)
    | ((with_reducible apply LS_store_agg 4); exact rfl; exact rfl; exact rfl; exact rfl; exact rfl; exact rfl; exact rfl; exact rfl)
    | ((with_reducible apply LS_store_agg 5); exact rfl; exact rfl; exact rfl; exact rfl; exact rfl; exact rfl; exact rfl; exact rfl)
    | ((with_reducible apply LS_store_agg 6); exact rfl; exact rfl; exact rfl; exact rfl; exact rfl; exact rfl; exact rfl; exact rfl)
    | ((with_reducible apply LS_store_agg 7); exact rfl; exact rfl; exact rfl; exact rfl; exact rfl; exact rfl; exact rfl; exact rfl)
    | ((with_reducible apply LS_store_agg 8); exact rfl; exact rfl; exact rfl; exact rfl; exact rfl; exact rfl; exact rfl; exact rfl)
    | ((with_reducible apply LS_buildSlice); exact rfl; exact rfl; exact rfl; exact rfl; exact rfl; exact rfl; exact rfl; intro _)
    | ((with_reducible apply post_seq))
    | ((with_reducible apply post_then_ret))
    | ((with_reducible apply post_then_exit))
    | ((with_reducible apply post_block_n))
    | ((with_reducible apply post_block_ret))
    | ((with_reducible apply post_block_eq))
    | ((with_reducible apply post_block_ne); exact rfl)
    | ((with_reducible apply CS_skip))
    | ((with_reducible apply CS_ret))
    | ((with_reducible apply CS_exit))
    | ((with_reducible apply CS_cond_t); exact rfl)
    | ((with_reducible apply CS_cond_f); exact rfl)
    | ((with_reducible apply CS_cond_nd); exact rfl; all_goals intro hb; all_goals try (exfalso; omega))
    | ((with_reducible apply CS_cond_d); exact rfl; all_goals intro hb; all_goals try (exfalso; omega))
    | ((with_reducible apply CS_cond_n); exact rfl; all_goals intro hb; all_goals try (exfalso; omega))
    | ((with_reducible apply CS_cond); exact rfl; all_goals intro hb; all_goals try (exfalso; omega))
  all_goals (apply post_ret1; exact rfl; exact rfl; intro w' hw')
  · exact ⟨⟨p + 1, _, _, c4, xs ++ [m], intE g4 c4 (xs ++ [m])⟩, ⟨by dsimp only; omega, by dsimp only; omega, by simp, fun w hw => hw.sl rfl (by simp) e1 e2⟩, rfl, (hw'.perm (pull_perm 2 _ _ _ rfl)).sub (by repeat (first | exact List.Sublist.refl _ | exact List.nil_sublist _ | apply List.Sublist.cons_cons | apply List.Sublist.cons))⟩
  · exact ⟨⟨p + 1, A5, n5, c5, _, intE g2 c2 xs⟩, ⟨by dsimp only; omega, by dsimp only; omega, by simp; omega, k5⟩, rfl, hw'⟩
  · exact ⟨⟨p + 1, _, _, c2, xs, intE g2 c2 xs⟩, ⟨by dsimp only; omega, by dsimp only; omega, by dsimp only; omega, fun w hw => hw.sl rfl rfl b1 b2⟩, rfl, hw'⟩
  · rename_i y _ 
    exact ⟨⟨p + 1 + 1 + 1, _, _, c2, xs.set kx.toNat y, intE g2 c2 (xs.set kx.toNat y)⟩, ⟨by dsimp only; omega, by dsimp only; omega, by simp, fun w hw => hw.sl rfl (by simp) b1 b2⟩, rfl, (hw'.perm (pull_perm 1 _ _ _ rfl)).sub (by repeat (first | exact List.Sublist.refl _ | exact List.nil_sublist _ | apply List.Sublist.cons_cons | apply List.Sublist.cons))⟩
  · exact ⟨⟨p + 1, _, _, c2, xs, intE g2 c2 xs⟩, ⟨by dsimp only; omega, by dsimp only; omega, by dsimp only; omega, fun w hw => hw.sl rfl rfl b1 b2⟩, rfl, hw'⟩
  · exact ⟨⟨p + 1, _, _, c2, xs, intE g2 c2 xs⟩, ⟨by dsimp only; omega, by dsimp only; omega, by dsimp only; omega, fun w hw => hw.sl rfl rfl b1 b2⟩, rfl, hw'⟩
end Go.Proofs.Ytaggfcghkfkngaa
