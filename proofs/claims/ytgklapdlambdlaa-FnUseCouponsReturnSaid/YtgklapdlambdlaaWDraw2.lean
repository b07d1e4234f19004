/- The walks of the reference's generators of books and of numbers of coupons. No condition beyond those that each theorem states. -/
import Derived.Test.YtgklapdlambdlaaWDraw1
import Derived.Test.YtgklapdlambdlaaWCp5
namespace Go.Proofs.Ytgklapdlambdlaa
open Go.RowKit
structure BkG where
  p : Int
  g : Nat
  c : Nat
  xs : List Cp
theorem someBook_ok (w0 : World) (h : List Ent) (w : World) (g tot : Nat) (bv : Value) (p : Int) (l : List By) (hw : Wd w0 (rdE g tot bv p :: h) w) (hR : Rd4 w0 g tot bv l) (h0 : 0 ≤ p) (h1 : p ≤ 800000) : Calls Try.prog 73 #[.pointer (some ⟨g, 0, none⟩)] w
    (fun x w' => ∃ i : BkG, (p ≤ i.p ∧ i.p ≤ p + 27 ∧ i.xs.length ≤ 9 ∧ i.xs.length ≤ i.c ∧ i.c ≤ maxLen) ∧ x = .returned (.slice (some ⟨i.g, 0, none⟩) i.xs.length i.c) ∧ Wd w0 (rdE g tot bv i.p :: cpE i.g i.c i.xs :: h) w') := by
  have hml : maxLen = 9223372036854775807 := rfl
  refine enter_in (vs := [.pointer (some ⟨g, 0, none⟩)]) hw Try.func73 rfl Try.ntmps73 rfl ?_
  repeat' first
    | ((with_reducible apply CS_seq))
    | ((with_reducible apply CS_block))
    | ((with_reducible apply CS_region))
    | ((with_reducible apply RR_end))
    | ((with_reducible apply LR_pure); exact rfl; exact rfl; exact rfl)
    | ((with_reducible apply LR_add); exact rfl; exact rfl; exact rfl; exact rfl; omega; omega)
    | ((with_reducible apply LS_buildSlice); exact rfl; exact rfl; exact rfl; exact rfl; exact rfl; exact rfl; exact rfl; intro _)
    | ((with_reducible apply LR_build); exact rfl; exact rfl; exact rfl; exact rfl)
    | ((with_reducible apply post_seq))
    | ((with_reducible apply post_then_ret))
    | ((with_reducible apply post_then_exit))
    | ((with_reducible apply post_block_n))
    | ((with_reducible apply post_block_ret))
    | ((with_reducible apply post_block_eq))
    | ((with_reducible apply post_block_ne); exact rfl)
    | ((with_reducible apply CS_skip))
    | ((with_reducible apply CS_ret))
    | ((with_reducible apply CS_exit))
    | ((with_reducible apply CS_cond_t); exact rfl)
    | ((with_reducible apply CS_cond_f); exact rfl)
    | ((with_reducible apply CS_cond_nd); exact rfl; all_goals intro hb; all_goals try (exfalso; omega))
    | ((with_reducible apply CS_cond_d); exact rfl; all_goals intro hb; all_goals try (exfalso; omega))
    | ((with_reducible apply CS_cond_n); exact rfl; all_goals intro hb; all_goals try (exfalso; omega))
    | ((with_reducible apply CS_cond); exact rfl; all_goals intro hb; all_goals try (exfalso; omega))
  rename_i g2
  refine CS_loop (ι := Int × BkG) (fun i => [(0, .pointer (some ⟨g, 0, none⟩)), (3, .slice (some ⟨i.2.g, 0, none⟩) i.2.xs.length i.2.c), (4, .int .i64 i.1)]) (fun i => Wd w0 (rdE g tot bv i.2.p :: cpE i.2.g i.2.c i.2.xs :: h)) (fun i => 1 ≤ i.1 ∧ i.1 ≤ 10 ∧ p ≤ i.2.p ∧ i.2.p ≤ p + 3 * (i.1 - 1) ∧ i.2.xs.length < i.1 ∧ i.2.xs.length ≤ i.2.c ∧ i.2.c ≤ maxLen) (fun i => (10 - i.1).toNat) (1, ⟨p, g2, 0, []⟩) ⟨by omega, by omega, by simp, by simp, by simp, by simp, by simp⟩ ⟨rfl, rfl, rfl, trivial⟩ (fun _ hw => hw.perm (List.Perm.swap _ _ _)) ?_
  rintro ⟨k, p2, g3, c3, xs⟩ ⟨a1, a2, a3, a4, a5, a6, a7⟩
  dsimp only at *
  by_cases hk : k ≤ 9
  · skip
    repeat' first
      | ((with_reducible apply (LS_callf (f := 70))); exact rfl; exact rfl; exact rfl; exact fun w hw => pick_at 0 hw rfl hR (by omega) (by omega) (by omega); rintro _ ⟨_, _, _⟩)
      | ((with_reducible apply (LS_callf (f := 71))); exact rfl; exact rfl; exact rfl; exact fun w hw => one_at 1 0 hw rfl rfl rfl rfl (by decide) (by decide) (by decide) hR (by omega) (by omega); rintro _ _)
      | ((with_reducible apply (LS_append_one 4 0 xs ⟨k, _, _⟩)); exact rfl; exact rfl; exact rfl; exact rfl; exact rfl; exact rfl; exact rfl; exact rfl; exact rfl; exact rfl; exact rfl; omega; omega; omega; intro g4 c4 e1 e2)
      | ((with_reducible apply CS_seq))
      | ((with_reducible apply CS_block))
      | ((with_reducible apply CS_region))
      | ((with_reducible apply RR_end))
      | ((with_reducible apply LR_pure); exact rfl; exact rfl; exact rfl)
      | ((with_reducible apply LR_add); exact rfl; exact rfl; exact rfl; exact rfl; omega; omega)
      | ((with_reducible apply LS_buildSlice); exact rfl; exact rfl; exact rfl; exact rfl; exact rfl; exact rfl; exact rfl; intro _)
      | ((with_reducible apply LR_build); exact rfl; exact rfl; exact rfl; exact rfl)
      | ((with_reducible apply post_seq))
      | ((with_reducible apply post_then_ret))
      | ((with_reducible apply post_then_exit))
      | ((with_reducible apply post_block_n))
      | ((with_reducible apply post_block_ret))
      | ((with_reducible apply post_block_eq))
      | ((with_reducible apply post_block_ne); exact rfl)
      | ((with_reducible apply CS_skip))
      | ((with_reducible apply CS_ret))
      | ((with_reducible apply CS_exit))
      | ((with_reducible apply CS_cond_t); exact rfl)
      | ((with_reducible apply CS_cond_f); exact rfl)
      | ((with_reducible apply CS_cond_nd); exact rfl; all_goals intro hb; all_goals try (exfalso; omega))
      | ((with_reducible apply CS_cond_d); exact rfl; all_goals intro hb; all_goals try (exfalso; omega))
      | ((with_reducible apply CS_cond_n); exact rfl; all_goals intro hb; all_goals try (exfalso; omega))
      | ((with_reducible apply CS_cond); exact rfl; all_goals intro hb; all_goals try (exfalso; omega))
    · exact post_round (i := (k, ⟨p2, g3, c3, xs⟩)) (k + 1, ⟨p2 + 1 + 1 + 1, g4, c4, xs ++ [_]⟩) ⟨by omega, by omega, by dsimp only; omega, by dsimp only; omega, by simp only [List.length_append, List.length_singleton]; omega, by simp only [List.length_append, List.length_singleton]; omega, e2⟩ (by dsimp only; omega) ⟨rfl, by dsimp only; rw [List.length_append]; rfl, rfl, trivial⟩ (fun _ hw => (hw.perm (pull_perm 2 _ _ _ rfl)).sub (by repeat (first | exact List.Sublist.refl _ | exact List.nil_sublist _ | apply List.Sublist.cons_cons | apply List.Sublist.cons)))
    · exact post_round (i := (k, ⟨p2, g3, c3, xs⟩)) (k + 1, ⟨p2 + 1, g3, c3, xs⟩) ⟨by omega, by omega, by dsimp only; omega, by dsimp only; omega, by dsimp only; omega, a6, a7⟩ (by dsimp only; omega) ⟨rfl, rfl, rfl, trivial⟩ (fun _ hw => hw)
  · skip
    repeat' first
      | ((with_reducible apply CS_seq))
      | ((with_reducible apply CS_block))
      | ((with_reducible apply CS_region))
      | ((with_reducible apply RR_end))
      | ((with_reducible apply LR_pure); exact rfl; exact rfl; exact rfl)
      | ((with_reducible apply LR_add); exact rfl; exact rfl; exact rfl; exact rfl; omega; omega)
      | ((with_reducible apply LS_buildSlice); exact rfl; exact rfl; exact rfl; exact rfl; exact rfl; exact rfl; exact rfl; intro _)
      | ((with_reducible apply LR_build); exact rfl; exact rfl; exact rfl; exact rfl)
      | ((with_reducible apply post_seq))
      | ((with_reducible apply post_then_ret))
      | ((with_reducible apply post_then_exit))
      | ((with_reducible apply post_block_n))
      | ((with_reducible apply post_block_ret))
      | ((with_reducible apply post_block_eq))
      | ((with_reducible apply post_block_ne); exact rfl)
      | ((with_reducible apply CS_skip))
      | ((with_reducible apply CS_ret))
      | ((with_reducible apply CS_exit))
      | ((with_reducible apply CS_cond_t); exact rfl)
      | ((with_reducible apply CS_cond_f); exact rfl)
      | ((with_reducible apply CS_cond_nd); exact rfl; all_goals intro hb; all_goals try (exfalso; omega))
      | ((with_reducible apply CS_cond_d); exact rfl; all_goals intro hb; all_goals try (exfalso; omega))
      | ((with_reducible apply CS_cond_n); exact rfl; all_goals intro hb; all_goals try (exfalso; omega))
      | ((with_reducible apply CS_cond); exact rfl; all_goals intro hb; all_goals try (exfalso; omega))
    apply post_ret1; exact rfl; exact rfl; intro w' hw'; exact ⟨⟨_, _, _, _⟩, ⟨a3, by dsimp only; omega, by dsimp only; omega, a6, a7⟩, rfl, hw'⟩
theorem anyBook_ok (w0 : World) (h : List Ent) (w : World) (g tot : Nat) (bv : Value) (p : Int) (l : List By) (hw : Wd w0 (rdE g tot bv p :: h) w) (hR : Rd4 w0 g tot bv l) (h0 : 0 ≤ p) (h1 : p ≤ 800000) : Calls Try.prog 57 #[.pointer (some ⟨g, 0, none⟩)] w
    (fun x w' => ∃ i : BkG, (p ≤ i.p ∧ i.p ≤ p + 31 ∧ i.xs.length ≤ 10 ∧ i.xs.length ≤ i.c ∧ i.c ≤ maxLen) ∧ x = .returned (.slice (some ⟨i.g, 0, none⟩) i.xs.length i.c) ∧ Wd w0 (rdE g tot bv i.p :: cpE i.g i.c i.xs :: h) w') := by
  have hml : maxLen = 9223372036854775807 := rfl
  refine enter_in (vs := [.pointer (some ⟨g, 0, none⟩)]) hw Try.func57 rfl Try.ntmps57 rfl ?_
  repeat' first
    | ((with_reducible apply (LS_callf (f := 73))); exact rfl; exact rfl; exact rfl; exact fun w hw => someBook_ok w0 h w g tot bv p l hw hR h0 (by omega); rintro ⟨p2, g3, c3, xs⟩ ⟨a1, a2, a3, a4, a5⟩; dsimp only at *)
    | ((with_reducible apply (LS_callf (f := 70))); exact rfl; exact rfl; exact rfl; exact fun w hw => pick_at 0 hw rfl hR (by omega) (by omega) (by omega); rintro _ ⟨_, _, _⟩)
    | ((with_reducible apply (LS_callf (f := 71))); exact rfl; exact rfl; exact rfl; exact fun w hw => one_at 1 0 hw rfl rfl rfl rfl (by decide) (by decide) (by decide) hR (by omega) (by omega); rintro _ _)
    | ((with_reducible apply (LS_append_one 5 0 xs ⟨_, _, _⟩)); exact rfl; exact rfl; exact rfl; exact rfl; exact rfl; exact rfl; exact rfl; exact rfl; exact rfl; exact rfl; exact rfl; omega; omega; omega; intro g4 c4 e1 e2)
    | ((with_reducible apply CS_seq))
    | ((with_reducible apply CS_region))
    | ((with_reducible apply RR_end))
    | ((with_reducible apply LR_pure); exact rfl; exact rfl; exact rfl)
    | ((with_reducible apply LR_eqb); exact rfl; exact rfl; exact rfl; exact rfl)
    | ((with_reducible apply LS_buildSlice); exact rfl; exact rfl; exact rfl; exact rfl; exact rfl; exact rfl; exact rfl; intro _)
    | ((with_reducible apply LR_build); exact rfl; exact rfl; exact rfl; exact rfl)
    | ((with_reducible apply post_seq))
    | ((with_reducible apply post_then_ret))
    | ((with_reducible apply post_then_exit))
    | ((with_reducible apply CS_skip))
    | ((with_reducible apply CS_ret))
    | ((with_reducible apply CS_exit))
    | ((with_reducible apply CS_cond_t); exact rfl)
    | ((with_reducible apply CS_cond_f); exact rfl)
    | ((with_reducible apply CS_cond_nd); exact rfl; all_goals intro hb; all_goals try (exfalso; omega))
    | ((with_reducible apply CS_cond_d); exact rfl; all_goals intro hb; all_goals try (exfalso; omega))
    | ((with_reducible apply CS_cond_n); exact rfl; all_goals intro hb; all_goals try (exfalso; omega))
    | ((with_reducible apply CS_cond); exact rfl; all_goals intro hb; all_goals try (exfalso; omega))
  · rename_i y1 _ _ y2 _ _ y3 _ _
    apply post_ret1; exact rfl; exact rfl; intro w' hw'; exact ⟨⟨p2 + 1 + 1 + 1 + 1, g4, c4, xs ++ [⟨y1, y2, y3⟩]⟩, ⟨by dsimp only; omega, by dsimp only; omega, by simp only [List.length_append, List.length_singleton]; omega, by simp only [List.length_append, List.length_singleton]; omega, e2⟩, by rw [List.length_append]; rfl, (hw'.perm (pull_perm 2 _ _ _ rfl)).sub (by repeat (first | exact List.Sublist.refl _ | exact List.nil_sublist _ | apply List.Sublist.cons_cons | apply List.Sublist.cons))⟩
  · apply post_ret1; exact rfl; exact rfl; intro w' hw'; exact ⟨⟨p2 + 1, g3, c3, xs⟩, ⟨by dsimp only; omega, by dsimp only; omega, by dsimp only; omega, a4, a5⟩, rfl, hw'⟩
theorem copyInts_ok (v : Value) (l : List Int) (w : World) (hs : Sl w v l) (hl : l.length ≤ 1000000) : Calls Try.prog 77 #[v] w
    (fun x w' => ∃ i : Nat × Nat, (l.length ≤ i.2 ∧ i.2 ≤ maxLen) ∧ x = .returned (.slice (some ⟨i.1, 0, none⟩) l.length i.2) ∧ Wd w [intE i.1 i.2 l] w') := by
  have hml : maxLen = 9223372036854775807 := rfl
  refine enter (vs := [v]) Try.func77 rfl Try.ntmps77 rfl ?_
  repeat' first
    | ((with_reducible apply (LS_append_sl 0 ([] : List Int) l)); exact rfl; exact rfl; exact rfl; exact rfl; exact rfl; exact rfl; exact rfl; exact rfl; exact rfl; omega; exact fun w hw => hs.mono hw; (simp only [List.length_nil]; omega); (simp only [List.length_nil]; omega); intro g c b1 b2)
    | ((with_reducible apply CS_seq))
    | ((with_reducible apply CS_region))
    | ((with_reducible apply RR_end))
    | ((with_reducible apply LR_pure); exact rfl; exact rfl; exact rfl)
    | ((with_reducible apply LS_buildSlice); exact rfl; exact rfl; exact rfl; exact rfl; exact rfl; exact rfl; exact rfl; intro _)
    | ((with_reducible apply post_seq))
    | ((with_reducible apply post_then_ret))
    | ((with_reducible apply post_then_exit))
    | ((with_reducible apply CS_skip))
    | ((with_reducible apply CS_ret))
    | ((with_reducible apply CS_exit))
  simp only [List.length_nil, Nat.zero_add] at b1
  apply post_ret1; exact rfl; exact rfl; intro w' hw'; exact ⟨(_, _), ⟨b1, b2⟩, rfl, hw'⟩
end Go.Proofs.Ytgklapdlambdlaa
