/- The walks of the reference's generators of lists of rules. No condition beyond those that each theorem states. -/
import Derived.Test.YtpflkichnjfgkaaWDrS
namespace Go.Proofs.Ytpflkichnjfgkaa
open Go.RowKit
attribute [local irreducible] Calls
/-- a list of rules in an own block, whose counts lie in the blocks es -/
structure RlG where
  p : Int
  g : Nat
  c : Nat
  rs : List Ru
  es : List Ent
def EsOk (rs : List Ru) (es : List Ent) : Prop := ∀ w, (∀ e ∈ es, e.At w) → ROks w rs
theorem EsOk.of {w0 w : World} {H : List Ent} {rs : List Ru} {es : List Ent} (h : EsOk rs es) (hw : Wd w0 H w) (hs : ∀ e ∈ es, e ∈ H) : ROks w rs := h w fun e he => (hw.at_ e (hs e he)).2
theorem EsOk.nil : EsOk [] [] := fun _ _ r hr => by cases hr
theorem EsOk.snoc {rs : List Ru} {es : List Ent} (h : EsOk rs es) (x1 x2 x3 x4 x5 x6 x7 : Int) (gt : Sp) (gb gc : Nat) (gcs : List Sp) (gcp : Int) (h1 : gcs.length ≤ gc) (h2 : gc ≤ maxLen) : EsOk (rs ++ [⟨x1, x2, x3, x4, x5, x6, x7, ⟨gt, some ⟨gb, 0, none⟩, gcs.length, gc, gcs, gcp⟩⟩]) (spE gb gc gcs :: es) := fun w he r hr => by
  rcases List.mem_append.1 hr with hr | hr
  · exact h w (fun e h => he e (List.mem_cons_of_mem _ h)) r hr
  · cases List.mem_singleton.1 hr
    exact (he _ (List.mem_cons_self)).sl rfl rfl h1 h2
theorem EsOk.dup {rs : List Ru} {es : List Ent} (h : EsOk rs es) {r : Ru} (hr : r ∈ rs) : EsOk (rs ++ [r]) es := fun w he x hx => by
  rcases List.mem_append.1 hx with hx | hx
  · exact h w he x hx
  · cases List.mem_singleton.1 hx
    exact h w he r hr
set_option maxHeartbeats 4000000 in
theorem someRules_ok (w0 : World) (h : List Ent) (w : World) (g tot : Nat) (bv : Value) (p : Int) (l : List By) (hw : Wd w0 (rdE g tot bv p :: h) w) (hR : Rd4 w0 g tot bv l) (h0 : 0 ≤ p) (h1 : p ≤ 600000) : Calls Try.prog 57 #[.pointer (some ⟨g, 0, none⟩)] w
    (fun x w' => ∃ i : RlG, (p ≤ i.p ∧ i.p ≤ p + 103 ∧ i.rs.length ≤ 6 ∧ i.rs.length ≤ i.c ∧ i.c ≤ maxLen ∧ EsOk i.rs i.es) ∧ x = .returned (.slice (some ⟨i.g, 0, none⟩) i.rs.length i.c) ∧ Wd w0 (rdE g tot bv i.p :: ruE i.g i.c i.rs :: (i.es ++ h)) w') := by
  have hml : maxLen = 9223372036854775807 := rfl
  refine enter_in (vs := [.pointer (some ⟨g, 0, none⟩)]) hw Try.func57 rfl Try.ntmps57 rfl ?_
  repeat' first
    | ((with_reducible apply (LS_callf (f := 75))); exact rfl; exact rfl; exact rfl; exact fun w hw => (by first | exact one_at 2 0 hw rfl rfl rfl rfl (by decide) (by decide) (by decide) hR (by omega) (by omega) | exact one_at 1 0 hw rfl rfl rfl rfl (by decide) (by decide) (by decide) hR (by omega) (by omega)); rintro ox hx; have hxb := mem_bd hx 0 6 (by decide))
    | ((with_reducible apply CS_seq))
    | ((with_reducible apply CS_block))
    | ((with_reducible apply CS_region))
    | ((with_reducible apply RR_end))
    | ((with_reducible apply LR_pure); exact rfl; exact rfl; exact rfl)
    | ((with_reducible apply LS_buildSlice); exact rfl; exact rfl; exact rfl; exact rfl; exact rfl; exact rfl; exact rfl; intro _)
    | ((with_reducible apply post_seq))
  rename_i g2 g9
  refine CS_loop (ι := Int × RlG) (fun i => [(0, .pointer (some ⟨g, 0, none⟩)), (3, .slice (some ⟨i.2.g, 0, none⟩) i.2.rs.length i.2.c), (4, .int .i64 i.1)]) (fun i => Wd w0 (rdE g tot bv i.2.p :: ruE i.2.g i.2.c i.2.rs :: (i.2.es ++ h))) (fun i => 0 ≤ i.1 ∧ i.1 ≤ 6 ∧ p ≤ i.2.p ∧ i.2.p ≤ p + 1 + 17 * (6 - i.1) ∧ i.2.rs.length + i.1 ≤ 6 ∧ i.2.rs.length ≤ i.2.c ∧ i.2.c ≤ maxLen ∧ EsOk i.2.rs i.2.es) (fun i => i.1.toNat) (ox, ⟨p + 1, g2, 0, [], []⟩) ⟨by dsimp only; omega, by dsimp only; omega, by dsimp only; omega, by dsimp only; omega, by dsimp only [List.length_nil]; omega, by simp, by simp, EsOk.nil⟩ ⟨rfl, rfl, rfl, trivial⟩ (fun _ hw => (hw.reord [0, 1] rfl).sub (by repeat (first | exact List.Sublist.refl _ | exact List.nil_sublist _ | apply List.Sublist.cons_cons | apply List.Sublist.cons))) ?_
  rintro ⟨k, p2, g3, c3, rs, es⟩ ⟨a1, a2, a3, a4, a5, a6, a7, a8⟩
  dsimp only at a1 a2 a3 a4 a5 a6 a7 a8 ⊢
  by_cases hk : 0 < k
  · skip
    repeat' first
      | ((with_reducible apply (LS_callf (f := 54))); exact rfl; exact rfl; exact rfl; exact fun w hw => pick_at 0 hw rfl hR (by omega) (by omega) (by omega); rintro kx ⟨kx0, kx1, kx2⟩)
      | ((with_reducible apply (LS_callf (f := 59))); exact rfl; exact rfl; exact rfl; exact fun w hw => someRule_ok w0 _ w g tot bv _ l (hw.perm (pull_perm 0 _ _ _ rfl)) hR (by omega) (by omega) _; rintro ⟨p5, x1, x2, x3, x4, x5, x6, x7, ⟨_, gt, gb, gc, gcs, gcp⟩⟩ ⟨y1, y2, y3, y4⟩; dsimp only [rugR, ruV] at y1 y2 y3 y4 ⊢)
      | ((with_reducible apply (LS_append_one 3 0 rs ⟨x1, x2, x3, x4, x5, x6, x7, ⟨gt, some ⟨gb, 0, none⟩, gcs.length, gc, gcs, gcp⟩⟩)); exact rfl; exact rfl; exact rfl; exact rfl; exact rfl; exact rfl; exact rfl; exact rfl; exact rfl; exact rfl; exact rfl; omega; omega; omega; intro g4 c4 e1 e2)
      | ((with_reducible apply CS_seq))
      | ((with_reducible apply CS_block))
      | ((with_reducible apply CS_region))
      | ((with_reducible apply RR_end))
      | ((with_reducible apply LR_pure); exact rfl; exact rfl; exact rfl)
      | ((with_reducible apply LR_add); exact rfl; exact rfl; exact rfl; exact rfl; omega; omega)
      | ((with_reducible apply LR_sub); exact rfl; exact rfl; exact rfl; exact rfl; omega; omega)
      | ((with_reducible apply LR_mul); exact rfl; exact rfl; exact rfl; exact rfl; omega; omega)
      | ((with_reducible apply LR_rem); exact rfl; exact rfl; exact rfl; exact rfl; omega; omega)
      | ((with_reducible apply LS_buildSlice); exact rfl; exact rfl; exact rfl; exact rfl; exact rfl; exact rfl; exact rfl; intro _)
      | ((with_reducible apply post_seq))
      | ((with_reducible apply post_block_n))
      | ((with_reducible apply CS_skip))
      | ((with_reducible apply CS_cond_d); exact rfl; all_goals intro hb; all_goals try (exfalso; omega))
    exact post_round (i := (k, ⟨p2, g3, c3, rs, es⟩)) (k - 1, ⟨p5, g4, c4, rs ++ [_], spE gb gc gcs :: es⟩) ⟨by dsimp only; omega, by dsimp only; omega, by dsimp only; omega, by dsimp only; omega, by simp only [List.length_append, List.length_singleton]; omega, by simp only [List.length_append, List.length_singleton]; omega, e2, a8.snoc x1 x2 x3 x4 x5 x6 x7 gt gb gc gcs gcp (by omega) (by omega)⟩ (by dsimp only; omega) ⟨rfl, by dsimp only; rw [List.length_append]; rfl, rfl, trivial⟩ (fun _ hw => (hw.reord [2, 0] rfl).sub (by repeat (first | exact List.Sublist.refl _ | exact List.nil_sublist _ | apply List.Sublist.cons_cons | apply List.Sublist.cons)))
  · skip
    repeat' first
      | ((with_reducible apply CS_seq))
      | ((with_reducible apply CS_region))
      | ((with_reducible apply RR_end))
      | ((with_reducible apply LR_pure); exact rfl; exact rfl; exact rfl)
      | ((with_reducible apply post_seq))
      | ((with_reducible apply post_then_exit))
      | ((with_reducible apply post_block_eq))
      | ((with_reducible apply CS_ret))
      | ((with_reducible apply CS_exit))
      | ((with_reducible apply CS_cond_d); exact rfl; all_goals intro hb; all_goals try (exfalso; omega))
    apply post_ret1; exact rfl; exact rfl; intro w' hw'; exact ⟨⟨_, _, _, _, _⟩, ⟨a3, by dsimp only; omega, by dsimp only; omega, a6, a7, a8⟩, rfl, hw'⟩
set_option maxHeartbeats 4000000 in
theorem anyRules_ok (w0 : World) (h : List Ent) (w : World) (g tot : Nat) (bv : Value) (p : Int) (l : List By) (hw : Wd w0 (rdE g tot bv p :: h) w) (hR : Rd4 w0 g tot bv l) (h0 : 0 ≤ p) (h1 : p ≤ 600000) : Calls Try.prog 39 #[.pointer (some ⟨g, 0, none⟩)] w
    (fun x w' => ∃ i : RlG, (p ≤ i.p ∧ i.p ≤ p + 300 ∧ i.rs.length ≤ 7 ∧ i.rs.length ≤ i.c ∧ i.c ≤ maxLen ∧ EsOk i.rs i.es) ∧ x = .returned (.slice (some ⟨i.g, 0, none⟩) i.rs.length i.c) ∧ Wd w0 (rdE g tot bv i.p :: ruE i.g i.c i.rs :: (i.es ++ h)) w') := by
  have hml : maxLen = 9223372036854775807 := rfl
  refine enter_in (vs := [.pointer (some ⟨g, 0, none⟩)]) hw Try.func39 rfl Try.ntmps39 rfl ?_
  repeat' first
    | ((with_reducible apply (LS_callf (f := 57))); exact rfl; exact rfl; exact rfl; exact fun w hw => someRules_ok w0 h w g tot bv p l hw hR h0 (by omega); rintro ⟨p2, g3, c3, rs, es⟩ ⟨a1, a2, a3, a4, a5, a6⟩; dsimp only at a1 a2 a3 a4 a5 a6 ⊢)
    | ((with_reducible apply (LS_callf (f := 54))); exact rfl; exact rfl; exact rfl; exact fun w hw => pick_at 0 hw rfl hR (by omega) (by omega) (by omega); rintro kx ⟨kx0, kx1, kx2⟩)
    | ((with_reducible apply (LS_callf (f := 58))); exact rfl; exact rfl; exact rfl; exact fun w hw => anyRule_ok w0 _ w g tot bv _ l (hw.perm (pull_perm 0 _ _ _ rfl)) hR (by omega) (by omega); rintro ⟨p5, x1, x2, x3, x4, x5, x6, x7, ⟨_, gt, gb, gc, gcs, gcp⟩⟩ ⟨y1, y2, y3, y4, y5⟩; dsimp only [rugR, ruV] at y1 y2 y3 y4 y5 ⊢)
    | ((with_reducible apply (LS_append_one 3 0 rs ⟨x1, x2, x3, x4, x5, x6, x7, ⟨gt, some ⟨gb, 0, none⟩, gcs.length, gc, gcs, gcp⟩⟩)); exact rfl; exact rfl; exact rfl; exact rfl; exact rfl; exact rfl; exact rfl; exact rfl; exact rfl; exact rfl; exact rfl; omega; omega; omega; intro g4 c4 e1 e2)
    | ((with_reducible apply LR_index_cls); exact rfl; exact rfl; exact rfl; exact rfl; exact fun w hw => own_sl 1 hw rfl rfl rfl a4 a5; exact rfl; omega; omega; exact rfl; intro _ r hr _)
    | ((with_reducible apply (LS_append_one 2 0 rs r)); exact rfl; exact rfl; exact rfl; exact rfl; exact rfl; exact rfl; exact rfl; exact rfl; exact rfl; exact rfl; exact rfl; omega; omega; omega; intro g4 c4 e1 e2)
    | ((with_reducible apply CS_seq))
    | ((with_reducible apply CS_block))
    | ((with_reducible apply CS_region))
    | ((with_reducible apply RR_end))
    | ((with_reducible apply LR_pure); exact rfl; exact rfl; exact rfl)
    | ((with_reducible apply LR_len); exact rfl; exact rfl; exact rfl)
    | ((with_reducible apply LR_load_cls_agg); exact rfl; exact rfl; exact rfl; assumption; exact rfl)
    | ((with_reducible apply LS_buildSlice); exact rfl; exact rfl; exact rfl; exact rfl; exact rfl; exact rfl; exact rfl; intro _)
    | ((with_reducible apply post_seq))
    | ((with_reducible apply post_block_n))
    | ((with_reducible apply CS_skip))
    | ((with_reducible apply CS_ret))
    | ((with_reducible apply CS_cond_d); exact rfl; all_goals intro hb; all_goals try (exfalso; omega))
  · apply post_ret1; exact rfl; exact rfl; intro w' hw'; exact ⟨⟨p5, g4, c4, rs ++ [_], spE gb gc gcs :: es⟩, ⟨by dsimp only; omega, by dsimp only; omega, by simp only [List.length_append, List.length_singleton]; omega, by simp only [List.length_append, List.length_singleton]; omega, e2, a6.snoc x1 x2 x3 x4 x5 x6 x7 gt gb gc gcs gcp (by omega) (by omega)⟩, by rw [List.length_append]; rfl, (hw'.reord [2, 0] rfl).sub (by repeat (first | exact List.Sublist.refl _ | exact List.nil_sublist _ | apply List.Sublist.cons_cons | apply List.Sublist.cons))⟩
  · refine CS_loop (ι := RlG) (fun i => [(0, .pointer (some ⟨g, 0, none⟩)), (3, .slice (some ⟨i.g, 0, none⟩) i.rs.length i.c)]) (fun i => Wd w0 (rdE g tot bv i.p :: ruE i.g i.c i.rs :: (i.es ++ h))) (fun i => p ≤ i.p ∧ i.p ≤ p + 104 + 17 * i.rs.length ∧ i.rs.length ≤ 7 ∧ i.rs.length ≤ i.c ∧ i.c ≤ maxLen ∧ EsOk i.rs i.es) (fun i => 7 - i.rs.length) ⟨p2 + 1, g3, c3, rs, es⟩ ⟨by dsimp only; omega, by dsimp only; omega, by dsimp only; omega, a4, a5, a6⟩ ⟨rfl, rfl, trivial⟩ (fun _ hw => hw) ?_
    clear a1 a2 a3 a4 a5 a6
    rintro ⟨p2, g3, c3, rs, es⟩ ⟨a1, a2, a3, a4, a5, a6⟩
    dsimp only at a1 a2 a3 a4 a5 a6 ⊢
    by_cases hk : rs.length < 7
    · skip
      repeat' first
        | ((with_reducible apply (LS_callf (f := 59))); exact rfl; exact rfl; exact rfl; exact fun w hw => someRule_ok w0 _ w g tot bv _ l (hw.perm (pull_perm 0 _ _ _ rfl)) hR (by omega) (by omega) _; rintro ⟨p5, x1, x2, x3, x4, x5, x6, x7, ⟨_, gt, gb, gc, gcs, gcp⟩⟩ ⟨y1, y2, y3, y4⟩; dsimp only [rugR, ruV] at y1 y2 y3 y4 ⊢)
        | ((with_reducible apply (LS_append_one 3 0 rs ⟨x1, x2, x3, x4, x5, x6, x7, ⟨gt, some ⟨gb, 0, none⟩, gcs.length, gc, gcs, gcp⟩⟩)); exact rfl; exact rfl; exact rfl; exact rfl; exact rfl; exact rfl; exact rfl; exact rfl; exact rfl; exact rfl; exact rfl; omega; omega; omega; intro g4 c4 e1 e2)
        | ((with_reducible apply CS_seq))
        | ((with_reducible apply CS_block))
        | ((with_reducible apply CS_region))
        | ((with_reducible apply RR_end))
        | ((with_reducible apply LR_pure); exact rfl; exact rfl; exact rfl)
        | ((with_reducible apply LR_add); exact rfl; exact rfl; exact rfl; exact rfl; omega; omega)
        | ((with_reducible apply LR_len); exact rfl; exact rfl; exact rfl)
        | ((with_reducible apply LS_buildSlice); exact rfl; exact rfl; exact rfl; exact rfl; exact rfl; exact rfl; exact rfl; intro _)
        | ((with_reducible apply post_seq))
        | ((with_reducible apply post_block_n))
        | ((with_reducible apply CS_skip))
        | ((with_reducible apply CS_cond_d); exact rfl; all_goals intro hb; all_goals try (exfalso; omega))
      exact post_round (i := (⟨p2, g3, c3, rs, es⟩ : RlG)) (⟨p5, g4, c4, rs ++ [_], spE gb gc gcs :: es⟩ : RlG) ⟨by dsimp only; omega, by simp only [List.length_append, List.length_singleton]; omega, by simp only [List.length_append, List.length_singleton]; omega, by simp only [List.length_append, List.length_singleton]; omega, e2, a6.snoc x1 x2 x3 x4 x5 x6 x7 gt gb gc gcs gcp (by omega) (by omega)⟩ (by simp only [List.length_append, List.length_singleton]; omega) ⟨rfl, by dsimp only; rw [List.length_append]; rfl, trivial⟩ (fun _ hw => (hw.reord [2, 0] rfl).sub (by repeat (first | exact List.Sublist.refl _ | exact List.nil_sublist _ | apply List.Sublist.cons_cons | apply List.Sublist.cons)))
    · skip
      repeat' first
        | ((with_reducible apply CS_seq))
        | ((with_reducible apply CS_region))
        | ((with_reducible apply RR_end))
        | ((with_reducible apply LR_pure); exact rfl; exact rfl; exact rfl)
        | ((with_reducible apply LR_len); exact rfl; exact rfl; exact rfl)
        | ((with_reducible apply post_seq))
        | ((with_reducible apply post_then_exit))
        | ((with_reducible apply post_block_n))
        | ((with_reducible apply post_block_eq))
        | ((with_reducible apply CS_ret))
        | ((with_reducible apply CS_exit))
        | ((with_reducible apply CS_cond_d); exact rfl; all_goals intro hb; all_goals try (exfalso; omega))
      apply post_ret1; exact rfl; exact rfl; intro w' hw'; exact ⟨⟨_, _, _, _, _⟩, ⟨a1, by dsimp only; omega, a3, a4, a5, a6⟩, rfl, hw'⟩
  · apply post_ret1; exact rfl; exact rfl; intro w' hw'; exact ⟨⟨p2 + 1, g4, c4, rs ++ [r], es⟩, ⟨by dsimp only; omega, by dsimp only; omega, by simp only [List.length_append, List.length_singleton]; omega, by simp only [List.length_append, List.length_singleton]; omega, e2, a6.dup (List.mem_of_getElem? hr)⟩, by rw [List.length_append]; rfl, (hw'.reord [2, 0] rfl).sub (by repeat (first | exact List.Sublist.refl _ | exact List.nil_sublist _ | apply List.Sublist.cons_cons | apply List.Sublist.cons))⟩
  all_goals (apply post_ret1; exact rfl; exact rfl; intro w' hw'; exact ⟨⟨p2 + 1, g3, c3, rs, es⟩, ⟨by dsimp only; omega, by dsimp only; omega, by dsimp only; omega, a4, a5, a6⟩, rfl, hw'⟩)
end Go.Proofs.Ytpflkichnjfgkaa
