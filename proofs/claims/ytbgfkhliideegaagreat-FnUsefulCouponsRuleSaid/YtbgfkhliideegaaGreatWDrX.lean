/- The walks of the reference's generators of sales: coupons, clear rules, the arguments of ReceiptOf, PayOf, SavedBy, UsefulCoupons. No condition beyond those that each theorem states. -/
import Derived.Test.YtbgfkhliideegaaGreatWDrT
import Derived.Test.YtbgfkhliideegaaGreatWDrB
namespace Go.Proofs.YtbgfkhliideegaaGreat
open Go.RowKit
attribute [local irreducible] Calls
/-- a list of ints in an own block -/
structure CpG where
  p : Int
  g : Nat
  c : Nat
  xs : List Int
set_option maxHeartbeats 4000000 in
theorem someCoupons_ok (w0 : World) (h : List Ent) (w : World) (g tot : Nat) (bv : Value) (p : Int) (l : List By) (hw : Wd w0 (rdE g tot bv p :: h) w) (hR : Rd4 w0 g tot bv l) (h0 : 0 ≤ p) (h1 : p ≤ 600000) : Calls Tryz.prog 99 #[.pointer (some ⟨g, 0, none⟩)] w
    (fun x w' => ∃ i : CpG, (p ≤ i.p ∧ i.p ≤ p + 4 ∧ i.xs.length ≤ 4 ∧ i.xs.length ≤ i.c ∧ i.c ≤ maxLen) ∧ x = .returned (.slice (some ⟨i.g, 0, none⟩) i.xs.length i.c) ∧ Wd w0 (rdE g tot bv i.p :: intE i.g i.c i.xs :: h) w') := by
  have hml : maxLen = 9223372036854775807 := rfl
  refine enter_in (vs := [.pointer (some ⟨g, 0, none⟩)]) hw Tryz.func99 rfl Tryz.ntmps99 rfl ?_
  repeat' first | ((with_reducible apply CS_seq)) | ((with_reducible apply CS_block)) | ((with_reducible apply CS_region)) | ((with_reducible apply RR_end)) | ((with_reducible apply LR_pure); exact rfl; exact rfl; exact rfl) | ((with_reducible apply LS_buildSlice); exact rfl; exact rfl; exact rfl; exact rfl; exact rfl; exact rfl; exact rfl; intro _) | ((with_reducible apply post_seq))
  rename_i g2
  refine CS_loop (ι := Nat × CpG) (fun i => [(0, .pointer (some ⟨g, 0, none⟩)), (3, .slice (some ⟨i.2.g, 0, none⟩) i.2.xs.length i.2.c), (4, .int .i64 ((i.1 : Int) + 1))]) (fun i => Wd w0 (rdE g tot bv i.2.p :: intE i.2.g i.2.c i.2.xs :: h)) (fun i => i.1 ≤ 4 ∧ p ≤ i.2.p ∧ i.2.p ≤ p + i.1 ∧ i.2.xs.length ≤ i.1 ∧ i.2.xs.length ≤ i.2.c ∧ i.2.c ≤ maxLen) (fun i => 4 - i.1) (0, ⟨p, g2, 0, []⟩) ⟨by dsimp only; omega, by dsimp only; omega, by dsimp only; omega, by simp, by simp, by simp⟩ ⟨rfl, rfl, rfl, trivial⟩ (fun _ hw => hw.reord [1, 0] rfl) ?_
  rintro ⟨k, p2, g3, c3, xs⟩ ⟨a1, a2, a3, a4, a5, a6⟩
  dsimp only at a1 a2 a3 a4 a5 a6 ⊢
  by_cases hk : k < 4
  · skip
    repeat' first | ((with_reducible apply (LS_callf (f := 64))); exact rfl; exact rfl; exact rfl; exact fun w hw => pick_at 0 hw rfl hR (by omega) (by omega) (by omega); rintro kx ⟨kx0, kx1, kx2⟩) | ((with_reducible apply (LS_append_one 2 0 xs ((k : Int) + 1))); exact rfl; exact rfl; exact rfl; exact rfl; exact rfl; exact rfl; exact rfl; exact rfl; exact rfl; exact rfl; exact rfl; omega; omega; omega; intro g4 c4 e1 e2) | ((with_reducible apply CS_seq)) | ((with_reducible apply CS_block)) | ((with_reducible apply CS_region)) | ((with_reducible apply RR_end)) | ((with_reducible apply LR_pure); exact rfl; exact rfl; exact rfl) | ((with_reducible apply LR_skip); exact rfl; exact rfl) | ((with_reducible apply LR_add); exact rfl; exact rfl; exact rfl; exact rfl; omega; omega) | ((with_reducible apply LR_len); exact rfl; exact rfl; exact rfl) | ((with_reducible apply LS_buildSlice); exact rfl; exact rfl; exact rfl; exact rfl; exact rfl; exact rfl; exact rfl; intro _) | ((with_reducible apply post_seq)) | ((with_reducible apply post_block_n)) | ((with_reducible apply CS_skip)) | ((with_reducible apply CS_cond_f); exact rfl) | ((with_reducible apply CS_cond_d); exact rfl; all_goals intro hb; all_goals try (exfalso; omega)) | ((with_reducible apply LR_caseg_d); exact rfl; exact rfl; all_goals intro hb; all_goals try (exfalso; omega))
    all_goals first | (exfalso; contradiction) | (exfalso; omega) | (exfalso; simp at hb <;> omega) | skip
    all_goals first
      | exact post_round (i := (k, (⟨p2, g3, c3, xs⟩ : CpG))) (k + 1, ⟨p2 + 1, g4, c4, xs ++ [(k : Int) + 1]⟩) ⟨by dsimp only; omega, by dsimp only; omega, by dsimp only; omega, by simp; omega, by simpa using e1, e2⟩ (by dsimp only; omega) ⟨rfl, by dsimp only; rw [List.length_append]; rfl, rfl, trivial⟩ (fun _ hw => (hw.reord [2, 0] rfl).sub (by repeat (first | exact List.Sublist.refl _ | exact List.nil_sublist _ | apply List.Sublist.cons_cons | apply List.Sublist.cons)))
      | exact post_round (i := (k, (⟨p2, g3, c3, xs⟩ : CpG))) (k + 1, ⟨p2 + 1, g3, c3, xs⟩) ⟨by dsimp only; omega, by dsimp only; omega, by dsimp only; omega, by dsimp only; omega, a5, a6⟩ (by dsimp only; omega) ⟨rfl, rfl, rfl, trivial⟩ (fun _ hw => hw)
  · skip
    repeat' first | ((with_reducible apply CS_seq)) | ((with_reducible apply CS_region)) | ((with_reducible apply RR_end)) | ((with_reducible apply LR_pure); exact rfl; exact rfl; exact rfl) | ((with_reducible apply post_seq)) | ((with_reducible apply post_then_exit)) | ((with_reducible apply post_block_eq)) | ((with_reducible apply CS_ret)) | ((with_reducible apply CS_exit)) | ((with_reducible apply CS_cond_d); exact rfl; all_goals intro hb; all_goals try (exfalso; omega))
    all_goals first | (exfalso; contradiction) | (exfalso; omega) | (exfalso; simp at hb <;> omega) | skip
    apply post_ret1; exact rfl; exact rfl; intro w' hw'; exact ⟨⟨_, _, _, _⟩, ⟨a2, by dsimp only; omega, by dsimp only; omega, a5, a6⟩, rfl, hw'⟩
theorem EsOk.upd {rs : List Ru} {es : List Ent} (h : EsOk rs es) {k : Nat} {r : Ru} (hr : rs[k]? = some r) (r' : Ru) (he : r'.g.A = r.g.A ∧ r'.g.n = r.g.n ∧ r'.g.c = r.g.c ∧ r'.g.cs = r.g.cs) : EsOk (rs.set k r') es := fun w hw x hx => by
  rcases List.mem_or_eq_of_mem_set hx with hx | rfl
  · exact h w hw x hx
  · have := h w hw r (List.mem_of_getElem? hr)
    unfold ROk GOk at this ⊢
    rw [he.1, he.2.1, he.2.2.1, he.2.2.2]; exact this
theorem putF_rnkX {rs : List Ru} {k : Nat} {r : Ru} (a : Int) (hr : rs[k]? = some r) : putF (flat rs) (k * Enc.k Ru + 2) [.int .i64 a] = some (flat (rs.set k ⟨r.num, r.lev, a, r.grp, r.kind, r.val, r.cap, r.g⟩)) := putF_fld _ k r _ 2 _ hr (by decide) rfl
theorem putF_numX {rs : List Ru} {k : Nat} {r : Ru} (a : Int) (hr : rs[k]? = some r) : putF (flat rs) (k * Enc.k Ru + 0) [.int .i64 a] = some (flat (rs.set k ⟨a, r.lev, r.rank, r.grp, r.kind, r.val, r.cap, r.g⟩)) := putF_fld _ k r _ 0 _ hr (by decide) rfl
theorem putF_cpX {rs : List Ru} {k : Nat} {r : Ru} (a : Int) (hr : rs[k]? = some r) : putF (flat rs) (k * Enc.k Ru + 10) [.int .i64 a] = some (flat (rs.set k ⟨r.num, r.lev, r.rank, r.grp, r.kind, r.val, r.cap, ⟨r.g.tot, r.g.A, r.g.n, r.g.c, r.g.cs, a⟩⟩)) := putF_fld _ k r _ 10 _ hr (by decide) rfl
set_option maxHeartbeats 4000000 in
theorem clearRules_ok (w0 : World) (h : List Ent) (w : World) (g tot : Nat) (bv : Value) (p : Int) (l : List By) (hw : Wd w0 (rdE g tot bv p :: h) w) (hR : Rd4 w0 g tot bv l) (h0 : 0 ≤ p) (h1 : p ≤ 590000) : Calls Tryz.prog 101 #[.pointer (some ⟨g, 0, none⟩)] w
    (fun x w' => ∃ i : RlG, (p ≤ i.p ∧ i.p ≤ p + 220 ∧ i.rs.length ≤ 6 ∧ i.rs.length ≤ i.c ∧ i.c ≤ maxLen ∧ EsOk i.rs i.es) ∧ x = .returned (.slice (some ⟨i.g, 0, none⟩) i.rs.length i.c) ∧ Wd w0 (rdE g tot bv i.p :: ruE i.g i.c i.rs :: (i.es ++ h)) w') := by
  have hml : maxLen = 9223372036854775807 := rfl
  refine enter_in (vs := [.pointer (some ⟨g, 0, none⟩)]) hw Tryz.func101 rfl Tryz.ntmps101 rfl ?_
  repeat' first | ((with_reducible apply (LS_callf (f := 133))); exact rfl; exact rfl; exact rfl; exact fun w hw => someRules_ok w0 h w g tot bv p l hw hR h0 (by omega); rintro ⟨p2, g3, c3, rs, es⟩ ⟨a1, a2, a3, a4, a5, a6⟩; dsimp only at a1 a2 a3 a4 a5 a6 ⊢) | ((with_reducible apply CS_seq)) | ((with_reducible apply CS_block)) | ((with_reducible apply CS_region)) | ((with_reducible apply RR_end)) | ((with_reducible apply LR_pure); exact rfl; exact rfl; exact rfl) | ((with_reducible apply post_seq))
  refine CS_loop (ι := Nat × Int × List Ru) (fun i => [(0, .pointer (some ⟨g, 0, none⟩)), (3, .slice (some ⟨g3, 0, none⟩) i.2.2.length c3), (4, .int .i64 (i.1 : Int))]) (fun i => Wd w0 (rdE g tot bv i.2.1 :: ruE g3 c3 i.2.2 :: (es ++ h))) (fun i => i.1 ≤ i.2.2.length ∧ p ≤ i.2.1 ∧ i.2.1 ≤ p + 103 + i.1 ∧ i.2.2.length ≤ 6 ∧ i.2.2.length ≤ c3 ∧ EsOk i.2.2 es) (fun i => i.2.2.length - i.1) (0, p2, rs) ⟨by dsimp only; omega, by dsimp only; omega, by dsimp only; omega, a3, a4, a6⟩ ⟨rfl, rfl, rfl, trivial⟩ (fun _ hw => hw) ?_
  clear a1 a2 a3 a4 a6
  rintro ⟨k, p3, rs⟩ ⟨b1, b2, b3, b4, b5, b6⟩
  dsimp only at b1 b2 b3 b4 b5 b6 ⊢
  by_cases hk : k < rs.length
  · obtain ⟨r, hr⟩ : ∃ y, rs[k]? = some y := ⟨_, List.getElem?_eq_getElem hk⟩
    repeat' first | ((with_reducible apply (LS_callf (f := 64))); exact rfl; exact rfl; exact rfl; exact fun w hw => pick_at 1 hw rfl hR (by omega) (by omega) (by omega); rintro kx ⟨kx0, kx1, kx2⟩; (have := kx1 (by decide)); rcases (show kx = 0 ∨ kx = 1 by omega) with rfl | rfl) | ((with_reducible apply (LR_index_own (k))); exact rfl; exact rfl; exact rfl; exact rfl; omega; omega) | ((with_reducible apply (LS_store1 1)); exact rfl; exact rfl; exact rfl; exact rfl; exact rfl; first | exact putF_rnkX _ hr) | ((with_reducible apply (LS_store1 1)); exact rfl; exact rfl; exact rfl; exact rfl; exact rfl; first | exact putF_numX _ (List.getElem?_set_self hk)) | ((with_reducible apply CS_seq)) | ((with_reducible apply CS_block)) | ((with_reducible apply CS_region)) | ((with_reducible apply RR_end)) | ((with_reducible apply LR_pure); exact rfl; exact rfl; exact rfl) | ((with_reducible apply LR_add); exact rfl; exact rfl; exact rfl; exact rfl; omega; omega) | ((with_reducible apply LR_mul); exact rfl; exact rfl; exact rfl; exact rfl; omega; omega) | ((with_reducible apply LR_field_own); exact rfl; exact rfl; exact rfl) | ((with_reducible apply LR_len); exact rfl; exact rfl; exact rfl) | ((with_reducible apply post_seq)) | ((with_reducible apply post_block_n)) | ((with_reducible apply CS_skip)) | ((with_reducible apply CS_cond_d); exact rfl; all_goals intro hb; all_goals try (exfalso; omega))
    all_goals first | (exfalso; contradiction) | (exfalso; omega) | (exfalso; simp at hb <;> omega) | skip
    all_goals first
      | (refine post_round (i := (k, p3, rs)) (k + 1, p3 + 1, (rs.set k ⟨r.num, r.lev, (k : Int), r.grp, r.kind, r.val, r.cap, r.g⟩).set k ⟨(k : Int) + 1 + 3 * 0 * (rs.length : Int), r.lev, (k : Int), r.grp, r.kind, r.val, r.cap, r.g⟩) ⟨by simp only [List.length_set]; omega, by dsimp only; omega, by dsimp only; omega, by simp only [List.length_set]; omega, by simp only [List.length_set]; omega, (b6.upd hr ⟨r.num, r.lev, (k : Int), r.grp, r.kind, r.val, r.cap, r.g⟩ ⟨rfl, rfl, rfl, rfl⟩).upd (List.getElem?_set_self hk) ⟨(k : Int) + 1 + 3 * 0 * (rs.length : Int), r.lev, (k : Int), r.grp, r.kind, r.val, r.cap, r.g⟩ ⟨rfl, rfl, rfl, rfl⟩⟩ (by simp only [List.length_set]; omega) ⟨rfl, by simp only [List.length_set]; rfl, rfl, trivial⟩ (fun _ hw => ?_); exact hw.reord [1] rfl)
      | (refine post_round (i := (k, p3, rs)) (k + 1, p3 + 1, (rs.set k ⟨r.num, r.lev, (k : Int), r.grp, r.kind, r.val, r.cap, r.g⟩).set k ⟨(k : Int) + 1 + 3 * 1 * (rs.length : Int), r.lev, (k : Int), r.grp, r.kind, r.val, r.cap, r.g⟩) ⟨by simp only [List.length_set]; omega, by dsimp only; omega, by dsimp only; omega, by simp only [List.length_set]; omega, by simp only [List.length_set]; omega, (b6.upd hr ⟨r.num, r.lev, (k : Int), r.grp, r.kind, r.val, r.cap, r.g⟩ ⟨rfl, rfl, rfl, rfl⟩).upd (List.getElem?_set_self hk) ⟨(k : Int) + 1 + 3 * 1 * (rs.length : Int), r.lev, (k : Int), r.grp, r.kind, r.val, r.cap, r.g⟩ ⟨rfl, rfl, rfl, rfl⟩⟩ (by simp only [List.length_set]; omega) ⟨rfl, by simp only [List.length_set]; rfl, rfl, trivial⟩ (fun _ hw => ?_); exact hw.reord [1] rfl)
  · skip
    repeat' first | ((with_reducible apply (LS_callf (f := 64))); exact rfl; exact rfl; exact rfl; exact fun w hw => pick_at 0 hw rfl hR (by omega) (by omega) (by omega); rintro kx ⟨kx0, kx1, kx2⟩) | ((with_reducible apply (LS_callf (f := 133))); exact rfl; exact rfl; exact rfl; exact fun w hw => someRules_ok w0 _ w g tot bv _ l hw hR (by omega) (by omega); rintro ⟨p4, g4, c4, rs4, es4⟩ ⟨d1, d2, d3, d4, d5, d6⟩; dsimp only at d1 d2 d3 d4 d5 d6 ⊢) | ((with_reducible apply CS_seq)) | ((with_reducible apply CS_region)) | ((with_reducible apply RR_end)) | ((with_reducible apply LR_pure); exact rfl; exact rfl; exact rfl) | ((with_reducible apply LR_len); exact rfl; exact rfl; exact rfl) | ((with_reducible apply post_seq)) | ((with_reducible apply post_then_ret)) | ((with_reducible apply post_then_exit)) | ((with_reducible apply post_block_eq)) | ((with_reducible apply CS_skip)) | ((with_reducible apply CS_ret)) | ((with_reducible apply CS_exit)) | ((with_reducible apply CS_cond_d); exact rfl; all_goals intro hb; all_goals try (exfalso; omega))
    all_goals first | (exfalso; contradiction) | (exfalso; omega) | (exfalso; simp at hb <;> omega) | skip
    · apply post_ret1; exact rfl; exact rfl; intro w' hw'; exact ⟨⟨p4, g4, c4, rs4, es4⟩, ⟨by dsimp only; omega, by dsimp only; omega, d3, d4, d5, d6⟩, rfl, hw'.sub (((List.Sublist.refl es4).append ((List.sublist_append_right es h).cons _)).cons_cons _ |>.cons_cons _)⟩
    · apply post_ret1; exact rfl; exact rfl; intro w' hw'; exact ⟨⟨p3 + 1, g3, c3, rs, es⟩, ⟨by dsimp only; omega, by dsimp only; omega, b4, b5, a5, b6⟩, rfl, hw'⟩
/-- a sale: a shop, a cart, coupons, rules -/
structure SaG where
  p : Int
  A : Option Addr
  n : Nat
  c : Nat
  xs : List Ar
  ent : Ent
  g3 : Nat
  c3 : Nat
  ys : List Ln
  A5 : Option Addr
  n5 : Nat
  c5 : Nat
  zs : List Int
  ent5 : Ent
  g6 : Nat
  c6 : Nat
  rs : List Ru
  es : List Ent
set_option maxHeartbeats 8000000 in
theorem anySale1_ok (w0 : World) (h : List Ent) (w : World) (g tot : Nat) (bv : Value) (p : Int) (l : List By) (hw : Wd w0 (rdE g tot bv p :: h) w) (hR : Rd4 w0 g tot bv l) (h0 : 0 ≤ p) (h1 : p ≤ 500000) : Calls Tryz.prog 63 #[.pointer (some ⟨g, 0, none⟩)] w
    (fun x w' => ∃ i : SaG, (p ≤ i.p ∧ i.p ≤ p + 640 ∧ (∀ w, i.ent.At w → Sl w (.slice i.A i.n i.c) i.xs) ∧ i.ys.length ≤ 9 ∧ i.ys.length ≤ i.c3 ∧ i.c3 ≤ maxLen ∧ i.zs.length ≤ 6 ∧ (∀ w, i.ent5.At w → Sl w (.slice i.A5 i.n5 i.c5) i.zs) ∧ i.rs.length ≤ 7 ∧ i.rs.length ≤ i.c6 ∧ i.c6 ≤ maxLen ∧ EsOk i.rs i.es) ∧ x = .returned (.tuple #[.slice i.A i.n i.c, .slice (some ⟨i.g3, 0, none⟩) i.ys.length i.c3, .slice i.A5 i.n5 i.c5, .slice (some ⟨i.g6, 0, none⟩) i.rs.length i.c6]) ∧ Wd w0 (rdE g tot bv i.p :: (ruE i.g6 i.c6 i.rs :: (i.es ++ (i.ent5 :: lnE i.g3 i.c3 i.ys :: i.ent :: h)))) w') := by
  have hml : maxLen = 9223372036854775807 := rfl
  refine enter_in (vs := [.pointer (some ⟨g, 0, none⟩)]) hw Tryz.func63 rfl Tryz.ntmps63 rfl ?_
  repeat' first | ((with_reducible apply (LS_callf (f := 98))); exact rfl; exact rfl; exact rfl; exact fun w hw => anyBasket_ok w0 h w g tot bv p l hw hR h0 (by omega); rintro ⟨p2, A, n, c, xs, ent, g3, c3, ys⟩ ⟨a1, a2, a3, a4, a5, a6, a7, a8, a9, a10⟩; dsimp only at a1 a2 a3 a4 a5 a6 a7 a8 a9 a10 ⊢) | ((with_reducible apply (LS_callf (f := 99))); exact rfl; exact rfl; exact rfl; exact fun w hw => someCoupons_ok w0 _ w g tot bv _ l hw hR (by omega) (by omega); rintro ⟨p4, g4, c4, cps⟩ ⟨b1, b2, b3, b4, b5⟩; dsimp only at b1 b2 b3 b4 b5 ⊢) | ((with_reducible apply (LS_callf (f := 64))); exact rfl; exact rfl; exact rfl; exact fun w hw => pick_at 0 hw rfl hR (by omega) (by omega) (by omega); rintro kx ⟨kx0, kx1, kx2⟩) | ((with_reducible apply (LS_append_one 2 0 cps 9)); exact rfl; exact rfl; exact rfl; exact rfl; exact rfl; exact rfl; exact rfl; exact rfl; exact rfl; exact rfl; exact rfl; omega; omega; omega; intro g5 c5 e1 e2) | ((with_reducible apply (LS_callf (f := 100))); exact rfl; exact rfl; exact rfl; exact fun w hw => spoil_ok w0 _ w g tot bv _ l (hw.perm (pull_perm 2 _ _ _ rfl)) hR (by omega) (by omega) _ _ _ (cps ++ [9]) _ (fun w hw => own_sl 0 hw rfl (by simp) (by simp) (by omega) e2) (by simp; omega); rintro ⟨p5, A5, n5, q5, zs5, ent5⟩ ⟨f1, f2, f3, f4⟩; dsimp only at f1 f2 f3 f4 ⊢; simp only [List.length_append, List.length_singleton] at f3) | ((with_reducible apply (LS_callf (f := 101))); exact rfl; exact rfl; exact rfl; exact fun w hw => clearRules_ok w0 _ w g tot bv _ l hw hR (by omega) (by omega); rintro ⟨p6, g6, c6, rs, es⟩ ⟨d1, d2, d3, d4, d5, d6⟩; dsimp only at d1 d2 d3 d4 d5 d6 ⊢) | ((with_reducible apply (LS_callf (f := 102))); exact rfl; exact rfl; exact rfl; exact fun w hw => anyRules_ok w0 _ w g tot bv _ l hw hR (by omega) (by omega); rintro ⟨p7, g7, c7, rs7, es7⟩ ⟨k1, k2, k3, k4, k5, k6⟩; dsimp only at k1 k2 k3 k4 k5 k6 ⊢) | ((with_reducible apply CS_seq)) | ((with_reducible apply CS_region)) | ((with_reducible apply RR_end)) | ((with_reducible apply LR_pure); exact rfl; exact rfl; exact rfl) | ((with_reducible apply LS_buildSlice); exact rfl; exact rfl; exact rfl; exact rfl; exact rfl; exact rfl; exact rfl; intro _) | ((with_reducible apply post_seq)) | ((with_reducible apply CS_skip)) | ((with_reducible apply CS_ret)) | ((with_reducible apply CS_cond_d); exact rfl; all_goals intro hb; all_goals try (exfalso; omega))
  all_goals (refine post_ret4 rfl rfl rfl rfl rfl fun w' hw' => ?_)
  · exact ⟨⟨p7, A, n, c, xs, ent, g3, c3, ys, A5, n5, q5, zs5, ent5, g7, c7, rs7, es7⟩, ⟨by dsimp only; omega, by dsimp only; omega, a6, a7, a8, a9, by dsimp only; omega, f4, by dsimp only; omega, k4, k5, k6⟩, rfl, hw'.sub (by refine List.Sublist.cons_cons _ (List.Sublist.cons_cons _ (List.Sublist.append (List.Sublist.refl _) ?_)); first | (apply List.Sublist.cons; refine List.Sublist.trans ?_ (List.sublist_append_right _ _); (repeat (first | exact List.Sublist.refl _ | exact List.nil_sublist _ | apply List.Sublist.cons_cons | apply List.Sublist.cons)); done) | ((repeat (first | exact List.Sublist.refl _ | exact List.nil_sublist _ | apply List.Sublist.cons_cons | apply List.Sublist.cons)); done))⟩
  · exact ⟨⟨p6 + 1, A, n, c, xs, ent, g3, c3, ys, A5, n5, q5, zs5, ent5, g6, c6, rs, es⟩, ⟨by dsimp only; omega, by dsimp only; omega, a6, a7, a8, a9, by dsimp only; omega, f4, by dsimp only; omega, d4, d5, d6⟩, rfl, hw'.sub (by refine List.Sublist.cons_cons _ (List.Sublist.cons_cons _ (List.Sublist.append (List.Sublist.refl _) ?_)); first | (apply List.Sublist.cons; refine List.Sublist.trans ?_ (List.sublist_append_right _ _); (repeat (first | exact List.Sublist.refl _ | exact List.nil_sublist _ | apply List.Sublist.cons_cons | apply List.Sublist.cons)); done) | ((repeat (first | exact List.Sublist.refl _ | exact List.nil_sublist _ | apply List.Sublist.cons_cons | apply List.Sublist.cons)); done))⟩
  · exact ⟨⟨p7, A, n, c, xs, ent, g3, c3, ys, some ⟨g4, 0, none⟩, cps.length, c4, cps, intE g4 c4 cps, g7, c7, rs7, es7⟩, ⟨by dsimp only; omega, by dsimp only; omega, a6, a7, a8, a9, by dsimp only; omega, fun w hw => hw.sl rfl rfl b4 b5, by dsimp only; omega, k4, k5, k6⟩, rfl, hw'.sub (by refine List.Sublist.cons_cons _ (List.Sublist.cons_cons _ (List.Sublist.append (List.Sublist.refl _) ?_)); first | (apply List.Sublist.cons; refine List.Sublist.trans ?_ (List.sublist_append_right _ _); (repeat (first | exact List.Sublist.refl _ | exact List.nil_sublist _ | apply List.Sublist.cons_cons | apply List.Sublist.cons)); done) | ((repeat (first | exact List.Sublist.refl _ | exact List.nil_sublist _ | apply List.Sublist.cons_cons | apply List.Sublist.cons)); done))⟩
  · exact ⟨⟨p6 + 1, A, n, c, xs, ent, g3, c3, ys, some ⟨g4, 0, none⟩, cps.length, c4, cps, intE g4 c4 cps, g6, c6, rs, es⟩, ⟨by dsimp only; omega, by dsimp only; omega, a6, a7, a8, a9, by dsimp only; omega, fun w hw => hw.sl rfl rfl b4 b5, by dsimp only; omega, d4, d5, d6⟩, rfl, hw'.sub (by refine List.Sublist.cons_cons _ (List.Sublist.cons_cons _ (List.Sublist.append (List.Sublist.refl _) ?_)); first | (apply List.Sublist.cons; refine List.Sublist.trans ?_ (List.sublist_append_right _ _); (repeat (first | exact List.Sublist.refl _ | exact List.nil_sublist _ | apply List.Sublist.cons_cons | apply List.Sublist.cons)); done) | ((repeat (first | exact List.Sublist.refl _ | exact List.nil_sublist _ | apply List.Sublist.cons_cons | apply List.Sublist.cons)); done))⟩
/-- a sale that reads as it should -/
structure SaO where
  v0 : Value
  s : List Ar
  v : Value
  c : List Ln
  v2 : Value
  cp : List Int
  v3 : Value
  rs : List Ru
structure SaOk (w : World) (i : SaO) : Prop where
  s0 : Sl w i.v0 i.s
  s1 : Sl w i.v i.c
  s2 : Sl w i.v2 i.cp
  s3 : Sl w i.v3 i.rs
  rg : ROks w i.rs
  cl : i.c.length ≤ 9
  cpl : i.cp.length ≤ 6
  rl : i.rs.length ≤ 7
theorem SaOk.mono {w0 w : World} {h : List Ent} {i : SaO} (hi : SaOk w0 i) (hw : Wd w0 h w) : SaOk w i := ⟨hi.s0.mono hw, hi.s1.mono hw, hi.s2.mono hw, hi.s3.mono hw, fun r hr => (hi.rg r hr).mono hw, hi.cl, hi.cpl, hi.rl⟩
theorem Wd.gat {w0 w : World} {H : List Ent} (hw : Wd w0 H w) {e : Ent} (he : e ∈ H) : e.At w := (hw.at_ e he).2
theorem DrawReceiptOf_ok (v : Value) (l : List By) (w : World) (hs : Sl w v l) (hby : BytesOk l) : Calls Tryz.prog 56 #[v] w
    (fun x w' => ∃ i : SaO, SaOk w' i ∧ x = .returned (.tuple #[i.v0, i.v, i.v2, i.v3]) ∧ Wd w [] w') := by
  refine enter (vs := [v]) Tryz.func56 rfl Tryz.ntmps56 rfl ?_
  repeat' first | ((with_reducible apply (LS_callf (f := 62))); exact rfl; exact rfl; exact rfl; exact fun w hw => newReader_ok _ _ w hw v l hs hby; rintro ⟨g, bv, l'⟩ ⟨q1, q2, q3⟩) | ((with_reducible apply (LS_callf (f := 63))); exact rfl; exact rfl; exact rfl; exact fun w hw => anySale1_ok _ _ w g _ bv _ l' hw ⟨q1, q2, q3⟩ (by omega) (by omega); rintro ⟨p2, A, n, c, xs, ent, g3, c3, ys, A5, n5, c5, zs, ent5, g6, c6, rs, es⟩ ⟨a01, a02, a1, a2, a3, a4, a5, a6, a7, a8, a9, a10⟩; dsimp only at a01 a02 a1 a2 a3 a4 a5 a6 a7 a8 a9 a10 ⊢; (have hR : Rd4 w g 2 bv l' := ⟨q1, q2, q3⟩)) | ((with_reducible apply CS_seq)) | ((with_reducible apply CS_region)) | ((with_reducible apply RR_end)) | ((with_reducible apply LR_pure); exact rfl; exact rfl; exact rfl) | ((with_reducible apply post_seq)) | ((with_reducible apply CS_ret))
  refine post_ret4 rfl rfl rfl rfl rfl fun w' hw' => ?_
  exact ⟨⟨_, xs, _, ys, _, zs, _, rs⟩, (SaOk.mk (a1 _ (hw'.gat (by simp))) ((hw'.gat (e := lnE g3 c3 ys) (by simp)).sl rfl rfl a3 a4) (a6 _ (hw'.gat (by simp))) ((hw'.gat (e := ruE g6 c6 rs) (by simp)).sl rfl rfl a8 a9) (a10.of hw' (fun e he => by simp [he])) a2 a5 a7), rfl, hw'.nil⟩
theorem DrawPayOf_ok (v : Value) (l : List By) (w : World) (hs : Sl w v l) (hby : BytesOk l) : Calls Tryz.prog 48 #[v] w
    (fun x w' => ∃ i : SaO, SaOk w' i ∧ x = .returned (.tuple #[i.v0, i.v, i.v2, i.v3]) ∧ Wd w [] w') := by
  refine enter (vs := [v]) Tryz.func48 rfl Tryz.ntmps48 rfl ?_
  repeat' first | ((with_reducible apply (LS_callf (f := 62))); exact rfl; exact rfl; exact rfl; exact fun w hw => newReader_ok _ _ w hw v l hs hby; rintro ⟨g, bv, l'⟩ ⟨q1, q2, q3⟩) | ((with_reducible apply (LS_callf (f := 63))); exact rfl; exact rfl; exact rfl; exact fun w hw => anySale1_ok _ _ w g _ bv _ l' hw ⟨q1, q2, q3⟩ (by omega) (by omega); rintro ⟨p2, A, n, c, xs, ent, g3, c3, ys, A5, n5, c5, zs, ent5, g6, c6, rs, es⟩ ⟨a01, a02, a1, a2, a3, a4, a5, a6, a7, a8, a9, a10⟩; dsimp only at a01 a02 a1 a2 a3 a4 a5 a6 a7 a8 a9 a10 ⊢; (have hR : Rd4 w g 2 bv l' := ⟨q1, q2, q3⟩)) | ((with_reducible apply CS_seq)) | ((with_reducible apply CS_region)) | ((with_reducible apply RR_end)) | ((with_reducible apply LR_pure); exact rfl; exact rfl; exact rfl) | ((with_reducible apply post_seq)) | ((with_reducible apply CS_ret))
  refine post_ret4 rfl rfl rfl rfl rfl fun w' hw' => ?_
  exact ⟨⟨_, xs, _, ys, _, zs, _, rs⟩, (SaOk.mk (a1 _ (hw'.gat (by simp))) ((hw'.gat (e := lnE g3 c3 ys) (by simp)).sl rfl rfl a3 a4) (a6 _ (hw'.gat (by simp))) ((hw'.gat (e := ruE g6 c6 rs) (by simp)).sl rfl rfl a8 a9) (a10.of hw' (fun e he => by simp [he])) a2 a5 a7), rfl, hw'.nil⟩
theorem post_ret5 {P : Program} {N : Nat} {e : Env} {C : World → Prop} {fn : Func} {R : Ending → World → Prop} {t u s r q : Tmp} {v x y z z' : Value} (hr : fn.results = #[.tmp t, .tmp u, .tmp s, .tmp r, .tmp q]) (hv : look e t = some v) (hx : look e u = some x) (hy : look e s = some y) (hz : look e r = some z) (hz' : look e q = some z') (hR : ∀ w, C w → R (.returned (.tuple #[v, x, y, z, z'])) w) : Post N e C .ret (bodyPost P fn R) := by
  refine post_ret (vs := [v, x, y, z, z']) ?_ rfl hR
  rw [hr]; exact ⟨hv, hx, hy, hz, hz', trivial⟩
set_option maxHeartbeats 4000000 in
theorem DrawSavedBy_ok (v : Value) (l : List By) (w : World) (hs : Sl w v l) (hby : BytesOk l) : Calls Tryz.prog 59 #[v] w
    (fun x w' => ∃ i : SaO × Int, SaOk w' i.1 ∧ x = .returned (.tuple #[i.1.v0, i.1.v, i.1.v2, i.1.v3, .int .i64 i.2]) ∧ Wd w [] w') := by
  have hml : maxLen = 9223372036854775807 := rfl
  refine enter (vs := [v]) Tryz.func59 rfl Tryz.ntmps59 rfl ?_
  repeat' first | ((with_reducible apply (LS_callf (f := 62))); exact rfl; exact rfl; exact rfl; exact fun w hw => newReader_ok _ _ w hw v l hs hby; rintro ⟨g, bv, l'⟩ ⟨q1, q2, q3⟩) | ((with_reducible apply (LS_callf (f := 63))); exact rfl; exact rfl; exact rfl; exact fun w hw => anySale1_ok _ _ w g _ bv _ l' hw ⟨q1, q2, q3⟩ (by omega) (by omega); rintro ⟨p2, A, n, c, xs, ent, g3, c3, ys, A5, n5, c5, zs, ent5, g6, c6, rs, es⟩ ⟨a01, a02, a1, a2, a3, a4, a5, a6, a7, a8, a9, a10⟩; dsimp only at a01 a02 a1 a2 a3 a4 a5 a6 a7 a8 a9 a10 ⊢; (have hR : Rd4 w g 2 bv l' := ⟨q1, q2, q3⟩)) | ((with_reducible apply (LS_callf (f := 64))); exact rfl; exact rfl; exact rfl; exact fun w hw => pick_at 0 hw rfl hR (by omega) (by omega) (by omega); rintro kx ⟨kx0, kx1, kx2⟩) | ((with_reducible apply LR_index_cls); exact rfl; exact rfl; exact rfl; exact rfl; exact fun w hw => own_sl 1 hw rfl rfl rfl a8 a9; exact rfl; omega; omega; exact rfl; intro _ r hr _) | ((with_reducible apply CS_seq)) | ((with_reducible apply CS_region)) | ((with_reducible apply RR_end)) | ((with_reducible apply LR_pure); exact rfl; exact rfl; exact rfl) | ((with_reducible apply LR_field); exact rfl; exact rfl; exact rfl) | ((with_reducible apply LR_len); exact rfl; exact rfl; exact rfl) | ((with_reducible apply LR_load_cls0); exact rfl; exact rfl; exact rfl; assumption; exact rfl) | ((with_reducible apply post_seq)) | ((with_reducible apply CS_skip)) | ((with_reducible apply CS_ret)) | ((with_reducible apply CS_cond_d); exact rfl; all_goals intro hb; all_goals try (exfalso; omega))
  all_goals first | (exfalso; contradiction) | (exfalso; omega) | (exfalso; simp at hb <;> omega) | skip
  all_goals (refine post_ret5 rfl rfl rfl rfl rfl rfl fun w' hw' => ?_)
  all_goals exact ⟨(⟨_, xs, _, ys, _, zs, _, rs⟩, _), (SaOk.mk (a1 _ (hw'.gat (by simp))) ((hw'.gat (e := lnE g3 c3 ys) (by simp)).sl rfl rfl a3 a4) (a6 _ (hw'.gat (by simp))) ((hw'.gat (e := ruE g6 c6 rs) (by simp)).sl rfl rfl a8 a9) (a10.of hw' (fun e he => by simp [he])) a2 a5 a7), rfl, hw'.nil⟩
abbrev ruD : Ru := ⟨0, 0, 0, 0, 0, 0, 0, ⟨⟨0, 0⟩, none, 0, 0, [], 0⟩⟩
abbrev cpR (r : Ru) (a : Int) : Ru := ⟨r.num, r.lev, r.rank, r.grp, r.kind, r.val, r.cap, ⟨r.g.tot, r.g.A, r.g.n, r.g.c, r.g.cs, a⟩⟩
set_option maxHeartbeats 4000000 in
theorem DrawUsefulCoupons_ok (v : Value) (l : List By) (w : World) (hs : Sl w v l) (hby : BytesOk l) : Calls Tryz.prog 21 #[v] w
    (fun x w' => ∃ i : SaO, SaOk w' i ∧ x = .returned (.tuple #[i.v0, i.v, i.v2, i.v3]) ∧ Wd w [] w') := by
  have hml : maxLen = 9223372036854775807 := rfl
  refine enter (vs := [v]) Tryz.func21 rfl Tryz.ntmps21 rfl ?_
  repeat' first | ((with_reducible apply (LS_callf (f := 62))); exact rfl; exact rfl; exact rfl; exact fun w hw => newReader_ok _ _ w hw v l hs hby; rintro ⟨g, bv, l'⟩ ⟨q1, q2, q3⟩) | ((with_reducible apply (LS_callf (f := 63))); exact rfl; exact rfl; exact rfl; exact fun w hw => anySale1_ok _ _ w g _ bv _ l' hw ⟨q1, q2, q3⟩ (by omega) (by omega); rintro ⟨p2, A, n, c, xs, ent, g3, c3, ys, A5, n5, c5, zs, ent5, g6, c6, rs, es⟩ ⟨a01, a02, a1, a2, a3, a4, a5, a6, a7, a8, a9, a10⟩; dsimp only at a01 a02 a1 a2 a3 a4 a5 a6 a7 a8 a9 a10 ⊢; (have hR : Rd4 w g 2 bv l' := ⟨q1, q2, q3⟩); (rcases Nat.eq_zero_or_pos rs.length with hrs | hrs)) | ((with_reducible apply (LS_callf (f := 64))); exact rfl; exact rfl; exact rfl; exact fun w hw => pick_at 0 hw rfl hR (by omega) (by omega) (by omega); rintro kx ⟨kx0, kx1, kx2⟩) | ((with_reducible apply (LR_index_own (0))); exact rfl; exact rfl; exact rfl; exact rfl; omega; omega) | ((with_reducible apply (LS_store1 1)); exact rfl; exact rfl; exact rfl; exact rfl; exact rfl; exact putF_cpX (k := 0) _ (getD_at (d := ruD) hrs)) | ((with_reducible apply CS_seq)) | ((with_reducible apply CS_region)) | ((with_reducible apply RR_end)) | ((with_reducible apply LR_pure); exact rfl; exact rfl; exact rfl) | ((with_reducible apply LR_skip); exact rfl; exact rfl) | ((with_reducible apply LR_field_own); exact rfl; exact rfl; exact rfl) | ((with_reducible apply LR_len); exact rfl; exact rfl; exact rfl) | ((with_reducible apply LS_buildSlice); exact rfl; exact rfl; exact rfl; exact rfl; exact rfl; exact rfl; exact rfl; intro _) | ((with_reducible apply post_seq)) | ((with_reducible apply CS_skip)) | ((with_reducible apply CS_ret)) | ((with_reducible apply CS_cond_f); exact rfl) | ((with_reducible apply CS_cond_d); exact rfl; all_goals intro hb; all_goals try (exfalso; omega)) | ((with_reducible apply LR_caseg_d); exact rfl; exact rfl; all_goals intro hb; all_goals try (exfalso; omega))
  all_goals first | (exfalso; contradiction) | (exfalso; omega) | (exfalso; simp at hb <;> omega) | skip
  all_goals (refine post_ret4 rfl rfl rfl rfl rfl fun w' hw' => ?_)
  all_goals first
    | (rename_i gN; exact ⟨⟨_, xs, _, ys, .slice (some ⟨gN, 0, none⟩) 1 1, [1], .slice (some ⟨g6, 0, none⟩) rs.length c6, (rs.set 0 (cpR (rs.getD 0 ruD) 1))⟩, (SaOk.mk (a1 _ (hw'.gat (by simp))) ((hw'.gat (e := lnE g3 c3 ys) (by simp)).sl rfl rfl a3 a4) ((hw'.gat (e := intE gN 1 [1]) (.head _)).sl rfl rfl (Nat.le_refl _) (by decide)) ((hw'.gat (e := ruE g6 c6 (rs.set 0 (cpR (rs.getD 0 ruD) 1))) (.tail _ (.head _))).sl rfl (by simp) a8 a9) ((a10.upd (getD_at (d := ruD) hrs) (cpR (rs.getD 0 ruD) 1) ⟨rfl, rfl, rfl, rfl⟩).of hw' (fun e he => by simp [he])) a2 (by simp) (by simpa using a7)), rfl, hw'.nil⟩)
    | exact ⟨⟨_, xs, _, ys, _, zs, .slice (some ⟨g6, 0, none⟩) rs.length c6, (rs.set 0 (cpR (rs.getD 0 ruD) 1))⟩, (SaOk.mk (a1 _ (hw'.gat (by simp))) ((hw'.gat (e := lnE g3 c3 ys) (by simp)).sl rfl rfl a3 a4) (a6 _ (hw'.gat (by simp))) ((hw'.gat (e := ruE g6 c6 (rs.set 0 (cpR (rs.getD 0 ruD) 1))) (.head _)).sl rfl (by simp) a8 a9) ((a10.upd (getD_at (d := ruD) hrs) (cpR (rs.getD 0 ruD) 1) ⟨rfl, rfl, rfl, rfl⟩).of hw' (fun e he => by simp [he])) a2 a5 (by simpa using a7)), rfl, hw'.nil⟩
    | exact ⟨⟨_, xs, _, ys, _, zs, _, rs⟩, (SaOk.mk (a1 _ (hw'.gat (by simp))) ((hw'.gat (e := lnE g3 c3 ys) (by simp)).sl rfl rfl a3 a4) (a6 _ (hw'.gat (by simp))) ((hw'.gat (e := ruE g6 c6 rs) (by simp)).sl rfl rfl a8 a9) (a10.of hw' (fun e he => by simp [he])) a2 a5 a7), rfl, hw'.nil⟩
end Go.Proofs.YtbgfkhliideegaaGreat
