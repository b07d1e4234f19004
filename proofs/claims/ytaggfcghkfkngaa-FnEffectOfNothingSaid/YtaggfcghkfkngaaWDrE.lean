/- The walks of the reference's generators of what is left, and of the arguments of EffectOf. No condition beyond those that each theorem states. -/
import Derived.Test.YtaggfcghkfkngaaWDrB
import Derived.Test.YtaggfcghkfkngaaWDrS
namespace Go.Proofs.Ytaggfcghkfkngaa
open Go.RowKit
attribute [local irreducible] Calls
section
variable {P : Program} {ops : Array Oper} {N : Nat} {e : Env} {Q : Exit → Act → World → Prop} {q : QM} {l : List Oper} {d : Nat} {C : World → Prop} {ty : TypeId} {ps : String} {af : Array Edge} {gu : Option (Nat × Bool)}
/-- a known element of a slice that reads so in every world of the class -/
theorem LR_index_clsk {α : Type} {hα : Enc α} {x ix : Operand} {t el : TypeId} {z : Value} {b n c : Nat} {ad0 : Addr} {xs : List α} {i : Int} (k : Nat) {u : α} (hg : gd ops e gu = some true) (hN : Nat.blt d N = true)
    (hx : evO e x = some (.slice (some ad0) n c)) (hix : evO e ix = some (.int .i64 i)) (hs : ∀ w, C w → Sl w (.slice (some ad0) n c) xs) (hn : n = xs.length) (hik : i = k) (hk : xs[k]? = some u) [ht : SliceTy P t el] {kk : Nat} [he : ElemTy P el z kk b] (hke : kk = Enc.k α)
    (hr : ∀ ad, (∀ w, C w → Pt w ad (Enc.enc u)) → RR q P ops N ((d, .pointer (some ad)) :: e) C l Q) : RR q P ops N e C (⟨(some d), (.indexAddr t x ix), ty, ps, af, gu⟩ :: l) Q := by
  subst hik
  have hlt := (List.getElem?_eq_some_iff.1 hk).1
  refine LR_index_cls hg hN hx hix hs hn (by omega) (by omega) hke fun ad r hr' hp => ?_
  rw [Int.toNat_natCast, hk] at hr'
  cases hr'
  exact hr ad hp
end
section
variable {P : Program} {N : Nat} {e : Env} {w0 : World} {h r : List Ent}
/-- results: two slots, an aggregate in an own cell, a slot -/
theorem post_ret_ttct {fn : Func} {R : Ending → World → Prop} {a u1 u2 u3 : Nat} {t T : TypeId} {n g tot off : Nat} {cs us : List Value} {x1 x2 x3 : Value} (i : Nat) (hr : fn.results = #[.tmp u1, .tmp u2, .cell a t, .tmp u3]) (hx1 : look e u1 = some x1) (hx2 : look e u2 = some x2) (hp : look e a = some (.pointer (some ⟨g, off, none⟩))) [ht : AggTy P t n]
    (hpl : pull i h = some (⟨g, T, tot, cs⟩, r)) (hv : takeF (dropN cs off) n = some us) (hx3 : look e u3 = some x3) (hR : ∀ w, Wd w0 h w → R (.returned (.tuple #[x1, x2, .agg us.toArray, x3])) w) : Post N e (Wd w0 h) .ret (bodyPost P fn R) := by
  refine post_ret (vs := [x1, x2, .agg us.toArray, x3]) ?_ rfl hR
  rw [hr]
  exact ⟨hx1, hx2, ⟨_, hp, fun w hw => run_own_agg i hpl hv hw⟩, hx3, trivial⟩
end
abbrev rbEn (g : Nat) (r : Ru) : Ent := ⟨g, 52, 11, Enc.enc r⟩
set_option maxHeartbeats 4000000 in
theorem someLeft_ok (w0 : World) (h : List Ent) (w : World) (g tot : Nat) (bv : Value) (p : Int) (l : List By) (hw : Wd w0 (rdE g tot bv p :: h) w) (hR : Rd4 w0 g tot bv l) (h0 : 0 ≤ p) (h1 : p ≤ 700000) (A A2 : Option Addr) (n c n2 c2 : Nat) (xs : List Ar) (ys : List Ln) (hn : n = xs.length) (hn2 : n2 = ys.length) (hx : xs.length ≤ 10) (hy : ys.length ≤ 9) (hb1 : ∀ a ∈ xs, arB a) (hb2 : ∀ y ∈ ys, lnB y) (hs : ∀ w, Wd w0 h w → Sl w (.slice A n c) xs) (hs2 : ∀ w, Wd w0 h w → Sl w (.slice A2 n2 c2) ys) :
    Calls Try.prog 56 #[.pointer (some ⟨g, 0, none⟩), .slice A n c, .slice A2 n2 c2] w
    (fun x w' => ∃ i : NmG, (p ≤ i.p ∧ i.p ≤ p + 12 ∧ i.zs.length ≤ 10 ∧ (∀ w, i.ent.At w → Sl w (.slice i.A i.n i.c) i.zs)) ∧ x = .returned (.slice i.A i.n i.c) ∧ Wd w0 (rdE g tot bv i.p :: i.ent :: h) w') := by
  have hml : maxLen = 9223372036854775807 := rfl
  have hs' := hs _ hw.tail
  have hs2' := hs2 _ hw.tail
  refine enter_in (vs := [.pointer (some ⟨g, 0, none⟩), .slice A n c, .slice A2 n2 c2]) hw Try.func56 rfl Try.ntmps56 rfl ?_
  repeat' first
    | ((with_reducible apply CS_seq))
    | ((with_reducible apply CS_block))
    | ((with_reducible apply CS_region))
    | ((with_reducible apply RR_end))
    | ((with_reducible apply LR_pure); exact rfl; exact rfl; exact rfl)
    | ((with_reducible apply LS_buildSlice); exact rfl; exact rfl; exact rfl; exact rfl; exact rfl; exact rfl; exact rfl; intro _)
    | ((with_reducible apply post_seq))
  rename_i g2
  refine CS_loop (ι := Nat × Int × Nat × Nat × List Int) (fun i => [(0, .pointer (some ⟨g, 0, none⟩)), (1, .slice A n c), (2, .slice A2 n2 c2), (7, .slice (some ⟨i.2.2.1, 0, none⟩) i.2.2.2.2.length i.2.2.2.1), (8, .int .i64 (i.1 : Int))]) (fun i => Wd w0 (rdE g tot bv i.2.1 :: intE i.2.2.1 i.2.2.2.1 i.2.2.2.2 :: h)) (fun i => i.1 ≤ ys.length ∧ p ≤ i.2.1 ∧ i.2.1 ≤ p + i.1 ∧ i.2.2.2.2.length = i.1 ∧ i.2.2.2.2.length ≤ i.2.2.2.1 ∧ i.2.2.2.1 ≤ maxLen) (fun i => ys.length - i.1) (0, p, g2, 0, []) ⟨by dsimp only; omega, by dsimp only; omega, by dsimp only; omega, by simp, by simp, by simp⟩ ⟨rfl, rfl, rfl, rfl, rfl, trivial⟩ (fun _ hw => hw.reord [1, 0] rfl) ?_
  rintro ⟨k, p2, g3, c3, zs⟩ ⟨a1, a2, a3, a4, a5, a6⟩
  dsimp only at a1 a2 a3 a4 a5 a6 ⊢
  by_cases hk : k < ys.length
  · obtain ⟨y, hyk⟩ : ∃ y, ys[k]? = some y := ⟨_, List.getElem?_eq_getElem hk⟩
    have hyb := hb2 y (List.mem_of_getElem? hyk)
    unfold lnB at hyb
    have hA2 : ∃ ad, A2 = some ad := by
      obtain ⟨A', n', c', he, hn', _, _, hp'⟩ := hs2'
      simp only [Value.slice.injEq] at he
      obtain ⟨rfl, rfl, rfl⟩ := he
      obtain ⟨ad, h', _⟩ := hp' (by omega)
      exact ⟨ad, h'⟩
    obtain ⟨ad2, rfl⟩ := hA2
    by_cases hin : 0 ≤ y.art ∧ y.art < xs.length
    · obtain ⟨j, hj⟩ : ∃ j : Nat, y.art = j := ⟨y.art.toNat, by omega⟩
      have hA : ∃ ad, A = some ad := by
        obtain ⟨A', n', c', he, hn', _, _, hp'⟩ := hs'
        simp only [Value.slice.injEq] at he
        obtain ⟨rfl, rfl, rfl⟩ := he
        obtain ⟨ad, h', _⟩ := hp' (by omega)
        exact ⟨ad, h'⟩
      obtain ⟨ad1, rfl⟩ := hA
      obtain ⟨a, ha⟩ : ∃ a, xs[j]? = some a := ⟨_, List.getElem?_eq_getElem (by omega)⟩
      have hab := hb1 a (List.mem_of_getElem? ha)
      unfold arB at hab
      have hpr := mul_bd (a := a.price) (r := y.cnt) (A := 5001) (R := 21) hab.1 hab.2 (by omega) (by omega)
      repeat' first
        | ((with_reducible apply LR_index_clsk k); exact rfl; exact rfl; exact rfl; exact rfl; exact fun w hw => hs2 w (hw.sub (by repeat (first | exact List.Sublist.refl _ | exact List.nil_sublist _ | apply List.Sublist.cons_cons | apply List.Sublist.cons))); exact hn2; omega; exact hyk; exact rfl; intro _ _)
        | ((with_reducible apply LR_index_clsk j); exact rfl; exact rfl; exact rfl; exact rfl; exact fun w hw => hs w (hw.sub (by repeat (first | exact List.Sublist.refl _ | exact List.nil_sublist _ | apply List.Sublist.cons_cons | apply List.Sublist.cons))); exact hn; omega; exact ha; exact rfl; intro _ _)
        | ((with_reducible apply (LS_callf (f := 79))); exact rfl; exact rfl; exact rfl; exact fun w hw => one_at 1 0 hw rfl rfl rfl rfl (by decide) (by decide) (by decide) hR (by omega) (by omega); rintro o1 _)
        | ((with_reducible apply (LS_append_one 3 0 zs o1)); exact rfl; exact rfl; exact rfl; exact rfl; exact rfl; exact rfl; exact rfl; exact rfl; exact rfl; exact rfl; exact rfl; omega; omega; omega; intro g4 c4 e1 e2)
        | ((with_reducible apply CS_seq))
        | ((with_reducible apply CS_block))
        | ((with_reducible apply CS_region))
        | ((with_reducible apply CS_regionq_wd); kernel_rfl; kernel_rfl)
        | ((with_reducible apply RR_end))
        | ((with_reducible apply LR_pure); exact rfl; exact rfl; exact rfl)
        | ((with_reducible apply LR_add); exact rfl; exact rfl; exact rfl; exact rfl; omega; omega)
        | ((with_reducible apply LR_sub); exact rfl; exact rfl; exact rfl; exact rfl; omega; omega)
        | ((with_reducible apply LR_mul); exact rfl; exact rfl; exact rfl; exact rfl; omega; omega)
        | ((with_reducible apply LR_quo); exact rfl; exact rfl; exact rfl; exact rfl; omega; omega; omega)
        | ((with_reducible apply LR_field); exact rfl; exact rfl; exact rfl)
        | ((with_reducible apply LR_len); exact rfl; exact rfl; exact rfl)
        | ((with_reducible apply LR_load_cls0); exact rfl; exact rfl; exact rfl; assumption; exact rfl)
        | ((with_reducible apply LR_load_cls); exact rfl; exact rfl; exact rfl; assumption; exact rfl)
        | ((with_reducible apply LS_buildSlice); exact rfl; exact rfl; exact rfl; exact rfl; exact rfl; exact rfl; exact rfl; intro _)
        | ((with_reducible apply post_seq))
        | ((with_reducible apply post_block_n))
        | ((with_reducible apply CS_skip))
        | ((with_reducible apply CS_cond_d); exact rfl; all_goals intro hb; all_goals try (exfalso; omega))
        | ((with_reducible apply LR_caseg_d); exact rfl; exact rfl; all_goals intro hb; all_goals try (exfalso; omega))
      all_goals (try (exfalso; omega))
      exact post_round (i := (k, p2, g3, c3, zs)) (k + 1, p2 + 1, g4, c4, zs ++ [o1]) ⟨hk, by dsimp only; omega, by dsimp only; omega, by simp; omega, by simpa using e1, e2⟩ (by dsimp only; omega) ⟨rfl, rfl, rfl, by dsimp only; rw [List.length_append]; rfl, rfl, trivial⟩ (fun _ hw => (hw.reord [2, 0] rfl).sub (by repeat (first | exact List.Sublist.refl _ | exact List.nil_sublist _ | apply List.Sublist.cons_cons | apply List.Sublist.cons)))
    · skip
      repeat' first
        | ((with_reducible apply LR_index_clsk k); exact rfl; exact rfl; exact rfl; exact rfl; exact fun w hw => hs2 w (hw.sub (by repeat (first | exact List.Sublist.refl _ | exact List.nil_sublist _ | apply List.Sublist.cons_cons | apply List.Sublist.cons))); exact hn2; omega; exact hyk; exact rfl; intro _ _)
        | ((with_reducible apply (LS_callf (f := 79))); exact rfl; exact rfl; exact rfl; exact fun w hw => one_at 1 0 hw rfl rfl rfl rfl (by decide) (by decide) (by decide) hR (by omega) (by omega); rintro o1 _)
        | ((with_reducible apply (LS_append_one 3 0 zs o1)); exact rfl; exact rfl; exact rfl; exact rfl; exact rfl; exact rfl; exact rfl; exact rfl; exact rfl; exact rfl; exact rfl; omega; omega; omega; intro g4 c4 e1 e2)
        | ((with_reducible apply CS_seq))
        | ((with_reducible apply CS_block))
        | ((with_reducible apply CS_region))
        | ((with_reducible apply RR_end))
        | ((with_reducible apply LR_pure); exact rfl; exact rfl; exact rfl)
        | ((with_reducible apply LR_skip); exact rfl; exact rfl)
        | ((with_reducible apply LR_add); exact rfl; exact rfl; exact rfl; exact rfl; omega; omega)
        | ((with_reducible apply LR_sub); exact rfl; exact rfl; exact rfl; exact rfl; omega; omega)
        | ((with_reducible apply LR_quo); exact rfl; exact rfl; exact rfl; exact rfl; omega; omega; omega)
        | ((with_reducible apply LR_field); exact rfl; exact rfl; exact rfl)
        | ((with_reducible apply LR_len); exact rfl; exact rfl; exact rfl)
        | ((with_reducible apply LR_load_cls0); exact rfl; exact rfl; exact rfl; assumption; exact rfl)
        | ((with_reducible apply LS_buildSlice); exact rfl; exact rfl; exact rfl; exact rfl; exact rfl; exact rfl; exact rfl; intro _)
        | ((with_reducible apply post_seq))
        | ((with_reducible apply post_block_n))
        | ((with_reducible apply CS_skip))
        | ((with_reducible apply CS_cond_f); exact rfl)
        | ((with_reducible apply CS_cond_d); exact rfl; all_goals intro hb; all_goals try (exfalso; omega))
        | ((with_reducible apply LR_caseg_d); exact rfl; exact rfl; all_goals intro hb; all_goals try (exfalso; omega))
      all_goals (try (exfalso; omega))
      all_goals exact post_round (i := (k, p2, g3, c3, zs)) (k + 1, p2 + 1, g4, c4, zs ++ [o1]) ⟨hk, by dsimp only; omega, by dsimp only; omega, by simp; omega, by simpa using e1, e2⟩ (by dsimp only; omega) ⟨rfl, rfl, rfl, by dsimp only; rw [List.length_append]; rfl, rfl, trivial⟩ (fun _ hw => (hw.reord [2, 0] rfl).sub (by repeat (first | exact List.Sublist.refl _ | exact List.nil_sublist _ | apply List.Sublist.cons_cons | apply List.Sublist.cons)))
  · skip
    repeat' first
      | ((with_reducible apply (LS_callf (f := 82))); exact rfl; exact rfl; exact rfl; exact fun w hw => spoil_ok w0 _ w g tot bv p2 l hw hR (by omega) (by omega) _ _ _ zs _ (fun w hw => own_sl 0 hw rfl rfl rfl a5 a6) (by omega); rintro ⟨p5, A5, n5, c5, zs5, ent5⟩ ⟨d1, d2, d3, d4⟩)
      | ((with_reducible apply CS_seq))
      | ((with_reducible apply CS_region))
      | ((with_reducible apply RR_end))
      | ((with_reducible apply LR_pure); exact rfl; exact rfl; exact rfl)
      | ((with_reducible apply LR_len); exact rfl; exact rfl; exact rfl)
      | ((with_reducible apply post_seq))
      | ((with_reducible apply post_then_exit))
      | ((with_reducible apply post_block_eq))
      | ((with_reducible apply CS_ret))
      | ((with_reducible apply CS_exit))
      | ((with_reducible apply CS_cond_d); exact rfl; all_goals intro hb; all_goals try (exfalso; omega))
    dsimp only at d1 d2 d3 d4
    apply post_ret1; exact rfl; exact rfl; intro w' hw'; exact ⟨⟨p5, A5, n5, c5, zs5, ent5⟩, ⟨by dsimp only; omega, by dsimp only; omega, by dsimp only; omega, d4⟩, rfl, hw'.sub (by repeat (first | exact List.Sublist.refl _ | exact List.nil_sublist _ | apply List.Sublist.cons_cons | apply List.Sublist.cons))⟩
set_option maxHeartbeats 4000000 in
theorem DrawEffectOf_ok (v : Value) (l : List By) (w : World) (hs : Sl w v l) (hby : BytesOk l) : Calls Try.prog 27 #[v] w
    (fun x w' => ∃ i : Value × List Ar × Value × List Ln × Ru × Value × List Int, (Sl w' i.1 i.2.1 ∧ Sl w' i.2.2.1 i.2.2.2.1 ∧ ROk w' i.2.2.2.2.1 ∧ Sl w' i.2.2.2.2.2.1 i.2.2.2.2.2.2) ∧ x = .returned (.tuple #[i.1, i.2.2.1, ruV i.2.2.2.2.1, i.2.2.2.2.2.1]) ∧ Wd w [] w') := by
  have hml : maxLen = 9223372036854775807 := rfl
  refine enter (vs := [v]) Try.func27 rfl Try.ntmps27 rfl ?_
  repeat' first
    | ((with_reducible apply (LS_callf (f := 53))); exact rfl; exact rfl; exact rfl; exact fun w hw => newReader_ok _ _ w hw v l hs hby; rintro ⟨g, bv, l'⟩ ⟨q1, q2, q3⟩)
    | ((with_reducible apply (LS_callf (f := 54))); exact rfl; exact rfl; exact rfl; exact fun w hw => anyBasket_ok _ _ w g _ bv _ l' (by first | exact hw | exact hw.perm (pull_perm 1 _ _ _ rfl) | exact hw.perm (pull_perm 2 _ _ _ rfl) | exact hw.perm (pull_perm 3 _ _ _ rfl) | exact hw.perm (pull_perm 4 _ _ _ rfl)) ⟨q1, q2, q3⟩ (by omega) (by omega); rintro ⟨p2, A, n, c, xs, ent, g3, c3, ys⟩ ⟨a1, a2, a3, a4, a5, a6, a7, a8, a9, a10⟩; dsimp only at a1 a2 a3 a4 a5 a6 a7 a8 a9 a10 ⊢)
    | ((with_reducible apply (LS_callf (f := 55))); exact rfl; exact rfl; exact rfl; exact fun w hw => anyRule_ok _ _ w g _ bv _ l' (by first | exact hw | exact hw.perm (pull_perm 1 _ _ _ rfl) | exact hw.perm (pull_perm 2 _ _ _ rfl) | exact hw.perm (pull_perm 3 _ _ _ rfl) | exact hw.perm (pull_perm 4 _ _ _ rfl)) ⟨q1, q2, q3⟩ (by omega) (by omega); rintro ⟨p5, x1, x2, x3, x4, x5, x6, x7, ⟨z0, gt, gb, gc, gcs, gcp⟩⟩ ⟨b1, b2, b3, b4, b5⟩; dsimp only [rugR, ruV] at b1 b2 b3 b4 b5 ⊢)
    | ((with_reducible apply CS_seq))
    | ((with_reducible apply CS_region))
    | ((with_reducible apply RR_end))
    | ((with_reducible apply LR_pure); exact rfl; exact rfl; exact rfl)
    | ((with_reducible apply LS_alloc); exact rfl; exact rfl; exact rfl; intro _)
    | ((with_reducible apply LS_store_agg 0); exact rfl; exact rfl; exact rfl; exact rfl; exact rfl; exact rfl; exact rfl; exact rfl)
    | ((with_reducible apply post_seq))
  rename_i er ev
  refine CS_regionHi (id := 4) 11 [] (fun i : NmG => [(2, .slice A n c), (3, .slice (some ⟨g3, 0, none⟩) ys.length c3), (4, .pointer (some ⟨er, 0, none⟩)), (5, .slice i.A i.n i.c)]) (fun i => Wd w [rbEn er (⟨x1, x2, x3, x4, x5, x6, x7, ⟨gt, some ⟨gb, 0, none⟩, gcs.length, gc, gcs, gcp⟩⟩ : Ru), i.ent, spE gb gc gcs, lnE g3 c3 ys, ent]) (fun i => ∀ w, i.ent.At w → Sl w (.slice i.A i.n i.c) i.zs) (by kernel_rfl) rfl (by rfl) ?_ ?_
  · skip
    repeat' first
      | ((with_reducible apply (RH_take 0)); exact rfl; kernel_rfl; decide +kernel; decide +kernel; (first | exact fun _ hw => hw | exact fun _ hw => hw.sub (by repeat (first | exact List.Sublist.refl _ | exact List.nil_sublist _ | apply List.Sublist.cons_cons | apply List.Sublist.cons)) | exact fun _ hw => (hw.perm (pull_perm 1 _ _ _ rfl)).sub (by repeat (first | exact List.Sublist.refl _ | exact List.nil_sublist _ | apply List.Sublist.cons_cons | apply List.Sublist.cons)) | exact fun _ hw => (hw.perm (pull_perm 2 _ _ _ rfl)).sub (by repeat (first | exact List.Sublist.refl _ | exact List.nil_sublist _ | apply List.Sublist.cons_cons | apply List.Sublist.cons)) | exact fun _ hw => (hw.perm (pull_perm 3 _ _ _ rfl)).sub (by repeat (first | exact List.Sublist.refl _ | exact List.nil_sublist _ | apply List.Sublist.cons_cons | apply List.Sublist.cons)) | exact fun _ hw => (hw.perm (pull_perm 4 _ _ _ rfl)).sub (by repeat (first | exact List.Sublist.refl _ | exact List.nil_sublist _ | apply List.Sublist.cons_cons | apply List.Sublist.cons))))
      | ((with_reducible apply (RH_take 1)); exact rfl; kernel_rfl; decide +kernel; decide +kernel; (first | exact fun _ hw => hw | exact fun _ hw => hw.sub (by repeat (first | exact List.Sublist.refl _ | exact List.nil_sublist _ | apply List.Sublist.cons_cons | apply List.Sublist.cons)) | exact fun _ hw => (hw.perm (pull_perm 1 _ _ _ rfl)).sub (by repeat (first | exact List.Sublist.refl _ | exact List.nil_sublist _ | apply List.Sublist.cons_cons | apply List.Sublist.cons)) | exact fun _ hw => (hw.perm (pull_perm 2 _ _ _ rfl)).sub (by repeat (first | exact List.Sublist.refl _ | exact List.nil_sublist _ | apply List.Sublist.cons_cons | apply List.Sublist.cons)) | exact fun _ hw => (hw.perm (pull_perm 3 _ _ _ rfl)).sub (by repeat (first | exact List.Sublist.refl _ | exact List.nil_sublist _ | apply List.Sublist.cons_cons | apply List.Sublist.cons)) | exact fun _ hw => (hw.perm (pull_perm 4 _ _ _ rfl)).sub (by repeat (first | exact List.Sublist.refl _ | exact List.nil_sublist _ | apply List.Sublist.cons_cons | apply List.Sublist.cons))))
      | ((with_reducible apply (RH_take 3)); exact rfl; kernel_rfl; decide +kernel; decide +kernel; (first | exact fun _ hw => hw | exact fun _ hw => hw.sub (by repeat (first | exact List.Sublist.refl _ | exact List.nil_sublist _ | apply List.Sublist.cons_cons | apply List.Sublist.cons)) | exact fun _ hw => (hw.perm (pull_perm 1 _ _ _ rfl)).sub (by repeat (first | exact List.Sublist.refl _ | exact List.nil_sublist _ | apply List.Sublist.cons_cons | apply List.Sublist.cons)) | exact fun _ hw => (hw.perm (pull_perm 2 _ _ _ rfl)).sub (by repeat (first | exact List.Sublist.refl _ | exact List.nil_sublist _ | apply List.Sublist.cons_cons | apply List.Sublist.cons)) | exact fun _ hw => (hw.perm (pull_perm 3 _ _ _ rfl)).sub (by repeat (first | exact List.Sublist.refl _ | exact List.nil_sublist _ | apply List.Sublist.cons_cons | apply List.Sublist.cons)) | exact fun _ hw => (hw.perm (pull_perm 4 _ _ _ rfl)).sub (by repeat (first | exact List.Sublist.refl _ | exact List.nil_sublist _ | apply List.Sublist.cons_cons | apply List.Sublist.cons))))
      | ((with_reducible apply (RH_take 4)); exact rfl; kernel_rfl; decide +kernel; decide +kernel; (first | exact fun _ hw => hw | exact fun _ hw => hw.sub (by repeat (first | exact List.Sublist.refl _ | exact List.nil_sublist _ | apply List.Sublist.cons_cons | apply List.Sublist.cons)) | exact fun _ hw => (hw.perm (pull_perm 1 _ _ _ rfl)).sub (by repeat (first | exact List.Sublist.refl _ | exact List.nil_sublist _ | apply List.Sublist.cons_cons | apply List.Sublist.cons)) | exact fun _ hw => (hw.perm (pull_perm 2 _ _ _ rfl)).sub (by repeat (first | exact List.Sublist.refl _ | exact List.nil_sublist _ | apply List.Sublist.cons_cons | apply List.Sublist.cons)) | exact fun _ hw => (hw.perm (pull_perm 3 _ _ _ rfl)).sub (by repeat (first | exact List.Sublist.refl _ | exact List.nil_sublist _ | apply List.Sublist.cons_cons | apply List.Sublist.cons)) | exact fun _ hw => (hw.perm (pull_perm 4 _ _ _ rfl)).sub (by repeat (first | exact List.Sublist.refl _ | exact List.nil_sublist _ | apply List.Sublist.cons_cons | apply List.Sublist.cons))))
      | ((with_reducible apply (RH_take 5)); exact rfl; kernel_rfl; decide +kernel; decide +kernel; (first | exact fun _ hw => hw | exact fun _ hw => hw.sub (by repeat (first | exact List.Sublist.refl _ | exact List.nil_sublist _ | apply List.Sublist.cons_cons | apply List.Sublist.cons)) | exact fun _ hw => (hw.perm (pull_perm 1 _ _ _ rfl)).sub (by repeat (first | exact List.Sublist.refl _ | exact List.nil_sublist _ | apply List.Sublist.cons_cons | apply List.Sublist.cons)) | exact fun _ hw => (hw.perm (pull_perm 2 _ _ _ rfl)).sub (by repeat (first | exact List.Sublist.refl _ | exact List.nil_sublist _ | apply List.Sublist.cons_cons | apply List.Sublist.cons)) | exact fun _ hw => (hw.perm (pull_perm 3 _ _ _ rfl)).sub (by repeat (first | exact List.Sublist.refl _ | exact List.nil_sublist _ | apply List.Sublist.cons_cons | apply List.Sublist.cons)) | exact fun _ hw => (hw.perm (pull_perm 4 _ _ _ rfl)).sub (by repeat (first | exact List.Sublist.refl _ | exact List.nil_sublist _ | apply List.Sublist.cons_cons | apply List.Sublist.cons))))
      | ((with_reducible apply (RH_take 7)); exact rfl; kernel_rfl; decide +kernel; decide +kernel; (first | exact fun _ hw => hw | exact fun _ hw => hw.sub (by repeat (first | exact List.Sublist.refl _ | exact List.nil_sublist _ | apply List.Sublist.cons_cons | apply List.Sublist.cons)) | exact fun _ hw => (hw.perm (pull_perm 1 _ _ _ rfl)).sub (by repeat (first | exact List.Sublist.refl _ | exact List.nil_sublist _ | apply List.Sublist.cons_cons | apply List.Sublist.cons)) | exact fun _ hw => (hw.perm (pull_perm 2 _ _ _ rfl)).sub (by repeat (first | exact List.Sublist.refl _ | exact List.nil_sublist _ | apply List.Sublist.cons_cons | apply List.Sublist.cons)) | exact fun _ hw => (hw.perm (pull_perm 3 _ _ _ rfl)).sub (by repeat (first | exact List.Sublist.refl _ | exact List.nil_sublist _ | apply List.Sublist.cons_cons | apply List.Sublist.cons)) | exact fun _ hw => (hw.perm (pull_perm 4 _ _ _ rfl)).sub (by repeat (first | exact List.Sublist.refl _ | exact List.nil_sublist _ | apply List.Sublist.cons_cons | apply List.Sublist.cons))))
      | ((with_reducible apply (RH_take 8)); exact rfl; kernel_rfl; decide +kernel; decide +kernel; (first | exact fun _ hw => hw | exact fun _ hw => hw.sub (by repeat (first | exact List.Sublist.refl _ | exact List.nil_sublist _ | apply List.Sublist.cons_cons | apply List.Sublist.cons)) | exact fun _ hw => (hw.perm (pull_perm 1 _ _ _ rfl)).sub (by repeat (first | exact List.Sublist.refl _ | exact List.nil_sublist _ | apply List.Sublist.cons_cons | apply List.Sublist.cons)) | exact fun _ hw => (hw.perm (pull_perm 2 _ _ _ rfl)).sub (by repeat (first | exact List.Sublist.refl _ | exact List.nil_sublist _ | apply List.Sublist.cons_cons | apply List.Sublist.cons)) | exact fun _ hw => (hw.perm (pull_perm 3 _ _ _ rfl)).sub (by repeat (first | exact List.Sublist.refl _ | exact List.nil_sublist _ | apply List.Sublist.cons_cons | apply List.Sublist.cons)) | exact fun _ hw => (hw.perm (pull_perm 4 _ _ _ rfl)).sub (by repeat (first | exact List.Sublist.refl _ | exact List.nil_sublist _ | apply List.Sublist.cons_cons | apply List.Sublist.cons))))
      | ((with_reducible apply (RH_take 10)); exact rfl; kernel_rfl; decide +kernel; decide +kernel; (first | exact fun _ hw => hw | exact fun _ hw => hw.sub (by repeat (first | exact List.Sublist.refl _ | exact List.nil_sublist _ | apply List.Sublist.cons_cons | apply List.Sublist.cons)) | exact fun _ hw => (hw.perm (pull_perm 1 _ _ _ rfl)).sub (by repeat (first | exact List.Sublist.refl _ | exact List.nil_sublist _ | apply List.Sublist.cons_cons | apply List.Sublist.cons)) | exact fun _ hw => (hw.perm (pull_perm 2 _ _ _ rfl)).sub (by repeat (first | exact List.Sublist.refl _ | exact List.nil_sublist _ | apply List.Sublist.cons_cons | apply List.Sublist.cons)) | exact fun _ hw => (hw.perm (pull_perm 3 _ _ _ rfl)).sub (by repeat (first | exact List.Sublist.refl _ | exact List.nil_sublist _ | apply List.Sublist.cons_cons | apply List.Sublist.cons)) | exact fun _ hw => (hw.perm (pull_perm 4 _ _ _ rfl)).sub (by repeat (first | exact List.Sublist.refl _ | exact List.nil_sublist _ | apply List.Sublist.cons_cons | apply List.Sublist.cons))))
      | ((with_reducible apply (RH_step 2)); decide +kernel; exact rfl)
      | ((with_reducible apply (RH_step 6)); decide +kernel; exact rfl)
      | ((with_reducible apply (RH_step 9)); decide +kernel; exact rfl)
      | ((with_reducible apply (RH_step2 2 6)); decide +kernel; exact rfl; exact rfl)
      | ((with_reducible apply RH_done); decide +kernel)
      | ((with_reducible apply post_take))
      | ((with_reducible apply post_step); (first | exact fun _ hw => hw | exact fun _ hw => hw.sub (by repeat (first | exact List.Sublist.refl _ | exact List.nil_sublist _ | apply List.Sublist.cons_cons | apply List.Sublist.cons)) | exact fun _ hw => (hw.perm (pull_perm 1 _ _ _ rfl)).sub (by repeat (first | exact List.Sublist.refl _ | exact List.nil_sublist _ | apply List.Sublist.cons_cons | apply List.Sublist.cons)) | exact fun _ hw => (hw.perm (pull_perm 2 _ _ _ rfl)).sub (by repeat (first | exact List.Sublist.refl _ | exact List.nil_sublist _ | apply List.Sublist.cons_cons | apply List.Sublist.cons)) | exact fun _ hw => (hw.perm (pull_perm 3 _ _ _ rfl)).sub (by repeat (first | exact List.Sublist.refl _ | exact List.nil_sublist _ | apply List.Sublist.cons_cons | apply List.Sublist.cons)) | exact fun _ hw => (hw.perm (pull_perm 4 _ _ _ rfl)).sub (by repeat (first | exact List.Sublist.refl _ | exact List.nil_sublist _ | apply List.Sublist.cons_cons | apply List.Sublist.cons))))
      | ((with_reducible apply (LS_callf (f := 56))); exact rfl; exact rfl; exact rfl; exact fun w hw => someLeft_ok _ _ w g _ bv _ l' (by first | exact hw | exact hw.perm (pull_perm 1 _ _ _ rfl) | exact hw.perm (pull_perm 2 _ _ _ rfl) | exact hw.perm (pull_perm 3 _ _ _ rfl) | exact hw.perm (pull_perm 4 _ _ _ rfl)) ⟨q1, q2, q3⟩ (by omega) (by omega) A _ n c ys.length c3 xs ys a3 rfl a4 a7 a5 a10 (fun w hw => by first | exact a6 _ (hw.picks [0] rfl).head | exact a6 _ (hw.picks [1] rfl).head | exact a6 _ (hw.picks [2] rfl).head | exact a6 _ (hw.picks [3] rfl).head | exact a6 _ (hw.picks [4] rfl).head) (fun w hw => by first | exact own_sl 0 hw rfl rfl rfl a8 a9 | exact own_sl 1 hw rfl rfl rfl a8 a9 | exact own_sl 2 hw rfl rfl rfl a8 a9 | exact own_sl 3 hw rfl rfl rfl a8 a9 | exact own_sl 4 hw rfl rfl rfl a8 a9); rintro ⟨p6, A6, n6, c6, zs6, ent6⟩ ⟨d1, d2, d3, d4⟩; dsimp only at d1 d2 d3 d4 ⊢)
      | ((with_reducible apply RR_end))
      | ((with_reducible apply LR_pure); exact rfl; exact rfl; exact rfl)
      | ((with_reducible apply LR_load_own_agg 0); exact rfl; exact rfl; exact rfl; exact rfl; exact rfl)
      | ((with_reducible apply LR_load_own_agg 2); exact rfl; exact rfl; exact rfl; exact rfl; exact rfl)
      | ((with_reducible apply LS_store_agg 6); exact rfl; exact rfl; exact rfl; exact rfl; exact rfl; exact rfl; exact rfl; exact rfl)
    all_goals exact post_cut ⟨p6, A6, n6, c6, zs6, ent6⟩ d4 ⟨rfl, rfl, rfl, rfl, trivial⟩ (fun _ hw => by first | exact hw.picks [0, 1, 2, 2, 2] rfl | exact hw.picks [2, 1, 2, 2, 2] rfl | exact hw.picks [0, 2, 2, 2, 2] rfl)
  · rintro ⟨p6, A6, n6, c6, zs6, ent6⟩ d4
    dsimp only at d4 ⊢
    repeat' first
      | ((with_reducible apply post_seq))
      | ((with_reducible apply CS_ret))
    refine post_ret_ttct 0 rfl rfl rfl rfl rfl rfl rfl fun w' hw' => ?_
    exact ⟨(_, xs, _, ys, (⟨x1, x2, x3, x4, x5, x6, x7, ⟨gt, some ⟨gb, 0, none⟩, gcs.length, gc, gcs, gcp⟩⟩ : Ru), _, zs6), ⟨a6 _ (hw'.picks [4] rfl).head, own_sl 3 hw' rfl rfl rfl a8 a9, own_sl 2 hw' rfl rfl rfl (by omega) (by omega), d4 _ (hw'.picks [1] rfl).head⟩, rfl, hw'.nil⟩
end Go.Proofs.Ytaggfcghkfkngaa
