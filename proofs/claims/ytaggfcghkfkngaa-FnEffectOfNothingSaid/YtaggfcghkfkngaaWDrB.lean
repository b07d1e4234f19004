/- The walks of the reference's generators of shops and carts. No condition beyond those that each theorem states. -/
import Derived.Test.YtaggfcghkfkngaaPCa
import Derived.Test.YtaggfcghkfkngaaWDrN
namespace Go.Proofs.Ytaggfcghkfkngaa
open Go.RowKit
attribute [local irreducible] Calls
def arB (a : Ar) : Prop := 0 ≤ a.price ∧ a.price ≤ 5001
def lnB (x : Ln) : Prop := -1 ≤ x.art ∧ x.art ≤ 10 ∧ 0 ≤ x.cnt ∧ x.cnt ≤ 21
/-- a shop in an own block -/
structure ShG where
  p : Int
  g : Nat
  c : Nat
  xs : List Ar
theorem all_snoc {α : Type} {p : α → Prop} {l : List α} {x : α} (h : ∀ y ∈ l, p y) (hx : p x) : ∀ y ∈ l ++ [x], p y := fun y hy => by
  rcases List.mem_append.1 hy with hy | hy
  · exact h y hy
  · cases List.mem_singleton.1 hy; exact hx
theorem all_set {α : Type} {p : α → Prop} {l : List α} {k : Nat} {x : α} (h : ∀ y ∈ l, p y) (hx : p x) : ∀ y ∈ l.set k x, p y := fun y hy => by
  rcases List.mem_or_eq_of_mem_set hy with hy | rfl
  · exact h y hy
  · exact hx
theorem someShop_ok (w0 : World) (h : List Ent) (w : World) (g tot : Nat) (bv : Value) (p : Int) (l : List By) (hw : Wd w0 (rdE g tot bv p :: h) w) (hR : Rd4 w0 g tot bv l) (h0 : 0 ≤ p) (h1 : p ≤ 900000) : Calls Try.prog 93 #[.pointer (some ⟨g, 0, none⟩)] w
    (fun x w' => ∃ i : ShG, (p ≤ i.p ∧ i.p ≤ p + 41 ∧ 1 ≤ i.xs.length ∧ i.xs.length ≤ 10 ∧ i.xs.length ≤ i.c ∧ i.c ≤ maxLen ∧ ∀ a ∈ i.xs, arB a) ∧ x = .returned (.slice (some ⟨i.g, 0, none⟩) i.xs.length i.c) ∧ Wd w0 (rdE g tot bv i.p :: arE i.g i.c i.xs :: h) w') := by
  have hml : maxLen = 9223372036854775807 := rfl
  refine enter_in (vs := [.pointer (some ⟨g, 0, none⟩)]) hw Try.func93 rfl Try.ntmps93 rfl ?_
  repeat' first
    | ((with_reducible apply (LS_callf (f := 79))); exact rfl; exact rfl; exact rfl; exact fun w hw => one_at (xs := [4, 6, 3, 8, 1, 10]) 2 0 hw rfl rfl rfl rfl (by decide) (by decide) (by decide) hR (by omega) (by omega); rintro ox hx; have hxb := mem_bd hx (1) (10) (by decide))
    | ((with_reducible apply CS_seq))
    | ((with_reducible apply CS_block))
    | ((with_reducible apply CS_region))
    | ((with_reducible apply RR_end))
    | ((with_reducible apply LR_pure); exact rfl; exact rfl; exact rfl)
    | ((with_reducible apply LS_buildSlice); exact rfl; exact rfl; exact rfl; exact rfl; exact rfl; exact rfl; exact rfl; intro _)
    | ((with_reducible apply post_seq))
  rename_i g2 g9
  refine CS_loop (ι := Int × ShG) (fun i => [(0, .pointer (some ⟨g, 0, none⟩)), (3, .slice (some ⟨i.2.g, 0, none⟩) i.2.xs.length i.2.c), (4, .int .i64 i.1)]) (fun i => Wd w0 (rdE g tot bv i.2.p :: arE i.2.g i.2.c i.2.xs :: h)) (fun i => 0 ≤ i.1 ∧ i.1 ≤ 10 ∧ p ≤ i.2.p ∧ i.2.p ≤ p + 1 + 4 * (10 - i.1) ∧ i.2.xs.length + i.1 ≤ 10 ∧ 1 ≤ i.2.xs.length + i.1 ∧ i.2.xs.length ≤ i.2.c ∧ i.2.c ≤ maxLen ∧ ∀ a ∈ i.2.xs, arB a) (fun i => i.1.toNat) (ox, ⟨p + 1, g2, 0, []⟩) ⟨by dsimp only; omega, by dsimp only; omega, by dsimp only; omega, by dsimp only; omega, by dsimp only [List.length_nil]; omega, by dsimp only [List.length_nil]; omega, by simp, by simp, by simp⟩ ⟨rfl, rfl, rfl, trivial⟩ (fun _ hw => (hw.reord [0, 1] rfl).sub (by repeat (first | exact List.Sublist.refl _ | exact List.nil_sublist _ | apply List.Sublist.cons_cons | apply List.Sublist.cons))) ?_
  rintro ⟨k, p2, g3, c3, xs⟩ ⟨a1, a2, a3, a4, a5, a6, a7, a8, a9⟩
  dsimp only at a1 a2 a3 a4 a5 a6 a7 a8 a9 ⊢
  by_cases hk : 0 < k
  · skip
    repeat' first
      | ((with_reducible apply (LS_callf (f := 78))); exact rfl; exact rfl; exact rfl; exact fun w hw => pick_at 0 hw rfl hR (by omega) (by omega) (by omega); rintro kx ⟨kx0, kx1, kx2⟩)
      | ((with_reducible apply (LS_callf (f := 79))); exact rfl; exact rfl; exact rfl; exact fun w hw => one_at (xs := [100, 250, 333, 1000, 1, 5000, 799]) 1 0 hw rfl rfl rfl rfl (by decide) (by decide) (by decide) hR (by omega) (by omega); rintro o1 hx; have hxb := mem_bd hx (1) (5000) (by decide))
      | ((have _t := o3); ((with_reducible apply (LS_callf (f := 79))); exact rfl; exact rfl; exact rfl; exact fun w hw => one_at (xs := [100, 500, 0, 2000, 5000]) 1 0 hw rfl rfl rfl rfl (by decide) (by decide) (by decide) hR (by omega) (by omega); rintro o4 hx; have hxb := mem_bd hx (0) (5000) (by decide)))
      | ((with_reducible apply (LS_callf (f := 79))); exact rfl; exact rfl; exact rfl; exact fun w hw => one_at (xs := [190, 70, 0, 300, 190]) 1 0 hw rfl rfl rfl rfl (by decide) (by decide) (by decide) hR (by omega) (by omega); rintro o3 hx; have hxb := mem_bd hx (0) (300) (by decide))
      | ((with_reducible apply (LS_append_one 5 0 xs ⟨o1, kx, o3, o4⟩)); exact rfl; exact rfl; exact rfl; exact rfl; exact rfl; exact rfl; exact rfl; exact rfl; exact rfl; exact rfl; exact rfl; omega; omega; omega; intro g4 c4 e1 e2)
      | ((with_reducible apply CS_seq))
      | ((with_reducible apply CS_block))
      | ((with_reducible apply CS_region))
      | ((with_reducible apply RR_end))
      | ((with_reducible apply LR_pure); exact rfl; exact rfl; exact rfl)
      | ((with_reducible apply LR_sub); exact rfl; exact rfl; exact rfl; exact rfl; omega; omega)
      | ((with_reducible apply LS_buildSlice); exact rfl; exact rfl; exact rfl; exact rfl; exact rfl; exact rfl; exact rfl; intro _)
      | ((with_reducible apply LR_build); exact rfl; exact rfl; exact rfl; exact rfl)
      | ((with_reducible apply post_seq))
      | ((with_reducible apply post_block_n))
      | ((with_reducible apply CS_skip))
      | ((with_reducible apply CS_cond_d); exact rfl; all_goals intro hb; all_goals try (exfalso; omega))
    exact post_round (i := (k, ⟨p2, g3, c3, xs⟩)) (k - 1, ⟨p2 + 1 + 1 + 1 + 1, g4, c4, xs ++ [⟨o1, kx, o3, o4⟩]⟩) ⟨by dsimp only; omega, by dsimp only; omega, by dsimp only; omega, by dsimp only; omega, by simp only [List.length_append, List.length_singleton]; omega, by simp only [List.length_append, List.length_singleton]; omega, by simp only [List.length_append, List.length_singleton]; omega, e2, all_snoc a9 (by unfold arB; dsimp only; omega)⟩ (by dsimp only; omega) ⟨rfl, by dsimp only; rw [List.length_append]; rfl, rfl, trivial⟩ (fun _ hw => (hw.reord [2, 0] rfl).sub (by repeat (first | exact List.Sublist.refl _ | exact List.nil_sublist _ | apply List.Sublist.cons_cons | apply List.Sublist.cons)))
  · skip
    repeat' first
      | ((with_reducible apply CS_seq))
      | ((with_reducible apply CS_region))
      | ((with_reducible apply RR_end))
      | ((with_reducible apply LR_pure); exact rfl; exact rfl; exact rfl)
      | ((with_reducible apply post_seq))
      | ((with_reducible apply post_then_exit))
      | ((with_reducible apply post_block_eq))
      | ((with_reducible apply CS_ret))
      | ((with_reducible apply CS_exit))
      | ((with_reducible apply CS_cond_d); exact rfl; all_goals intro hb; all_goals try (exfalso; omega))
    apply post_ret1; exact rfl; exact rfl; intro w' hw'; exact ⟨⟨_, _, _, _⟩, ⟨a3, by dsimp only; omega, by dsimp only; omega, by dsimp only; omega, a7, a8, a9⟩, rfl, hw'⟩
/-- a slice that lies in an own block, or is nil -/
structure SlG (α : Type) where
  p : Int
  A : Option Addr
  n : Nat
  c : Nat
  xs : List α
  ent : Ent
set_option maxHeartbeats 4000000 in
theorem anyShop_ok (w0 : World) (h : List Ent) (w : World) (g tot : Nat) (bv : Value) (p : Int) (l : List By) (hw : Wd w0 (rdE g tot bv p :: h) w) (hR : Rd4 w0 g tot bv l) (h0 : 0 ≤ p) (h1 : p ≤ 900000) : Calls Try.prog 76 #[.pointer (some ⟨g, 0, none⟩)] w
    (fun x w' => ∃ i : SlG Ar, (p ≤ i.p ∧ i.p ≤ p + 46 ∧ i.n = i.xs.length ∧ i.xs.length ≤ 10 ∧ (∀ a ∈ i.xs, arB a) ∧ (∀ w, i.ent.At w → Sl w (.slice i.A i.n i.c) i.xs)) ∧ x = .returned (.slice i.A i.n i.c) ∧ Wd w0 (rdE g tot bv i.p :: i.ent :: h) w') := by
  have hml : maxLen = 9223372036854775807 := rfl
  refine enter_in (vs := [.pointer (some ⟨g, 0, none⟩)]) hw Try.func76 rfl Try.ntmps76 rfl ?_
  repeat' first
    | ((with_reducible apply (LS_callf (f := 93))); exact rfl; exact rfl; exact rfl; exact fun w hw => someShop_ok w0 h w g tot bv p l hw hR h0 (by omega); rintro ⟨p2, g3, c3, xs⟩ ⟨a1, a2, a3, a4, a5, a6, a7⟩; dsimp only at a1 a2 a3 a4 a5 a6 a7 ⊢)
    | ((with_reducible apply (LS_callf (f := 78))); exact rfl; exact rfl; exact rfl; exact fun w hw => pick_at 0 hw rfl hR (by omega) (by omega) (by omega); rintro kx ⟨kx0, kx1, kx2⟩)
    | ((with_reducible apply (LS_callf (f := 79))); exact rfl; exact rfl; exact rfl; exact fun w hw => one_at (xs := [0, 5001, 1]) 1 0 hw rfl rfl rfl rfl (by decide) (by decide) (by decide) hR (by omega) (by omega); rintro o1 hx; have hxb := mem_bd hx (0) (5001) (by decide))
    | ((with_reducible apply (LS_callf (f := 79))); exact rfl; exact rfl; exact rfl; exact fun w hw => one_at (xs := [0, 3, -1]) 1 0 hw rfl rfl rfl rfl (by decide) (by decide) (by decide) hR (by omega) (by omega); rintro o2 hx; have hxb := mem_bd hx (-1) (3) (by decide))
    | ((have _t := o3); ((with_reducible apply (LS_callf (f := 79))); exact rfl; exact rfl; exact rfl; exact fun w hw => one_at (xs := [0, 5001]) 1 0 hw rfl rfl rfl rfl (by decide) (by decide) (by decide) hR (by omega) (by omega); rintro o4 hx; have hxb := mem_bd hx (0) (5001) (by decide)))
    | ((with_reducible apply (LS_callf (f := 79))); exact rfl; exact rfl; exact rfl; exact fun w hw => one_at (xs := [0, 301]) 1 0 hw rfl rfl rfl rfl (by decide) (by decide) (by decide) hR (by omega) (by omega); rintro o3 hx; have hxb := mem_bd hx (0) (301) (by decide))
    | ((with_reducible apply (LR_index_own 0)); exact rfl; exact rfl; exact rfl; exact rfl; omega; omega)
    | ((with_reducible apply (LS_store_agg 5)); exact rfl; exact rfl; exact rfl; exact rfl; exact rfl; exact rfl; exact rfl; exact putF_set xs 0 ⟨_, _, _, _⟩ (by omega))
    | ((with_reducible apply CS_seq))
    | ((with_reducible apply CS_block))
    | ((with_reducible apply CS_region))
    | ((with_reducible apply RR_end))
    | ((with_reducible apply LR_pure); exact rfl; exact rfl; exact rfl)
    | ((with_reducible apply LS_buildSlice); exact rfl; exact rfl; exact rfl; exact rfl; exact rfl; exact rfl; exact rfl; intro _)
    | ((with_reducible apply LR_build); exact rfl; exact rfl; exact rfl; exact rfl)
    | ((with_reducible apply post_seq))
    | ((with_reducible apply post_block_n))
    | ((with_reducible apply CS_skip))
    | ((with_reducible apply CS_ret))
    | ((with_reducible apply CS_cond_d); exact rfl; all_goals intro hb; all_goals try (exfalso; omega))
  all_goals (apply post_ret1; exact rfl; exact rfl; intro w' hw')
  · exact ⟨⟨p2 + 1 + 1 + 1 + 1 + 1, _, _, c3, xs.set 0 ⟨o1, o2, o3, o4⟩, arE g3 c3 (xs.set 0 ⟨o1, o2, o3, o4⟩)⟩, ⟨by dsimp only; omega, by dsimp only; omega, by simp, by simp; omega, all_set a7 (by unfold arB; dsimp only; omega), fun w hw => hw.sl rfl (by simp) a5 a6⟩, rfl, by first | exact (hw'.reord [1, 0] rfl).sub (by repeat (first | exact List.Sublist.refl _ | exact List.nil_sublist _ | apply List.Sublist.cons_cons | apply List.Sublist.cons)) | exact (hw'.reord [0, 0] rfl).sub (by repeat (first | exact List.Sublist.refl _ | exact List.nil_sublist _ | apply List.Sublist.cons_cons | apply List.Sublist.cons))⟩
  · exact ⟨⟨p2 + 1, none, 0, 0, [], arE g3 c3 xs⟩, ⟨by dsimp only; omega, by dsimp only; omega, rfl, by simp, by simp, fun w hw => Sl.nil w⟩, rfl, hw'⟩
  · exact ⟨⟨p2 + 1, _, _, c3, xs, arE g3 c3 xs⟩, ⟨by dsimp only; omega, by dsimp only; omega, rfl, by dsimp only; omega, a7, fun w hw => hw.sl rfl rfl a5 a6⟩, rfl, hw'⟩
/-- a cart in an own block -/
structure CtG where
  p : Int
  g : Nat
  c : Nat
  xs : List Ln
set_option maxHeartbeats 4000000 in
theorem someCart_ok (w0 : World) (h : List Ent) (w : World) (g tot : Nat) (bv : Value) (p : Int) (l : List By) (hw : Wd w0 (rdE g tot bv p :: h) w) (hR : Rd4 w0 g tot bv l) (h0 : 0 ≤ p) (h1 : p ≤ 900000) (A : Option Addr) (n c : Nat) (hn : n ≤ 10) : Calls Try.prog 77 #[.pointer (some ⟨g, 0, none⟩), .slice A n c] w
    (fun x w' => ∃ i : CtG, (p ≤ i.p ∧ i.p ≤ p + 20 ∧ i.xs.length ≤ 8 ∧ i.xs.length ≤ i.c ∧ i.c ≤ maxLen ∧ ∀ y ∈ i.xs, lnB y) ∧ x = .returned (.slice (some ⟨i.g, 0, none⟩) i.xs.length i.c) ∧ Wd w0 (rdE g tot bv i.p :: lnE i.g i.c i.xs :: h) w') := by
  have hml : maxLen = 9223372036854775807 := rfl
  refine enter_in (vs := [.pointer (some ⟨g, 0, none⟩), .slice A n c]) hw Try.func77 rfl Try.ntmps77 rfl ?_
  repeat' first
    | ((with_reducible apply CS_seq))
    | ((with_reducible apply CS_block))
    | ((with_reducible apply CS_region))
    | ((with_reducible apply RR_end))
    | ((with_reducible apply LR_pure); exact rfl; exact rfl; exact rfl)
    | ((with_reducible apply LS_buildSlice); exact rfl; exact rfl; exact rfl; exact rfl; exact rfl; exact rfl; exact rfl; intro _)
    | ((with_reducible apply post_seq))
  rename_i g2
  refine CS_loop (ι := Nat × CtG) (fun i => [(0, .pointer (some ⟨g, 0, none⟩)), (1, .slice A n c), (5, .slice (some ⟨i.2.g, 0, none⟩) i.2.xs.length i.2.c), (6, .int .i64 (i.1 : Int))]) (fun i => Wd w0 (rdE g tot bv i.2.p :: lnE i.2.g i.2.c i.2.xs :: h)) (fun i => i.1 ≤ n ∧ p ≤ i.2.p ∧ i.2.p ≤ p + 2 * i.1 ∧ i.2.xs.length ≤ 8 ∧ i.2.xs.length ≤ i.2.c ∧ i.2.c ≤ maxLen ∧ ∀ y ∈ i.2.xs, lnB y) (fun i => n - i.1) (0, ⟨p, g2, 0, []⟩) ⟨by dsimp only; omega, by dsimp only; omega, by dsimp only; omega, by simp, by simp, by simp, by simp⟩ ⟨rfl, rfl, rfl, rfl, trivial⟩ (fun _ hw => hw.reord [1, 0] rfl) ?_
  rintro ⟨k, p2, g3, c3, xs⟩ ⟨a1, a2, a3, a4, a5, a6, a7⟩
  dsimp only at a1 a2 a3 a4 a5 a6 a7 ⊢
  by_cases hk : k < n ∧ xs.length < 8
  · skip
    repeat' first
      | ((with_reducible apply (LS_callf (f := 78))); exact rfl; exact rfl; exact rfl; exact fun w hw => pick_at 0 hw rfl hR (by omega) (by omega) (by omega); rintro kx ⟨kx0, kx1, kx2⟩)
      | ((with_reducible apply (LS_callf (f := 79))); exact rfl; exact rfl; exact rfl; exact fun w hw => one_at (xs := [1, 2, 3, 5, 20, 4]) 1 0 hw rfl rfl rfl rfl (by decide) (by decide) (by decide) hR (by omega) (by omega); rintro o1 hx; have hxb := mem_bd hx (1) (20) (by decide))
      | ((with_reducible apply (LS_append_one 3 0 xs ⟨(k : Int), o1⟩)); exact rfl; exact rfl; exact rfl; exact rfl; exact rfl; exact rfl; exact rfl; exact rfl; exact rfl; exact rfl; exact rfl; omega; omega; omega; intro g4 c4 e1 e2)
      | ((with_reducible apply CS_seq))
      | ((with_reducible apply CS_block))
      | ((with_reducible apply CS_region))
      | ((with_reducible apply RR_end))
      | ((with_reducible apply LR_pure); exact rfl; exact rfl; exact rfl)
      | ((with_reducible apply LR_add); exact rfl; exact rfl; exact rfl; exact rfl; omega; omega)
      | ((with_reducible apply LR_len); exact rfl; exact rfl; exact rfl)
      | ((with_reducible apply LS_buildSlice); exact rfl; exact rfl; exact rfl; exact rfl; exact rfl; exact rfl; exact rfl; intro _)
      | ((with_reducible apply LR_build); exact rfl; exact rfl; exact rfl; exact rfl)
      | ((with_reducible apply post_seq))
      | ((with_reducible apply post_block_n))
      | ((with_reducible apply CS_skip))
      | ((with_reducible apply CS_cond_d); exact rfl; all_goals intro hb; all_goals try (exfalso; omega))
      | ((with_reducible apply LR_caseg_d); exact rfl; exact rfl; all_goals intro hb; all_goals try (exfalso; omega))
    all_goals (try (exfalso; omega))
    · exact post_round (i := (k, ⟨p2, g3, c3, xs⟩)) (k + 1, ⟨p2 + 1 + 1, g4, c4, xs ++ [⟨(k : Int), o1⟩]⟩) ⟨by dsimp only; omega, by dsimp only; omega, by dsimp only; omega, by simp only [List.length_append, List.length_singleton]; omega, by simp only [List.length_append, List.length_singleton]; omega, e2, all_snoc a7 (by unfold lnB; dsimp only; omega)⟩ (by dsimp only; omega) ⟨rfl, rfl, by dsimp only; rw [List.length_append]; rfl, rfl, trivial⟩ (fun _ hw => (hw.reord [2, 0] rfl).sub (by repeat (first | exact List.Sublist.refl _ | exact List.nil_sublist _ | apply List.Sublist.cons_cons | apply List.Sublist.cons)))
    · exact post_round (i := (k, ⟨p2, g3, c3, xs⟩)) (k + 1, ⟨p2 + 1, g3, c3, xs⟩) ⟨by dsimp only; omega, by dsimp only; omega, by dsimp only; omega, a4, a5, a6, a7⟩ (by dsimp only; omega) ⟨rfl, rfl, rfl, rfl, trivial⟩ (fun _ hw => hw)
  · skip
    repeat' first
      | ((with_reducible apply CS_seq))
      | ((with_reducible apply CS_region))
      | ((with_reducible apply RR_end))
      | ((with_reducible apply LR_pure); exact rfl; exact rfl; exact rfl)
      | ((with_reducible apply LR_skip); exact rfl; exact rfl)
      | ((with_reducible apply LR_len); exact rfl; exact rfl; exact rfl)
      | ((with_reducible apply post_seq))
      | ((with_reducible apply post_then_exit))
      | ((with_reducible apply post_block_eq))
      | ((with_reducible apply CS_ret))
      | ((with_reducible apply CS_exit))
      | ((with_reducible apply CS_cond_f); exact rfl)
      | ((with_reducible apply CS_cond_d); exact rfl; all_goals intro hb; all_goals try (exfalso; omega))
      | ((with_reducible apply LR_caseg_d); exact rfl; exact rfl; all_goals intro hb; all_goals try (exfalso; omega))
    all_goals (try (exfalso; omega))
    all_goals (apply post_ret1; exact rfl; exact rfl; intro w' hw'; exact ⟨⟨_, _, _, _⟩, ⟨a2, by dsimp only; omega, a4, a5, a6, a7⟩, rfl, hw'⟩)
theorem getD_at {α : Type} {l : List α} {d : α} (h : 0 < l.length) : l[0]? = some (l.getD 0 d) := by
  simp [List.getD_eq_getElem?_getD, h]
/-- a shop, and a cart -/
structure BkG2 where
  p : Int
  A : Option Addr
  n : Nat
  c : Nat
  xs : List Ar
  ent : Ent
  g : Nat
  c2 : Nat
  ys : List Ln
set_option maxHeartbeats 4000000 in
theorem anyBasket_ok (w0 : World) (h : List Ent) (w : World) (g tot : Nat) (bv : Value) (p : Int) (l : List By) (hw : Wd w0 (rdE g tot bv p :: h) w) (hR : Rd4 w0 g tot bv l) (h0 : 0 ≤ p) (h1 : p ≤ 800000) : Calls Try.prog 54 #[.pointer (some ⟨g, 0, none⟩)] w
    (fun x w' => ∃ i : BkG2, (p ≤ i.p ∧ i.p ≤ p + 68 ∧ i.n = i.xs.length ∧ i.xs.length ≤ 10 ∧ (∀ a ∈ i.xs, arB a) ∧ (∀ w, i.ent.At w → Sl w (.slice i.A i.n i.c) i.xs) ∧ i.ys.length ≤ 9 ∧ i.ys.length ≤ i.c2 ∧ i.c2 ≤ maxLen ∧ ∀ y ∈ i.ys, lnB y) ∧ x = .returned (.tuple #[.slice i.A i.n i.c, .slice (some ⟨i.g, 0, none⟩) i.ys.length i.c2]) ∧ Wd w0 (rdE g tot bv i.p :: lnE i.g i.c2 i.ys :: i.ent :: h) w') := by
  have hml : maxLen = 9223372036854775807 := rfl
  refine enter_in (vs := [.pointer (some ⟨g, 0, none⟩)]) hw Try.func54 rfl Try.ntmps54 rfl ?_
  repeat' first
    | ((with_reducible apply (LS_callf (f := 76))); exact rfl; exact rfl; exact rfl; exact fun w hw => anyShop_ok w0 h w g tot bv p l hw hR h0 (by omega); rintro ⟨p2, A, n, c, xs, ent⟩ ⟨a1, a2, a3, a4, a5, a6⟩; dsimp only at a1 a2 a3 a4 a5 a6 ⊢)
    | ((with_reducible apply (LS_callf (f := 77))); exact rfl; exact rfl; exact rfl; exact fun w hw => someCart_ok w0 _ w g tot bv _ l hw hR (by omega) (by omega) A n c (by omega); rintro ⟨p3, g3, c3, ys⟩ ⟨b1, b2, b3, b4, b5, b6⟩; dsimp only at b1 b2 b3 b4 b5 b6 ⊢)
    | ((with_reducible apply (LS_callf (f := 78))); exact rfl; exact rfl; exact rfl; exact fun w hw => pick_at 0 hw rfl hR (by omega) (by omega) (by omega); rintro kx ⟨kx0, kx1, kx2⟩)
    | ((with_reducible apply (LS_callf (f := 79))); exact rfl; exact rfl; exact rfl; exact fun w hw => one_at (xs := [0, 10, -1]) 1 0 hw rfl rfl rfl rfl (by decide) (by decide) (by decide) hR (by omega) (by omega); rintro o1 hx; have hxb := mem_bd hx (-1) (10) (by decide))
    | ((with_reducible apply (LS_callf (f := 79))); exact rfl; exact rfl; exact rfl; exact fun w hw => one_at (xs := [0, 21, 20]) 1 0 hw rfl rfl rfl rfl (by decide) (by decide) (by decide) hR (by omega) (by omega); rintro o1 hx; have hxb := mem_bd hx (0) (21) (by decide))
    | ((with_reducible apply (LS_append_one 3 0 ys ⟨o1, 1⟩)); exact rfl; exact rfl; exact rfl; exact rfl; exact rfl; exact rfl; exact rfl; exact rfl; exact rfl; exact rfl; exact rfl; omega; omega; omega; intro g4 c4 e1 e2)
    | ((with_reducible apply (LR_index_own 0)); exact rfl; exact rfl; exact rfl; exact rfl; omega; omega)
    | ((with_reducible apply (LS_store1 2)); exact rfl; exact rfl; exact rfl; exact rfl; exact rfl; exact putF_fld ys 0 (ys.getD 0 ⟨0, 0⟩) ⟨(ys.getD 0 ⟨0, 0⟩).art, o1⟩ 1 _ (getD_at (by omega)) (by decide) rfl)
    | ((with_reducible apply CS_seq))
    | ((with_reducible apply CS_block))
    | ((with_reducible apply CS_region))
    | ((with_reducible apply RR_end))
    | ((with_reducible apply LR_pure); exact rfl; exact rfl; exact rfl)
    | ((with_reducible apply LR_field_own); exact rfl; exact rfl; exact rfl)
    | ((with_reducible apply LR_len); exact rfl; exact rfl; exact rfl)
    | ((with_reducible apply LS_buildSlice); exact rfl; exact rfl; exact rfl; exact rfl; exact rfl; exact rfl; exact rfl; intro _)
    | ((with_reducible apply LR_build); exact rfl; exact rfl; exact rfl; exact rfl)
    | ((with_reducible apply post_seq))
    | ((with_reducible apply post_block_n))
    | ((with_reducible apply CS_skip))
    | ((with_reducible apply CS_ret))
    | ((with_reducible apply CS_cond_d); exact rfl; all_goals intro hb; all_goals try (exfalso; omega))
  all_goals (apply post_ret2; exact rfl; exact rfl; exact rfl; intro w' hw')
  · exact ⟨⟨p3 + 1 + 1, A, n, c, xs, ent, g4, c4, ys ++ [⟨o1, 1⟩]⟩, ⟨by dsimp only; omega, by dsimp only; omega, a3, a4, a5, a6, by simp; omega, by simpa using e1, e2, all_snoc b6 (by unfold lnB; dsimp only; omega)⟩, by simp, (hw'.reord [2, 0] rfl).sub (by repeat (first | exact List.Sublist.refl _ | exact List.nil_sublist _ | apply List.Sublist.cons_cons | apply List.Sublist.cons))⟩
  · have hy := b6 _ (List.mem_of_getElem? (getD_at (l := ys) (d := ⟨0, 0⟩) (by omega)))
    exact ⟨⟨p3 + 1 + 1, A, n, c, xs, ent, g3, c3, ys.set 0 ⟨(ys.getD 0 ⟨0, 0⟩).art, o1⟩⟩, ⟨by dsimp only; omega, by dsimp only; omega, a3, a4, a5, a6, by simp; omega, by simp; omega, b5, all_set b6 (by unfold lnB at *; dsimp only; omega)⟩, by simp, (hw'.reord [1, 0] rfl).sub (by repeat (first | exact List.Sublist.refl _ | exact List.nil_sublist _ | apply List.Sublist.cons_cons | apply List.Sublist.cons))⟩
  all_goals exact ⟨⟨p3 + 1, A, n, c, xs, ent, g3, c3, ys⟩, ⟨by dsimp only; omega, by dsimp only; omega, a3, a4, a5, a6, by dsimp only; omega, b4, b5, b6⟩, rfl, hw'⟩
end Go.Proofs.Ytaggfcghkfkngaa
