/- The walks of the helpers that compare and mark points and rules. No condition beyond those that each theorem states. -/
import Derived.Test.YtaggfcghkfkngaaWExR
import Derived.Test.YtaggfcghkfkngaaPPt
namespace Go.Proofs.Ytaggfcghkfkngaa
open Go.RowKit
attribute [local irreducible] Calls
theorem eqPoint_ok (t : Int) (v1 v2 u1 u2 : Value) (l1 l2 : List Int) (w : World) (h1 : Sl w v1 l1) (h2 : Sl w v2 l2) (g1 : Sl w u1 l1) (g2 : Sl w u2 l2) : Calls Try.prog 18 #[ptW t v1 v2, ptW t u1 u2] w (Gives (.bool true) w) := by
  refine enter (vs := [ptW t v1 v2, ptW t u1 u2]) Try.func18 rfl Try.ntmps18 rfl ?_
  repeat' first
    | ((with_reducible apply (LR_call (f := 21))); exact rfl; exact rfl; exact rfl; exact fun w hw => eqIntS_ok v1 u1 l1 w (h1.mono hw) (g1.mono hw))
    | ((with_reducible apply (LR_call (f := 21))); exact rfl; exact rfl; exact rfl; exact fun w hw => eqIntS_ok v2 u2 l2 w (h2.mono hw) (g2.mono hw))
    | ((with_reducible apply CS_seq))
    | ((with_reducible apply CS_region))
    | ((with_reducible apply RR_end))
    | ((with_reducible apply LR_pure); exact rfl; exact rfl; exact rfl)
    | ((with_reducible apply LR_field_own); exact rfl; exact rfl; exact rfl)
    | ((with_reducible apply LR_load_own 0); exact rfl; exact rfl; exact rfl; exact rfl; exact rfl)
    | ((with_reducible apply LR_load_own 1); exact rfl; exact rfl; exact rfl; exact rfl; exact rfl)
    | ((with_reducible apply LS_box); exact rfl; exact rfl; exact rfl; exact rfl; intro _)
    | ((with_reducible apply post_seq))
    | ((with_reducible apply CS_skip))
    | ((with_reducible apply CS_ret))
    | ((with_reducible apply CS_cond_f); exact rfl)
    | ((with_reducible apply CS_cond_nd); exact rfl; all_goals intro hb; all_goals try (exfalso; omega))
  all_goals first | (exfalso; contradiction) | (exfalso; omega) | (exfalso; simp at hb <;> omega) | skip
  all_goals (apply ret_bool; exact rfl; exact rfl; rfl)
def mkS (k : Int) (n : Nat) : List Sp := (List.range n).map fun j : Nat => ⟨k + 2 * (j : Int), k + 2 * (j : Int) + 1⟩
theorem mkS_len (k : Int) (n : Nat) : (mkS k n).length = n := by simp [mkS]
theorem mkS_at {k : Int} {n j : Nat} (h : j < n) : (mkS k n)[j]? = some ⟨k + 2 * (j : Int), k + 2 * (j : Int) + 1⟩ := by simp [mkS, h]
theorem markSpanS_ok (w0 : World) (h : List Ent) (w : World) (g c : Nat) (xs : List Sp) (k0 : Int) (hw : Wd w0 (spE g c xs :: h) w) (hx : xs.length ≤ 1000000000) (h0 : 0 ≤ k0) (h1 : k0 ≤ 10000000000) :
    Calls Try.prog 92 #[.slice (some ⟨g, 0, none⟩) xs.length c, .int .i64 k0] w
      (fun x w' => ∃ _ : Unit, True ∧ x = .returned (.int .i64 (k0 + 2 * xs.length)) ∧ Wd w0 (spE g c (mkS k0 xs.length) :: h) w') := by
  have hm := mkS_len k0 xs.length
  refine enter_in (vs := [.slice (some ⟨g, 0, none⟩) xs.length c, .int .i64 k0]) hw Try.func92 rfl Try.ntmps92 rfl ?_
  repeat' first
    | ((with_reducible apply CS_seq))
    | ((with_reducible apply CS_block))
    | ((with_reducible apply CS_region))
    | ((with_reducible apply RR_end))
    | ((with_reducible apply LR_pure); exact rfl; exact rfl; exact rfl)
    | ((with_reducible apply post_seq))
  refine CS_loop (ι := Int) (fun i => [(0, .slice (some ⟨g, 0, none⟩) xs.length c), (1, .int .i64 (k0 + 2 * i)), (5, .int .i64 i)]) (fun i => Wd w0 (spE g c (mix (mkS k0 xs.length) xs i.toNat) :: h)) (fun i => 0 ≤ i ∧ i ≤ xs.length) (fun i => (xs.length - i).toNat) 0 ⟨by omega, by omega⟩ ⟨rfl, by rw [show k0 + 2 * 0 = k0 by omega]; rfl, rfl, trivial⟩ (fun _ hw => by rw [show (0 : Int).toNat = 0 from rfl, mix_zero]; exact hw) ?_
  rintro i ⟨h0, h1⟩
  obtain ⟨k, rfl⟩ : ∃ k : Nat, i = k := ⟨i.toNat, by omega⟩
  simp only [Int.toNat_natCast]
  by_cases hi : k < xs.length
  · have hml := mix_len hm k
    obtain ⟨c0, hc0⟩ : ∃ c, (mix (mkS k0 xs.length) xs k)[k]? = some c := ⟨_, List.getElem?_eq_getElem (show k < (mix (mkS k0 xs.length) xs k).length by omega)⟩
    have hc1 : ((mix (mkS k0 xs.length) xs k).set k ⟨k0 + 2 * (k : Int), c0.hi⟩)[k]? = some ⟨k0 + 2 * (k : Int), c0.hi⟩ := by rw [List.getElem?_set, if_pos rfl, if_pos (by omega)]
    repeat' first
      | ((with_reducible apply (LR_index_own k)); exact rfl; exact rfl; exact rfl; exact rfl; omega; omega)
      | ((with_reducible apply (LS_store1 0)); exact rfl; exact rfl; exact rfl; exact rfl; exact rfl; first | exact putF_fld _ k c0 ⟨k0 + 2 * (k : Int), c0.hi⟩ 0 _ hc0 (by decide) rfl | exact putF_fld _ k ⟨k0 + 2 * (k : Int), c0.hi⟩ ⟨k0 + 2 * (k : Int), k0 + 2 * (k : Int) + 1⟩ 1 _ hc1 (by decide) rfl)
      | ((with_reducible apply CS_seq))
      | ((with_reducible apply CS_block))
      | ((with_reducible apply CS_region))
      | ((with_reducible apply RR_end))
      | ((with_reducible apply LR_pure); exact rfl; exact rfl; exact rfl)
      | ((with_reducible apply LR_add); exact rfl; exact rfl; exact rfl; exact rfl; omega; omega)
      | ((with_reducible apply LR_field_own); exact rfl; exact rfl; exact rfl)
      | ((with_reducible apply LR_len); exact rfl; exact rfl; exact rfl)
      | ((with_reducible apply post_seq))
      | ((with_reducible apply post_block_n))
      | ((with_reducible apply CS_skip))
      | ((with_reducible apply CS_cond_d); exact rfl; all_goals intro hb; all_goals try (exfalso; omega))
    refine post_round (i := (k : Int)) ((k : Int) + 1) ⟨by omega, by omega⟩ (by omega) ⟨rfl, by rw [show k0 + 2 * ((k : Int) + 1) = k0 + 2 * (k : Int) + 1 + 1 by omega]; rfl, rfl, trivial⟩ (fun _ hw => ?_)
    rw [List.set_set, mix_set hm (mkS_at hi)] at hw
    exact hw
  · have he : k = xs.length := by omega
    repeat' first
      | ((with_reducible apply CS_seq))
      | ((with_reducible apply CS_region))
      | ((with_reducible apply RR_end))
      | ((with_reducible apply LR_pure); exact rfl; exact rfl; exact rfl)
      | ((with_reducible apply LR_len); exact rfl; exact rfl; exact rfl)
      | ((with_reducible apply post_seq))
      | ((with_reducible apply post_then_exit))
      | ((with_reducible apply post_block_eq))
      | ((with_reducible apply CS_ret))
      | ((with_reducible apply CS_exit))
      | ((with_reducible apply CS_cond_d); exact rfl; all_goals intro hb; all_goals try (exfalso; omega))
    apply post_ret1; exact rfl; exact rfl; intro w' hw'; refine ⟨(), trivial, by rw [he], ?_⟩
    rw [he, mix_end hm] at hw'
    exact hw'
theorem markGuard_ok (w0 : World) (h : List Ent) (w : World) (r : Gd) (b : Nat) (k0 : Int) (hw : Wd w0 (spE b r.cs.length r.cs :: h) w) (hx : r.cs.length ≤ 1000000000) (h0 : 0 ≤ k0) (h1 : k0 ≤ 10000000000) : Calls Try.prog 69 #[gdV (reG r b), .int .i64 k0] w
      (fun x w' => ∃ _ : Unit, True ∧ x = .returned (.int .i64 (k0 + 2 * r.cs.length)) ∧ Wd w0 (spE b r.cs.length (mkS k0 r.cs.length) :: h) w') := by
  refine enter_in (vs := [gdV (reG r b), .int .i64 k0]) hw Try.func69 rfl Try.ntmps69 rfl ?_
  repeat' first
    | ((with_reducible apply (LS_callf (f := 92))); exact rfl; exact rfl; exact rfl; exact fun w hw => markSpanS_ok w0 _ w b r.cs.length r.cs k0 (hw.perm (pull_perm 1 _ _ _ rfl)) hx h0 h1; rintro _ _)
    | ((with_reducible apply CS_seq))
    | ((with_reducible apply CS_region))
    | ((with_reducible apply RR_end))
    | ((with_reducible apply LR_pure); exact rfl; exact rfl; exact rfl)
    | ((with_reducible apply LR_field_own); exact rfl; exact rfl; exact rfl)
    | ((with_reducible apply LR_load_own 0); exact rfl; exact rfl; exact rfl; exact rfl; exact rfl)
    | ((with_reducible apply LS_box); exact rfl; exact rfl; exact rfl; exact rfl; intro _)
    | ((with_reducible apply post_seq))
    | ((with_reducible apply CS_ret))
  apply post_ret1; exact rfl; exact rfl; intro w' hw'; exact ⟨(), trivial, rfl, hw'.sub (by repeat (first | exact List.Sublist.refl _ | exact List.nil_sublist _ | apply List.Sublist.cons_cons | apply List.Sublist.cons))⟩
theorem markRule_ok (w0 : World) (h : List Ent) (w : World) (r : Ru) (b : Nat) (k0 : Int) (hw : Wd w0 (spE b r.g.cs.length r.g.cs :: h) w) (hx : r.g.cs.length ≤ 1000000000) (h0 : 0 ≤ k0) (h1 : k0 ≤ 10000000000) : Calls Try.prog 36 #[ruV (reR r b), .int .i64 k0] w
      (fun x w' => ∃ _ : Unit, True ∧ x = .returned (.int .i64 (k0 + 2 * r.g.cs.length)) ∧ Wd w0 (spE b r.g.cs.length (mkS k0 r.g.cs.length) :: h) w') := by
  refine enter_in (vs := [ruV (reR r b), .int .i64 k0]) hw Try.func36 rfl Try.ntmps36 rfl ?_
  repeat' first
    | ((with_reducible apply (LS_callf (f := 69))); exact rfl; exact rfl; exact rfl; exact fun w hw => markGuard_ok w0 _ w r.g b k0 (hw.perm (pull_perm 1 _ _ _ rfl)) hx h0 h1; rintro _ _)
    | ((with_reducible apply CS_seq))
    | ((with_reducible apply CS_region))
    | ((with_reducible apply RR_end))
    | ((with_reducible apply LR_pure); exact rfl; exact rfl; exact rfl)
    | ((with_reducible apply LR_field_own); exact rfl; exact rfl; exact rfl)
    | ((with_reducible apply LR_load_own_agg 0); exact rfl; exact rfl; exact rfl; exact rfl; exact rfl)
    | ((with_reducible apply LS_box); exact rfl; exact rfl; exact rfl; exact rfl; intro _)
    | ((with_reducible apply post_seq))
    | ((with_reducible apply CS_ret))
  apply post_ret1; exact rfl; exact rfl; intro w' hw'; exact ⟨(), trivial, rfl, hw'.sub (by repeat (first | exact List.Sublist.refl _ | exact List.nil_sublist _ | apply List.Sublist.cons_cons | apply List.Sublist.cons))⟩
theorem markPoint_ok (w0 : World) (h : List Ent) (w : World) (t : Int) (g1 c1 g2 c2 : Nat) (l1 l2 : List Int) (k0 : Int) (hw : Wd w0 (intE g1 c1 l1 :: intE g2 c2 l2 :: h) w) (hx1 : l1.length ≤ 1000000) (hx2 : l2.length ≤ 1000000) (h0 : 0 ≤ k0) (h1 : k0 ≤ 1000000000) (hc1 : l1.length ≤ c1) (hm1 : c1 ≤ maxLen) (hc2 : l2.length ≤ c2) (hm2 : c2 ≤ maxLen) :
    Calls Try.prog 25 #[ptW t (.slice (some ⟨g1, 0, none⟩) l1.length c1) (.slice (some ⟨g2, 0, none⟩) l2.length c2), .int .i64 k0] w
      (fun x w' => ∃ _ : Unit, True ∧ x = .returned (.int .i64 (k0 + l1.length + l2.length)) ∧ Wd w0 (intE g1 c1 (mk1 k0 l1.length) :: intE g2 c2 (mk1 (k0 + l1.length) l2.length) :: h) w') := by
  refine enter_in (vs := [ptW t (.slice (some ⟨g1, 0, none⟩) l1.length c1) (.slice (some ⟨g2, 0, none⟩) l2.length c2), .int .i64 k0]) hw Try.func25 rfl Try.ntmps25 rfl ?_
  repeat' first
    | ((with_reducible apply (LS_callf (f := 24))); exact rfl; exact rfl; exact rfl; exact fun w hw => markIntS_ok w0 _ w g1 c1 l1 k0 (hw.perm (pull_perm 1 _ _ _ rfl)) (by omega) (by omega) (by omega) hc1 hm1; rintro _ _)
    | ((with_reducible apply (LS_callf (f := 24))); exact rfl; exact rfl; exact rfl; exact fun w hw => markIntS_ok w0 _ w g2 c2 l2 (k0 + l1.length) (hw.perm (pull_perm 2 _ _ _ rfl)) (by omega) (by omega) (by omega) hc2 hm2; rintro _ _)
    | ((with_reducible apply CS_seq))
    | ((with_reducible apply CS_region))
    | ((with_reducible apply RR_end))
    | ((with_reducible apply LR_pure); exact rfl; exact rfl; exact rfl)
    | ((with_reducible apply LR_field_own); exact rfl; exact rfl; exact rfl)
    | ((with_reducible apply LR_load_own 0); exact rfl; exact rfl; exact rfl; exact rfl; exact rfl)
    | ((with_reducible apply LR_load_own 1); exact rfl; exact rfl; exact rfl; exact rfl; exact rfl)
    | ((with_reducible apply LS_box); exact rfl; exact rfl; exact rfl; exact rfl; intro _)
    | ((with_reducible apply post_seq))
    | ((with_reducible apply CS_ret))
  apply post_ret1; exact rfl; exact rfl; intro w' hw'; exact ⟨(), trivial, rfl, (hw'.reord [1, 0] rfl).sub (by repeat (first | exact List.Sublist.refl _ | exact List.nil_sublist _ | apply List.Sublist.cons_cons | apply List.Sublist.cons))⟩
theorem heldPoint_ok (t : Int) (v1 v2 : Value) (n1 n2 : Nat) (k0 : Int) (w : World) (s1 : Sl w v1 (mk1 k0 n1)) (s2 : Sl w v2 (mk1 (k0 + n1) n2)) (h0 : 0 ≤ k0) (h1 : k0 ≤ 1000000000) (hn1 : n1 ≤ 1000000) (hn2 : n2 ≤ 1000000) : Calls Try.prog 26 #[ptW t v1 v2, .int .i64 k0] w (Gives (.int .i64 (k0 + n1 + n2)) w) := by
  refine enter (vs := [ptW t v1 v2, .int .i64 k0]) Try.func26 rfl Try.ntmps26 rfl ?_
  repeat' first
    | ((with_reducible apply (LR_call (f := 37))); exact rfl; exact rfl; exact rfl; exact fun w hw => heldIntS_ok v1 n1 k0 w (s1.mono hw) (by omega) (by omega) (by omega))
    | ((with_reducible apply (LR_call (f := 37))); exact rfl; exact rfl; exact rfl; exact fun w hw => heldIntS_ok v2 n2 (k0 + n1) w (s2.mono hw) (by omega) (by omega) (by omega))
    | ((with_reducible apply CS_seq))
    | ((with_reducible apply CS_region))
    | ((with_reducible apply RR_end))
    | ((with_reducible apply LR_pure); exact rfl; exact rfl; exact rfl)
    | ((with_reducible apply LR_field_own); exact rfl; exact rfl; exact rfl)
    | ((with_reducible apply LR_load_own 0); exact rfl; exact rfl; exact rfl; exact rfl; exact rfl)
    | ((with_reducible apply LS_box); exact rfl; exact rfl; exact rfl; exact rfl; intro _)
    | ((with_reducible apply post_seq))
    | ((with_reducible apply CS_skip))
    | ((with_reducible apply CS_ret))
    | ((with_reducible apply CS_cond_d); exact rfl; all_goals intro hb; all_goals try (exfalso; omega))
  all_goals first | (exfalso; contradiction) | (exfalso; omega) | (exfalso; simp at hb <;> omega) | skip
  all_goals (apply ret_int; exact rfl; exact rfl; rfl)
theorem markIntS_nil (k0 : Int) (w : World) : Calls Try.prog 24 #[.slice none 0 0, .int .i64 k0] w (Gives (.int .i64 k0) w) := by
  refine enter (vs := [.slice none 0 0, .int .i64 k0]) Try.func24 rfl Try.ntmps24 rfl ?_
  repeat' first
    | ((with_reducible apply CS_seq))
    | ((with_reducible apply CS_block))
    | ((with_reducible apply CS_region))
    | ((with_reducible apply RR_end))
    | ((with_reducible apply LR_pure); exact rfl; exact rfl; exact rfl)
    | ((with_reducible apply post_seq))
  refine CS_loop (ι := Unit) (fun _ => [(0, .slice none 0 0), (1, .int .i64 k0), (5, .int .i64 0)]) (fun _ => Wd w []) (fun _ => True) (fun _ => 0) () trivial ⟨rfl, rfl, rfl, trivial⟩ (fun _ hw => hw) ?_
  rintro _ _
  repeat' first
    | ((with_reducible apply CS_seq))
    | ((with_reducible apply CS_region))
    | ((with_reducible apply RR_end))
    | ((with_reducible apply LR_pure); exact rfl; exact rfl; exact rfl)
    | ((with_reducible apply LR_len); exact rfl; exact rfl; exact rfl)
    | ((with_reducible apply post_seq))
    | ((with_reducible apply post_then_exit))
    | ((with_reducible apply post_block_eq))
    | ((with_reducible apply CS_ret))
    | ((with_reducible apply CS_exit))
    | ((with_reducible apply CS_cond_f); exact rfl)
  all_goals first | (exfalso; contradiction) | (exfalso; omega) | (exfalso; simp at hb <;> omega) | skip
  apply ret_int; exact rfl; exact rfl; rfl
theorem markPoint_nil (k0 : Int) (w : World) : Calls Try.prog 25 #[ptV0, .int .i64 k0] w (Gives (.int .i64 k0) w) := by
  refine enter (vs := [ptV0, .int .i64 k0]) Try.func25 rfl Try.ntmps25 rfl ?_
  repeat' first
    | ((with_reducible apply (LR_call (f := 24))); exact rfl; exact rfl; exact rfl; exact fun w hw => markIntS_nil k0 w)
    | ((with_reducible apply CS_seq))
    | ((with_reducible apply CS_region))
    | ((with_reducible apply RR_end))
    | ((with_reducible apply LR_pure); exact rfl; exact rfl; exact rfl)
    | ((with_reducible apply LR_field_own); exact rfl; exact rfl; exact rfl)
    | ((with_reducible apply LR_load_own 0); exact rfl; exact rfl; exact rfl; exact rfl; exact rfl)
    | ((with_reducible apply LS_box); exact rfl; exact rfl; exact rfl; exact rfl; intro _)
    | ((with_reducible apply post_seq))
    | ((with_reducible apply CS_ret))
  apply ret_int; exact rfl; exact rfl; rfl
theorem markPoint_n (w0 : World) (h : List Ent) (w : World) (t : Int) (g1 c1 g2 c2 n1 n2 : Nat) (l1 l2 : List Int) (k0 : Int) (e1 : n1 = l1.length) (e2 : n2 = l2.length) (hw : Wd w0 (intE g1 c1 l1 :: intE g2 c2 l2 :: h) w) (hx1 : n1 ≤ 1000000) (hx2 : n2 ≤ 1000000) (h0 : 0 ≤ k0) (h1 : k0 ≤ 1000000000) (hc1 : n1 ≤ c1) (hm1 : c1 ≤ maxLen) (hc2 : n2 ≤ c2) (hm2 : c2 ≤ maxLen) :
    Calls Try.prog 25 #[ptW t (.slice (some ⟨g1, 0, none⟩) n1 c1) (.slice (some ⟨g2, 0, none⟩) n2 c2), .int .i64 k0] w
      (fun x w' => ∃ _ : Unit, True ∧ x = .returned (.int .i64 (k0 + n1 + n2)) ∧ Wd w0 (intE g1 c1 (mk1 k0 n1) :: intE g2 c2 (mk1 (k0 + n1) n2) :: h) w') := by
  subst e1 e2
  exact markPoint_ok w0 h w t g1 c1 g2 c2 l1 l2 k0 hw hx1 hx2 h0 h1 hc1 hm1 hc2 hm2
end Go.Proofs.Ytaggfcghkfkngaa
