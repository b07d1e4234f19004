/- The walks of the reference's generators of amounts, rates and days. No condition beyond those that each theorem states. -/
import Derived.Test.YtgklapdlambdlaaWRead
namespace Go.Proofs.Ytgklapdlambdlaa
open Go.RowKit
theorem someAmount_ok (w0 : World) (h : List Ent) (w : World) (g tot : Nat) (bv : Value) (p : Int) (l : List By) (hw : Wd w0 (rdE g tot bv p :: h) w) (hR : Rd4 w0 g tot bv l) (h0 : 0 ≤ p) (h1 : p ≤ 900000) : Calls Try.prog 72 #[.pointer (some ⟨g, 0, none⟩)] w (fun x w' => ∃ i : Int × Int, (p ≤ i.2 ∧ i.2 ≤ p + 2) ∧ x = .returned (.int .i64 i.1) ∧ Wd w0 (rdE g tot bv i.2 :: h) w') := by
  refine enter_in (vs := [.pointer (some ⟨g, 0, none⟩)]) hw Try.func72 rfl Try.ntmps72 rfl ?_
  repeat' first
    | ((with_reducible apply (LS_callf (f := 70))); exact rfl; exact rfl; exact rfl; exact fun w hw => pick_at 0 hw rfl hR (by omega) (by omega) (by omega); rintro _ ⟨_, _, _⟩)
    | ((with_reducible apply (LS_callf (f := 71))); exact rfl; exact rfl; exact rfl; exact fun w hw => one_at 1 0 hw rfl rfl rfl rfl (by decide) (by decide) (by decide) hR (by omega) (by omega); rintro _ _)
    | ((with_reducible apply CS_seq))
    | ((with_reducible apply CS_region))
    | ((with_reducible apply RR_end))
    | ((with_reducible apply LR_pure); exact rfl; exact rfl; exact rfl)
    | ((with_reducible apply LR_mul); exact rfl; exact rfl; exact rfl; exact rfl; omega; omega)
    | ((with_reducible apply LS_buildSlice); exact rfl; exact rfl; exact rfl; exact rfl; exact rfl; exact rfl; exact rfl; intro _)
    | ((with_reducible apply post_seq))
    | ((with_reducible apply post_then_ret))
    | ((with_reducible apply post_then_exit))
    | ((with_reducible apply CS_skip))
    | ((with_reducible apply CS_ret))
    | ((with_reducible apply CS_exit))
  all_goals (apply post_ret1; exact rfl; exact rfl; intro w' hw'; first | exact ⟨(_, _), ⟨by simp only; omega, by simp only; omega⟩, rfl, hw'⟩ | exact ⟨(_, _), ⟨by simp only; omega, by simp only; omega⟩, rfl, hw'.drop1⟩ | exact ⟨(_, _), ⟨by simp only; omega, by simp only; omega⟩, rfl, hw'.drop2⟩)
theorem anyAmount_ok (w0 : World) (h : List Ent) (w : World) (g tot : Nat) (bv : Value) (p : Int) (l : List By) (hw : Wd w0 (rdE g tot bv p :: h) w) (hR : Rd4 w0 g tot bv l) (h0 : 0 ≤ p) (h1 : p ≤ 800000) : Calls Try.prog 55 #[.pointer (some ⟨g, 0, none⟩)] w (fun x w' => ∃ i : Int × Int, (p ≤ i.2 ∧ i.2 ≤ p + 3) ∧ x = .returned (.int .i64 i.1) ∧ Wd w0 (rdE g tot bv i.2 :: h) w') := by
  refine enter_in (vs := [.pointer (some ⟨g, 0, none⟩)]) hw Try.func55 rfl Try.ntmps55 rfl ?_
  repeat' first
    | ((with_reducible apply (LS_callf (f := 70))); exact rfl; exact rfl; exact rfl; exact fun w hw => pick_at 0 hw rfl hR (by omega) (by omega) (by omega); rintro _ ⟨_, _, _⟩)
    | ((with_reducible apply (LS_callf (f := 71))); exact rfl; exact rfl; exact rfl; exact fun w hw => one_at 1 0 hw rfl rfl rfl rfl (by decide) (by decide) (by decide) hR (by omega) (by omega); rintro _ _)
    | ((with_reducible apply (LS_callf (f := 72))); exact rfl; exact rfl; exact rfl; exact fun w hw => someAmount_ok w0 _ w g tot bv _ l hw hR (by omega) (by omega); rintro _ ⟨_, _⟩)
    | ((with_reducible apply CS_seq))
    | ((with_reducible apply CS_region))
    | ((with_reducible apply RR_end))
    | ((with_reducible apply LR_pure); exact rfl; exact rfl; exact rfl)
    | ((with_reducible apply LR_eqb); exact rfl; exact rfl; exact rfl; exact rfl)
    | ((with_reducible apply LS_buildSlice); exact rfl; exact rfl; exact rfl; exact rfl; exact rfl; exact rfl; exact rfl; intro _)
    | ((with_reducible apply post_seq))
    | ((with_reducible apply post_then_ret))
    | ((with_reducible apply post_then_exit))
    | ((with_reducible apply CS_skip))
    | ((with_reducible apply CS_ret))
    | ((with_reducible apply CS_exit))
    | ((with_reducible apply CS_cond_t); exact rfl)
    | ((with_reducible apply CS_cond_f); exact rfl)
    | ((with_reducible apply CS_cond_nd); exact rfl; all_goals intro hb; all_goals try (exfalso; omega))
    | ((with_reducible apply CS_cond_d); exact rfl; all_goals intro hb; all_goals try (exfalso; omega))
    | ((with_reducible apply CS_cond_n); exact rfl; all_goals intro hb; all_goals try (exfalso; omega))
    | ((with_reducible apply CS_cond); exact rfl; all_goals intro hb; all_goals try (exfalso; omega))
  all_goals (apply post_ret1; exact rfl; exact rfl; intro w' hw'; first | exact ⟨(_, _), ⟨by simp only; omega, by simp only; omega⟩, rfl, hw'⟩ | exact ⟨(_, _), ⟨by simp only; omega, by simp only; omega⟩, rfl, hw'.drop1⟩ | exact ⟨(_, _), ⟨by simp only; omega, by simp only; omega⟩, rfl, hw'.drop2⟩)
theorem anyRate_ok (w0 : World) (h : List Ent) (w : World) (g tot : Nat) (bv : Value) (p : Int) (l : List By) (hw : Wd w0 (rdE g tot bv p :: h) w) (hR : Rd4 w0 g tot bv l) (h0 : 0 ≤ p) (h1 : p ≤ 900000) : Calls Try.prog 56 #[.pointer (some ⟨g, 0, none⟩)] w (fun x w' => ∃ i : Int × Int, (p ≤ i.2 ∧ i.2 ≤ p + 1) ∧ x = .returned (.int .i64 i.1) ∧ Wd w0 (rdE g tot bv i.2 :: h) w') := by
  refine enter_in (vs := [.pointer (some ⟨g, 0, none⟩)]) hw Try.func56 rfl Try.ntmps56 rfl ?_
  repeat' first
    | ((with_reducible apply (LS_callf (f := 71))); exact rfl; exact rfl; exact rfl; exact fun w hw => one_at 1 0 hw rfl rfl rfl rfl (by decide) (by decide) (by decide) hR (by omega) (by omega); rintro _ _)
    | ((with_reducible apply CS_seq))
    | ((with_reducible apply CS_region))
    | ((with_reducible apply RR_end))
    | ((with_reducible apply LR_pure); exact rfl; exact rfl; exact rfl)
    | ((with_reducible apply LS_buildSlice); exact rfl; exact rfl; exact rfl; exact rfl; exact rfl; exact rfl; exact rfl; intro _)
    | ((with_reducible apply post_seq))
    | ((with_reducible apply post_then_ret))
    | ((with_reducible apply post_then_exit))
    | ((with_reducible apply CS_skip))
    | ((with_reducible apply CS_ret))
    | ((with_reducible apply CS_exit))
  all_goals (apply post_ret1; exact rfl; exact rfl; intro w' hw'; first | exact ⟨(_, _), ⟨by simp only; omega, by simp only; omega⟩, rfl, hw'⟩ | exact ⟨(_, _), ⟨by simp only; omega, by simp only; omega⟩, rfl, hw'.drop1⟩ | exact ⟨(_, _), ⟨by simp only; omega, by simp only; omega⟩, rfl, hw'.drop2⟩)
theorem someDay_ok (w0 : World) (h : List Ent) (w : World) (g tot : Nat) (bv : Value) (p : Int) (l : List By) (hw : Wd w0 (rdE g tot bv p :: h) w) (hR : Rd4 w0 g tot bv l) (h0 : 0 ≤ p) (h1 : p ≤ 900000) : Calls Try.prog 61 #[.pointer (some ⟨g, 0, none⟩)] w (fun x w' => ∃ i : Int × Int, (p ≤ i.2 ∧ i.2 ≤ p + 2) ∧ x = .returned (.int .i64 i.1) ∧ Wd w0 (rdE g tot bv i.2 :: h) w') := by
  refine enter_in (vs := [.pointer (some ⟨g, 0, none⟩)]) hw Try.func61 rfl Try.ntmps61 rfl ?_
  repeat' first
    | ((with_reducible apply (LS_callf (f := 70))); exact rfl; exact rfl; exact rfl; exact fun w hw => pick_at 0 hw rfl hR (by omega) (by omega) (by omega); rintro _ ⟨_, _, _⟩)
    | ((with_reducible apply (LS_callf (f := 71))); exact rfl; exact rfl; exact rfl; exact fun w hw => one_at 1 0 hw rfl rfl rfl rfl (by decide) (by decide) (by decide) hR (by omega) (by omega); rintro _ _)
    | ((with_reducible apply CS_seq))
    | ((with_reducible apply CS_region))
    | ((with_reducible apply RR_end))
    | ((with_reducible apply LR_pure); exact rfl; exact rfl; exact rfl)
    | ((with_reducible apply LS_buildSlice); exact rfl; exact rfl; exact rfl; exact rfl; exact rfl; exact rfl; exact rfl; intro _)
    | ((with_reducible apply post_seq))
    | ((with_reducible apply post_then_ret))
    | ((with_reducible apply post_then_exit))
    | ((with_reducible apply CS_skip))
    | ((with_reducible apply CS_ret))
    | ((with_reducible apply CS_exit))
  all_goals (apply post_ret1; exact rfl; exact rfl; intro w' hw'; first | exact ⟨(_, _), ⟨by simp only; omega, by simp only; omega⟩, rfl, hw'⟩ | exact ⟨(_, _), ⟨by simp only; omega, by simp only; omega⟩, rfl, hw'.drop1⟩ | exact ⟨(_, _), ⟨by simp only; omega, by simp only; omega⟩, rfl, hw'.drop2⟩)
theorem DrawTaxIn_ok (v : Value) (l : List By) (w : World) (hs : Sl w v l) (hby : BytesOk l) : Calls Try.prog 24 #[v] w (fun x w' => ∃ i : Int × Int, True ∧ x = .returned (.tuple #[.int .i64 i.1, .int .i64 i.2]) ∧ Wd w [] w') := by
  refine enter (vs := [v]) Try.func24 rfl Try.ntmps24 rfl ?_
  repeat' first
    | ((with_reducible apply (LS_callf (f := 54))); exact rfl; exact rfl; exact rfl; exact fun w hw => newReader_ok _ _ w hw v l hs hby; rintro ⟨g, bv, l'⟩ ⟨q1, q2, q3⟩)
    | ((with_reducible apply (LS_callf (f := 55))); exact rfl; exact rfl; exact rfl; exact fun w hw => anyAmount_ok _ _ w g _ bv _ l' hw ⟨q1, q2, q3⟩ (by omega) (by omega); rintro ⟨_, _⟩ ⟨_, _⟩)
    | ((with_reducible apply (LS_callf (f := 56))); exact rfl; exact rfl; exact rfl; exact fun w hw => anyRate_ok _ _ w g _ bv _ l' hw ⟨q1, q2, q3⟩ (by omega) (by omega); rintro ⟨_, _⟩ ⟨_, _⟩)
    | ((with_reducible apply CS_seq))
    | ((with_reducible apply CS_region))
    | ((with_reducible apply RR_end))
    | ((with_reducible apply LR_pure); exact rfl; exact rfl; exact rfl)
    | ((with_reducible apply post_seq))
    | ((with_reducible apply post_then_ret))
    | ((with_reducible apply post_then_exit))
    | ((with_reducible apply CS_skip))
    | ((with_reducible apply CS_ret))
    | ((with_reducible apply CS_exit))
  all_goals (dsimp only at *; apply post_ret2; exact rfl; exact rfl; exact rfl; intro w' hw'; exact ⟨(_, _), trivial, rfl, hw'.nil⟩)
end Go.Proofs.Ytgklapdlambdlaa
