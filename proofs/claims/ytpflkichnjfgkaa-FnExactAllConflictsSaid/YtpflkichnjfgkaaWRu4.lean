/- The walks of GuardsMeet and RulesConflict, of the program and of the reference. No condition beyond those that each theorem states. -/
import Derived.Test.YtpflkichnjfgkaaWRu3
namespace Go.Proofs.Ytpflkichnjfgkaa
open Go.RowKit
attribute [local irreducible] Calls zS
theorem zS_lo {x y : Sp} : (zS x y true).lo = mx x y := by unfold zS; rfl
set_option maxHeartbeats 4000000 in
theorem iGuardsMeet_ok (a b : Gd) (w : World) (ha : GOk w a) (hb' : GOk w b) (va : VG a) (vb : VG b) (bb : Bool) (hM : Meets a b ↔ bb = true) : Calls Try.prog 56 #[gdV a, gdV b] w
    (fun x w' => (bb = false ∧ x = .returned (.tuple #[ptV0, .bool false]) ∧ Wd w [] w') ∨ (bb = true ∧ ∃ i : PtG, (3 ≤ i.c1 ∧ i.c1 ≤ maxLen ∧ (cps a.cp b.cp 9).length ≤ i.c2 ∧ i.c2 ≤ maxLen) ∧ x = .returned (.tuple #[ptV (mx a.tot b.tot) 3 (cps a.cp b.cp 9).length i, .bool true]) ∧ Wd w [intE i.g1 i.c1 (lows a.cs b.cs), intE i.g2 i.c2 (cps a.cp b.cp 9)] w')) := by
  have hml : maxLen = 9223372036854775807 := rfl
  have la := va.2.1
  have lb := vb.2.1
  have hva : VG a ↔ true = true := by simp [va]
  have hvb : VG b ↔ true = true := by simp [vb]
  obtain ⟨b0, hb0⟩ := bex (mx a.tot b.tot ≤ mn a.tot b.tot)
  refine enter (vs := [gdV a, gdV b]) Try.func56 rfl Try.ntmps56 rfl ?_
  repeat' first
    | ((with_reducible apply (LR_call (f := 66))); exact rfl; exact rfl; exact rfl; exact fun w hw => iValidGuard_ok a w true (ha.mono hw) hva)
    | ((with_reducible apply (LR_call (f := 66))); exact rfl; exact rfl; exact rfl; exact fun w hw => iValidGuard_ok b w true (hb'.mono hw) hvb)
    | ((with_reducible apply (LR_call (f := 74))); exact rfl; exact rfl; exact rfl; exact fun w hw => iMeet_ok a.tot b.tot w b0 va.1 vb.1 hb0)
    | ((with_reducible apply CS_seq))
    | ((with_reducible apply CS_block))
    | ((with_reducible apply CS_region))
    | ((with_reducible apply RR_end))
    | ((with_reducible apply LR_pure); exact rfl; exact rfl; exact rfl)
    | ((with_reducible apply LR_field_own); exact rfl; exact rfl; exact rfl)
    | ((with_reducible apply LR_load_own 0); exact rfl; exact rfl; exact rfl; exact rfl; exact rfl)
    | ((with_reducible apply LR_load_own_agg 1); exact rfl; exact rfl; exact rfl; exact rfl; exact rfl)
    | ((with_reducible apply LR_load_own_agg 2); exact rfl; exact rfl; exact rfl; exact rfl; exact rfl)
    | ((with_reducible apply LS_alloc); exact rfl; exact rfl; exact rfl; intro _)
    | ((with_reducible apply LS_box); exact rfl; exact rfl; exact rfl; exact rfl; intro _)
    | ((with_reducible apply LS_store_agg 0); exact rfl; exact rfl; exact rfl; exact rfl; exact rfl; exact rfl; exact rfl; exact rfl)
    | ((with_reducible apply LS_buildSlice); exact rfl; exact rfl; exact rfl; exact rfl; exact rfl; exact rfl; exact rfl; intro _)
    | ((with_reducible apply LR_build); exact rfl; exact rfl; exact rfl; exact rfl)
    | ((with_reducible apply post_seq))
    | ((with_reducible apply CS_skip))
    | ((with_reducible apply CS_cond_f); exact rfl)
  all_goals first | (exfalso; contradiction) | (exfalso; omega) | (exfalso; simp at hb <;> omega) | skip
  rename_i ga gb gr gs gc gq gp
  refine CS_loop (ι := Nat × Nat × Nat × Bool × List Int) (fun i => [(2, .pointer (some ⟨ga, 0, none⟩)), (3, .pointer (some ⟨gb, 0, none⟩)), (4, .pointer (some ⟨gr, 0, none⟩)), (7, .bool i.2.2.2.1), (8, .pointer (some ⟨gp, 0, none⟩)), (35, .int .i64 (i.1 : Int))]) (fun i => Wd w [ptE gp (.int .i64 (zS a.tot b.tot b0).lo) (.slice (some ⟨i.2.1, 0, none⟩) i.1 i.2.2.1) (.slice (some ⟨gq, 0, none⟩) 0 0), intE i.2.1 i.2.2.1 i.2.2.2.2, intE gq 0 [], gdE ga a, gdE gb b, ptE gr (.int .i64 0) (.slice none 0 0) (.slice none 0 0)]) (fun i => i.1 ≤ 3 ∧ i.1 ≤ i.2.2.1 ∧ i.2.2.1 ≤ maxLen ∧ (i.2.2.2.1 = true ↔ MeetsTo a b i.1) ∧ i.2.2.2.2.length = i.1 ∧ (i.2.2.2.1 = true → i.2.2.2.2 = (lows a.cs b.cs).take i.1)) (fun i => 3 - i.1) (0, gc, 0, b0, []) ⟨by omega, by simp, by simp, by rw [meetsTo_zero, hb0], by simp, by simp⟩ ⟨rfl, rfl, rfl, rfl, rfl, rfl, trivial⟩ (fun _ hw => hw.picks [0, 1, 0, 3, 2, 1] rfl) ?_
  rintro ⟨k, g1, c1, ok, zs⟩ ⟨h0, h1, h2, h3, h4, h5⟩
  dsimp only at h0 h1 h2 h3 h4 h5 ⊢
  by_cases hk : k < 3
  · obtain ⟨x, hx⟩ : ∃ c, a.cs[k]? = some c := ⟨_, List.getElem?_eq_getElem (by omega)⟩
    obtain ⟨y, hy⟩ : ∃ c, b.cs[k]? = some c := ⟨_, List.getElem?_eq_getElem (by omega)⟩
    have hlt := lows_take hx hy
    have hst := meetsTo_succ hx hy
    have hvx := va.2.2.1 k (by omega) x hx
    have hvy := vb.2.2.1 k (by omega) y hy
    obtain ⟨b1, hb1⟩ := bex (mx x y ≤ mn x y)
    repeat' first
      | ((with_reducible apply CS_seq))
      | ((with_reducible apply CS_block))
      | ((with_reducible apply CS_region))
      | ((with_reducible apply RR_end))
      | ((with_reducible apply LR_pure); exact rfl; exact rfl; exact rfl)
      | ((with_reducible apply post_seq))
      | ((with_reducible apply CS_skip))
      | ((with_reducible apply CS_cond_d); exact rfl; all_goals intro hb; all_goals try (exfalso; omega))
    refine CS_regionH (id := 8) 17 (Wd w [gdE ga a, gdE gb b]) (fun g : Nat => [(2, .pointer (some ⟨ga, 0, none⟩)), (3, .pointer (some ⟨gb, 0, none⟩)), (4, .pointer (some ⟨gr, 0, none⟩)), (7, .bool ok), (8, .pointer (some ⟨gp, 0, none⟩)), (10, .pointer (some ⟨g, 0, none⟩)), (11, .bool b1), (35, .int .i64 (k : Int))]) (fun g => Wd w [⟨g, 29, 2, [.int .i64 (zS x y b1).lo, .int .i64 (zS x y b1).hi]⟩, ptE gp (.int .i64 (zS a.tot b.tot b0).lo) (.slice (some ⟨g1, 0, none⟩) k c1) (.slice (some ⟨gq, 0, none⟩) 0 0), intE g1 c1 zs, intE gq 0 [], gdE ga a, gdE gb b, ptE gr (.int .i64 0) (.slice none 0 0) (.slice none 0 0)]) (fun _ => True) (by kernel_rfl) rfl ?_ ?_
    · skip
      repeat' first
        | ((with_reducible apply (RH_take 0)); exact rfl; kernel_rfl; decide +kernel; decide +kernel; (first | exact fun _ hw => hw | exact fun _ hw => hw.sub (by repeat (first | exact List.Sublist.refl _ | exact List.nil_sublist _ | apply List.Sublist.cons_cons | apply List.Sublist.cons)) | exact fun _ hw => (hw.perm (pull_perm 1 _ _ _ rfl)).sub (by repeat (first | exact List.Sublist.refl _ | exact List.nil_sublist _ | apply List.Sublist.cons_cons | apply List.Sublist.cons)) | exact fun _ hw => (hw.perm (pull_perm 2 _ _ _ rfl)).sub (by repeat (first | exact List.Sublist.refl _ | exact List.nil_sublist _ | apply List.Sublist.cons_cons | apply List.Sublist.cons)) | exact fun _ hw => (hw.perm (pull_perm 3 _ _ _ rfl)).sub (by repeat (first | exact List.Sublist.refl _ | exact List.nil_sublist _ | apply List.Sublist.cons_cons | apply List.Sublist.cons)) | exact fun _ hw => (hw.perm (pull_perm 4 _ _ _ rfl)).sub (by repeat (first | exact List.Sublist.refl _ | exact List.nil_sublist _ | apply List.Sublist.cons_cons | apply List.Sublist.cons))))
        | ((with_reducible apply (RH_take 1)); exact rfl; kernel_rfl; decide +kernel; decide +kernel; (first | exact fun _ hw => hw | exact fun _ hw => hw.sub (by repeat (first | exact List.Sublist.refl _ | exact List.nil_sublist _ | apply List.Sublist.cons_cons | apply List.Sublist.cons)) | exact fun _ hw => (hw.perm (pull_perm 1 _ _ _ rfl)).sub (by repeat (first | exact List.Sublist.refl _ | exact List.nil_sublist _ | apply List.Sublist.cons_cons | apply List.Sublist.cons)) | exact fun _ hw => (hw.perm (pull_perm 2 _ _ _ rfl)).sub (by repeat (first | exact List.Sublist.refl _ | exact List.nil_sublist _ | apply List.Sublist.cons_cons | apply List.Sublist.cons)) | exact fun _ hw => (hw.perm (pull_perm 3 _ _ _ rfl)).sub (by repeat (first | exact List.Sublist.refl _ | exact List.nil_sublist _ | apply List.Sublist.cons_cons | apply List.Sublist.cons)) | exact fun _ hw => (hw.perm (pull_perm 4 _ _ _ rfl)).sub (by repeat (first | exact List.Sublist.refl _ | exact List.nil_sublist _ | apply List.Sublist.cons_cons | apply List.Sublist.cons))))
        | ((with_reducible apply (RH_take 2)); exact rfl; kernel_rfl; decide +kernel; decide +kernel; (first | exact fun _ hw => hw | exact fun _ hw => hw.sub (by repeat (first | exact List.Sublist.refl _ | exact List.nil_sublist _ | apply List.Sublist.cons_cons | apply List.Sublist.cons)) | exact fun _ hw => (hw.perm (pull_perm 1 _ _ _ rfl)).sub (by repeat (first | exact List.Sublist.refl _ | exact List.nil_sublist _ | apply List.Sublist.cons_cons | apply List.Sublist.cons)) | exact fun _ hw => (hw.perm (pull_perm 2 _ _ _ rfl)).sub (by repeat (first | exact List.Sublist.refl _ | exact List.nil_sublist _ | apply List.Sublist.cons_cons | apply List.Sublist.cons)) | exact fun _ hw => (hw.perm (pull_perm 3 _ _ _ rfl)).sub (by repeat (first | exact List.Sublist.refl _ | exact List.nil_sublist _ | apply List.Sublist.cons_cons | apply List.Sublist.cons)) | exact fun _ hw => (hw.perm (pull_perm 4 _ _ _ rfl)).sub (by repeat (first | exact List.Sublist.refl _ | exact List.nil_sublist _ | apply List.Sublist.cons_cons | apply List.Sublist.cons))))
        | ((with_reducible apply (RH_take 3)); exact rfl; kernel_rfl; decide +kernel; decide +kernel; (first | exact fun _ hw => hw | exact fun _ hw => hw.sub (by repeat (first | exact List.Sublist.refl _ | exact List.nil_sublist _ | apply List.Sublist.cons_cons | apply List.Sublist.cons)) | exact fun _ hw => (hw.perm (pull_perm 1 _ _ _ rfl)).sub (by repeat (first | exact List.Sublist.refl _ | exact List.nil_sublist _ | apply List.Sublist.cons_cons | apply List.Sublist.cons)) | exact fun _ hw => (hw.perm (pull_perm 2 _ _ _ rfl)).sub (by repeat (first | exact List.Sublist.refl _ | exact List.nil_sublist _ | apply List.Sublist.cons_cons | apply List.Sublist.cons)) | exact fun _ hw => (hw.perm (pull_perm 3 _ _ _ rfl)).sub (by repeat (first | exact List.Sublist.refl _ | exact List.nil_sublist _ | apply List.Sublist.cons_cons | apply List.Sublist.cons)) | exact fun _ hw => (hw.perm (pull_perm 4 _ _ _ rfl)).sub (by repeat (first | exact List.Sublist.refl _ | exact List.nil_sublist _ | apply List.Sublist.cons_cons | apply List.Sublist.cons))))
        | ((with_reducible apply (RH_take 4)); exact rfl; kernel_rfl; decide +kernel; decide +kernel; (first | exact fun _ hw => hw | exact fun _ hw => hw.sub (by repeat (first | exact List.Sublist.refl _ | exact List.nil_sublist _ | apply List.Sublist.cons_cons | apply List.Sublist.cons)) | exact fun _ hw => (hw.perm (pull_perm 1 _ _ _ rfl)).sub (by repeat (first | exact List.Sublist.refl _ | exact List.nil_sublist _ | apply List.Sublist.cons_cons | apply List.Sublist.cons)) | exact fun _ hw => (hw.perm (pull_perm 2 _ _ _ rfl)).sub (by repeat (first | exact List.Sublist.refl _ | exact List.nil_sublist _ | apply List.Sublist.cons_cons | apply List.Sublist.cons)) | exact fun _ hw => (hw.perm (pull_perm 3 _ _ _ rfl)).sub (by repeat (first | exact List.Sublist.refl _ | exact List.nil_sublist _ | apply List.Sublist.cons_cons | apply List.Sublist.cons)) | exact fun _ hw => (hw.perm (pull_perm 4 _ _ _ rfl)).sub (by repeat (first | exact List.Sublist.refl _ | exact List.nil_sublist _ | apply List.Sublist.cons_cons | apply List.Sublist.cons))))
        | ((with_reducible apply (RH_take 5)); exact rfl; kernel_rfl; decide +kernel; decide +kernel; (first | exact fun _ hw => hw | exact fun _ hw => hw.sub (by repeat (first | exact List.Sublist.refl _ | exact List.nil_sublist _ | apply List.Sublist.cons_cons | apply List.Sublist.cons)) | exact fun _ hw => (hw.perm (pull_perm 1 _ _ _ rfl)).sub (by repeat (first | exact List.Sublist.refl _ | exact List.nil_sublist _ | apply List.Sublist.cons_cons | apply List.Sublist.cons)) | exact fun _ hw => (hw.perm (pull_perm 2 _ _ _ rfl)).sub (by repeat (first | exact List.Sublist.refl _ | exact List.nil_sublist _ | apply List.Sublist.cons_cons | apply List.Sublist.cons)) | exact fun _ hw => (hw.perm (pull_perm 3 _ _ _ rfl)).sub (by repeat (first | exact List.Sublist.refl _ | exact List.nil_sublist _ | apply List.Sublist.cons_cons | apply List.Sublist.cons)) | exact fun _ hw => (hw.perm (pull_perm 4 _ _ _ rfl)).sub (by repeat (first | exact List.Sublist.refl _ | exact List.nil_sublist _ | apply List.Sublist.cons_cons | apply List.Sublist.cons))))
        | ((with_reducible apply (RH_take 6)); exact rfl; kernel_rfl; decide +kernel; decide +kernel; (first | exact fun _ hw => hw | exact fun _ hw => hw.sub (by repeat (first | exact List.Sublist.refl _ | exact List.nil_sublist _ | apply List.Sublist.cons_cons | apply List.Sublist.cons)) | exact fun _ hw => (hw.perm (pull_perm 1 _ _ _ rfl)).sub (by repeat (first | exact List.Sublist.refl _ | exact List.nil_sublist _ | apply List.Sublist.cons_cons | apply List.Sublist.cons)) | exact fun _ hw => (hw.perm (pull_perm 2 _ _ _ rfl)).sub (by repeat (first | exact List.Sublist.refl _ | exact List.nil_sublist _ | apply List.Sublist.cons_cons | apply List.Sublist.cons)) | exact fun _ hw => (hw.perm (pull_perm 3 _ _ _ rfl)).sub (by repeat (first | exact List.Sublist.refl _ | exact List.nil_sublist _ | apply List.Sublist.cons_cons | apply List.Sublist.cons)) | exact fun _ hw => (hw.perm (pull_perm 4 _ _ _ rfl)).sub (by repeat (first | exact List.Sublist.refl _ | exact List.nil_sublist _ | apply List.Sublist.cons_cons | apply List.Sublist.cons))))
        | ((with_reducible apply (RH_take 7)); exact rfl; kernel_rfl; decide +kernel; decide +kernel; (first | exact fun _ hw => hw | exact fun _ hw => hw.sub (by repeat (first | exact List.Sublist.refl _ | exact List.nil_sublist _ | apply List.Sublist.cons_cons | apply List.Sublist.cons)) | exact fun _ hw => (hw.perm (pull_perm 1 _ _ _ rfl)).sub (by repeat (first | exact List.Sublist.refl _ | exact List.nil_sublist _ | apply List.Sublist.cons_cons | apply List.Sublist.cons)) | exact fun _ hw => (hw.perm (pull_perm 2 _ _ _ rfl)).sub (by repeat (first | exact List.Sublist.refl _ | exact List.nil_sublist _ | apply List.Sublist.cons_cons | apply List.Sublist.cons)) | exact fun _ hw => (hw.perm (pull_perm 3 _ _ _ rfl)).sub (by repeat (first | exact List.Sublist.refl _ | exact List.nil_sublist _ | apply List.Sublist.cons_cons | apply List.Sublist.cons)) | exact fun _ hw => (hw.perm (pull_perm 4 _ _ _ rfl)).sub (by repeat (first | exact List.Sublist.refl _ | exact List.nil_sublist _ | apply List.Sublist.cons_cons | apply List.Sublist.cons))))
        | ((with_reducible apply (RH_take 8)); exact rfl; kernel_rfl; decide +kernel; decide +kernel; (first | exact fun _ hw => hw | exact fun _ hw => hw.sub (by repeat (first | exact List.Sublist.refl _ | exact List.nil_sublist _ | apply List.Sublist.cons_cons | apply List.Sublist.cons)) | exact fun _ hw => (hw.perm (pull_perm 1 _ _ _ rfl)).sub (by repeat (first | exact List.Sublist.refl _ | exact List.nil_sublist _ | apply List.Sublist.cons_cons | apply List.Sublist.cons)) | exact fun _ hw => (hw.perm (pull_perm 2 _ _ _ rfl)).sub (by repeat (first | exact List.Sublist.refl _ | exact List.nil_sublist _ | apply List.Sublist.cons_cons | apply List.Sublist.cons)) | exact fun _ hw => (hw.perm (pull_perm 3 _ _ _ rfl)).sub (by repeat (first | exact List.Sublist.refl _ | exact List.nil_sublist _ | apply List.Sublist.cons_cons | apply List.Sublist.cons)) | exact fun _ hw => (hw.perm (pull_perm 4 _ _ _ rfl)).sub (by repeat (first | exact List.Sublist.refl _ | exact List.nil_sublist _ | apply List.Sublist.cons_cons | apply List.Sublist.cons))))
        | ((with_reducible apply (RH_take 9)); exact rfl; kernel_rfl; decide +kernel; decide +kernel; (first | exact fun _ hw => hw | exact fun _ hw => hw.sub (by repeat (first | exact List.Sublist.refl _ | exact List.nil_sublist _ | apply List.Sublist.cons_cons | apply List.Sublist.cons)) | exact fun _ hw => (hw.perm (pull_perm 1 _ _ _ rfl)).sub (by repeat (first | exact List.Sublist.refl _ | exact List.nil_sublist _ | apply List.Sublist.cons_cons | apply List.Sublist.cons)) | exact fun _ hw => (hw.perm (pull_perm 2 _ _ _ rfl)).sub (by repeat (first | exact List.Sublist.refl _ | exact List.nil_sublist _ | apply List.Sublist.cons_cons | apply List.Sublist.cons)) | exact fun _ hw => (hw.perm (pull_perm 3 _ _ _ rfl)).sub (by repeat (first | exact List.Sublist.refl _ | exact List.nil_sublist _ | apply List.Sublist.cons_cons | apply List.Sublist.cons)) | exact fun _ hw => (hw.perm (pull_perm 4 _ _ _ rfl)).sub (by repeat (first | exact List.Sublist.refl _ | exact List.nil_sublist _ | apply List.Sublist.cons_cons | apply List.Sublist.cons))))
        | ((with_reducible apply (RH_take 11)); exact rfl; kernel_rfl; decide +kernel; decide +kernel; (first | exact fun _ hw => hw | exact fun _ hw => hw.sub (by repeat (first | exact List.Sublist.refl _ | exact List.nil_sublist _ | apply List.Sublist.cons_cons | apply List.Sublist.cons)) | exact fun _ hw => (hw.perm (pull_perm 1 _ _ _ rfl)).sub (by repeat (first | exact List.Sublist.refl _ | exact List.nil_sublist _ | apply List.Sublist.cons_cons | apply List.Sublist.cons)) | exact fun _ hw => (hw.perm (pull_perm 2 _ _ _ rfl)).sub (by repeat (first | exact List.Sublist.refl _ | exact List.nil_sublist _ | apply List.Sublist.cons_cons | apply List.Sublist.cons)) | exact fun _ hw => (hw.perm (pull_perm 3 _ _ _ rfl)).sub (by repeat (first | exact List.Sublist.refl _ | exact List.nil_sublist _ | apply List.Sublist.cons_cons | apply List.Sublist.cons)) | exact fun _ hw => (hw.perm (pull_perm 4 _ _ _ rfl)).sub (by repeat (first | exact List.Sublist.refl _ | exact List.nil_sublist _ | apply List.Sublist.cons_cons | apply List.Sublist.cons))))
        | ((with_reducible apply (RH_take 12)); exact rfl; kernel_rfl; decide +kernel; decide +kernel; (first | exact fun _ hw => hw | exact fun _ hw => hw.sub (by repeat (first | exact List.Sublist.refl _ | exact List.nil_sublist _ | apply List.Sublist.cons_cons | apply List.Sublist.cons)) | exact fun _ hw => (hw.perm (pull_perm 1 _ _ _ rfl)).sub (by repeat (first | exact List.Sublist.refl _ | exact List.nil_sublist _ | apply List.Sublist.cons_cons | apply List.Sublist.cons)) | exact fun _ hw => (hw.perm (pull_perm 2 _ _ _ rfl)).sub (by repeat (first | exact List.Sublist.refl _ | exact List.nil_sublist _ | apply List.Sublist.cons_cons | apply List.Sublist.cons)) | exact fun _ hw => (hw.perm (pull_perm 3 _ _ _ rfl)).sub (by repeat (first | exact List.Sublist.refl _ | exact List.nil_sublist _ | apply List.Sublist.cons_cons | apply List.Sublist.cons)) | exact fun _ hw => (hw.perm (pull_perm 4 _ _ _ rfl)).sub (by repeat (first | exact List.Sublist.refl _ | exact List.nil_sublist _ | apply List.Sublist.cons_cons | apply List.Sublist.cons))))
        | ((with_reducible apply (RH_take 13)); exact rfl; kernel_rfl; decide +kernel; decide +kernel; (first | exact fun _ hw => hw | exact fun _ hw => hw.sub (by repeat (first | exact List.Sublist.refl _ | exact List.nil_sublist _ | apply List.Sublist.cons_cons | apply List.Sublist.cons)) | exact fun _ hw => (hw.perm (pull_perm 1 _ _ _ rfl)).sub (by repeat (first | exact List.Sublist.refl _ | exact List.nil_sublist _ | apply List.Sublist.cons_cons | apply List.Sublist.cons)) | exact fun _ hw => (hw.perm (pull_perm 2 _ _ _ rfl)).sub (by repeat (first | exact List.Sublist.refl _ | exact List.nil_sublist _ | apply List.Sublist.cons_cons | apply List.Sublist.cons)) | exact fun _ hw => (hw.perm (pull_perm 3 _ _ _ rfl)).sub (by repeat (first | exact List.Sublist.refl _ | exact List.nil_sublist _ | apply List.Sublist.cons_cons | apply List.Sublist.cons)) | exact fun _ hw => (hw.perm (pull_perm 4 _ _ _ rfl)).sub (by repeat (first | exact List.Sublist.refl _ | exact List.nil_sublist _ | apply List.Sublist.cons_cons | apply List.Sublist.cons))))
        | ((with_reducible apply (RH_take 16)); exact rfl; kernel_rfl; decide +kernel; decide +kernel; (first | exact fun _ hw => hw | exact fun _ hw => hw.sub (by repeat (first | exact List.Sublist.refl _ | exact List.nil_sublist _ | apply List.Sublist.cons_cons | apply List.Sublist.cons)) | exact fun _ hw => (hw.perm (pull_perm 1 _ _ _ rfl)).sub (by repeat (first | exact List.Sublist.refl _ | exact List.nil_sublist _ | apply List.Sublist.cons_cons | apply List.Sublist.cons)) | exact fun _ hw => (hw.perm (pull_perm 2 _ _ _ rfl)).sub (by repeat (first | exact List.Sublist.refl _ | exact List.nil_sublist _ | apply List.Sublist.cons_cons | apply List.Sublist.cons)) | exact fun _ hw => (hw.perm (pull_perm 3 _ _ _ rfl)).sub (by repeat (first | exact List.Sublist.refl _ | exact List.nil_sublist _ | apply List.Sublist.cons_cons | apply List.Sublist.cons)) | exact fun _ hw => (hw.perm (pull_perm 4 _ _ _ rfl)).sub (by repeat (first | exact List.Sublist.refl _ | exact List.nil_sublist _ | apply List.Sublist.cons_cons | apply List.Sublist.cons))))
        | ((with_reducible apply (RH_step 10)); decide +kernel; exact rfl)
        | ((with_reducible apply (RH_step 14)); decide +kernel; exact rfl)
        | ((with_reducible apply (RH_step 15)); decide +kernel; exact rfl)
        | ((with_reducible apply (RH_step2 10 14)); decide +kernel; exact rfl; exact rfl)
        | ((with_reducible apply RH_done); decide +kernel)
        | ((with_reducible apply post_take))
        | ((with_reducible apply post_step); (first | exact fun _ hw => hw | exact fun _ hw => hw.sub (by repeat (first | exact List.Sublist.refl _ | exact List.nil_sublist _ | apply List.Sublist.cons_cons | apply List.Sublist.cons)) | exact fun _ hw => (hw.perm (pull_perm 1 _ _ _ rfl)).sub (by repeat (first | exact List.Sublist.refl _ | exact List.nil_sublist _ | apply List.Sublist.cons_cons | apply List.Sublist.cons)) | exact fun _ hw => (hw.perm (pull_perm 2 _ _ _ rfl)).sub (by repeat (first | exact List.Sublist.refl _ | exact List.nil_sublist _ | apply List.Sublist.cons_cons | apply List.Sublist.cons)) | exact fun _ hw => (hw.perm (pull_perm 3 _ _ _ rfl)).sub (by repeat (first | exact List.Sublist.refl _ | exact List.nil_sublist _ | apply List.Sublist.cons_cons | apply List.Sublist.cons)) | exact fun _ hw => (hw.perm (pull_perm 4 _ _ _ rfl)).sub (by repeat (first | exact List.Sublist.refl _ | exact List.nil_sublist _ | apply List.Sublist.cons_cons | apply List.Sublist.cons))))
        | ((with_reducible apply (LR_call (f := 74))); exact rfl; exact rfl; exact rfl; exact fun w hw => iMeet_ok x y w b1 hvx hvy hb1)
        | ((with_reducible apply (LR_index_old (k))); exact rfl; exact rfl; exact rfl; exact rfl; exact ha; omega; exact hx; exact rfl; intro _ _)
        | ((with_reducible apply (LR_index_old (k))); exact rfl; exact rfl; exact rfl; exact rfl; exact hb'; omega; exact hy; exact rfl; intro _ _)
        | ((with_reducible apply RR_end))
        | ((with_reducible apply LR_pure); exact rfl; exact rfl; exact rfl)
        | ((with_reducible apply LR_field_own); exact rfl; exact rfl; exact rfl)
        | ((with_reducible apply LR_load_own 0); exact rfl; exact rfl; exact rfl; exact rfl; exact rfl)
        | ((with_reducible apply LR_load_own 1); exact rfl; exact rfl; exact rfl; exact rfl; exact rfl)
        | ((with_reducible apply LR_load_old_agg); exact rfl; exact rfl; exact rfl; assumption; exact rfl)
        | ((with_reducible apply LS_alloc); exact rfl; exact rfl; exact rfl; intro _)
        | ((with_reducible apply LS_store_agg 0); exact rfl; exact rfl; exact rfl; exact rfl; exact rfl; exact rfl; exact rfl; exact rfl)
      all_goals exact post_cut _ trivial ⟨rfl, rfl, rfl, rfl, rfl, rfl, rfl, rfl, trivial⟩ (fun _ hw => hw)
    · rintro gx _
      cases ok
      all_goals
        repeat' first
          | ((with_reducible apply (LS_append_one 3 0 zs (zS x y b1).lo)); exact rfl; exact rfl; exact rfl; exact rfl; exact rfl; exact rfl; exact rfl; exact rfl; exact rfl; exact rfl; exact h4.symm; omega; omega; omega; intro g4 c4 e1 e2)
          | ((with_reducible apply CS_seq))
          | ((with_reducible apply CS_region))
          | ((with_reducible apply RR_end))
          | ((with_reducible apply LR_pure); exact rfl; exact rfl; exact rfl)
          | ((with_reducible apply LR_skip); exact rfl; exact rfl)
          | ((with_reducible apply LR_add); exact rfl; exact rfl; exact rfl; exact rfl; omega; omega)
          | ((with_reducible apply LR_field_own); exact rfl; exact rfl; exact rfl)
          | ((with_reducible apply LR_load_own 0); exact rfl; exact rfl; exact rfl; exact rfl; exact rfl)
          | ((with_reducible apply LR_load_own 1); exact rfl; exact rfl; exact rfl; exact rfl; exact rfl)
          | ((with_reducible apply LS_store1 3); exact rfl; exact rfl; exact rfl; exact rfl; exact rfl; exact rfl)
          | ((with_reducible apply LS_buildSlice); exact rfl; exact rfl; exact rfl; exact rfl; exact rfl; exact rfl; exact rfl; intro _)
          | ((with_reducible apply post_seq))
          | ((with_reducible apply post_block_n))
        all_goals simp only [h4] at e1
      · exact post_round (i := (k, g1, c1, false, zs)) (k + 1, g4, c4, false, zs ++ [(zS x y b1).lo]) ⟨by omega, e1, e2, ok_no hst (fun h => absurd (h3.2 h) (by simp)), by simp [h4], fun h => by cases h⟩ (by dsimp only; omega) ⟨rfl, rfl, rfl, rfl, rfl, rfl, trivial⟩ (fun _ hw => by simp only [h4] at hw; exact hw.picks [0, 0, 2, 2, 2, 2] rfl)
      · exact post_round (i := (k, g1, c1, true, zs)) (k + 1, g4, c4, b1, zs ++ [(zS x y b1).lo]) ⟨by omega, e1, e2, by rw [hst, ← hb1]; exact ⟨fun h => ⟨h3.1 rfl, h⟩, fun h => h.2⟩, by simp [h4], fun h => by dsimp only at h ⊢; subst h; rw [hlt, h5 rfl, zS_lo]⟩ (by dsimp only; omega) ⟨rfl, rfl, rfl, rfl, rfl, rfl, trivial⟩ (fun _ hw => by simp only [h4] at hw; exact hw.picks [0, 0, 2, 2, 2, 2] rfl)
  · have hk3 : k = 3 := by omega
    subst hk3
    have hall : List.take 3 (lows a.cs b.cs) = lows a.cs b.cs := List.take_of_length_le (by rw [lows_len la lb]; omega)
    have hok : ok = bb := b_of (by rw [h3, ← hM]; exact Iff.rfl)
    subst hok
    cases ok
    · skip
      repeat' first
        | ((with_reducible apply CS_seq))
        | ((with_reducible apply CS_region))
        | ((with_reducible apply RR_end))
        | ((with_reducible apply LR_pure); exact rfl; exact rfl; exact rfl)
        | ((with_reducible apply LS_store_agg 5); exact rfl; exact rfl; exact rfl; exact rfl; exact rfl; exact rfl; exact rfl; exact rfl)
        | ((with_reducible apply LR_build); exact rfl; exact rfl; exact rfl; exact rfl)
        | ((with_reducible apply post_seq))
        | ((with_reducible apply post_then_ret))
        | ((with_reducible apply post_then_exit))
        | ((with_reducible apply post_block_eq))
        | ((with_reducible apply CS_ret))
        | ((with_reducible apply CS_exit))
        | ((with_reducible apply CS_cond_t); exact rfl)
        | ((with_reducible apply CS_cond_f); exact rfl)
      all_goals first | (exfalso; contradiction) | (exfalso; omega) | (exfalso; simp at hb <;> omega) | skip
      refine post_ret_ct 0 rfl rfl rfl rfl rfl fun w' hw' => ?_
      exact .inl ⟨rfl, rfl, hw'.nil⟩
    · have hz := h5 rfl
      rw [hall] at hz
      subst hz
      have hb0' : b0 = true := hb0.1 (h3.1 rfl).1
      subst hb0'
      rw [zS_lo]
      repeat' first
        | ((with_reducible apply CS_seq))
        | ((with_reducible apply CS_block))
        | ((with_reducible apply CS_region))
        | ((with_reducible apply RR_end))
        | ((with_reducible apply LR_pure); exact rfl; exact rfl; exact rfl)
        | ((with_reducible apply post_seq))
        | ((with_reducible apply post_then_exit))
        | ((with_reducible apply post_block_eq))
        | ((with_reducible apply CS_skip))
        | ((with_reducible apply CS_exit))
        | ((with_reducible apply CS_cond_f); exact rfl)
      all_goals first | (exfalso; contradiction) | (exfalso; omega) | (exfalso; simp at hb <;> omega) | skip
      refine CS_loop (ι := Nat × Nat × Nat) (fun i => [(2, .pointer (some ⟨ga, 0, none⟩)), (3, .pointer (some ⟨gb, 0, none⟩)), (4, .pointer (some ⟨gr, 0, none⟩)), (8, .pointer (some ⟨gp, 0, none⟩)), (12, .int .i64 ((i.1 : Int) + 1))]) (fun i => Wd w [ptE gp (.int .i64 (mx a.tot b.tot)) (.slice (some ⟨g1, 0, none⟩) 3 c1) (.slice (some ⟨i.2.1, 0, none⟩) (cps a.cp b.cp i.1).length i.2.2), intE i.2.1 i.2.2 (cps a.cp b.cp i.1), intE g1 c1 (lows a.cs b.cs), gdE ga a, gdE gb b, ptE gr (.int .i64 0) (.slice none 0 0) (.slice none 0 0)]) (fun i => i.1 ≤ 9 ∧ (cps a.cp b.cp i.1).length ≤ i.2.2 ∧ i.2.2 ≤ maxLen) (fun i => 9 - i.1) (0, gq, 0) ⟨by omega, by simp [cps_zero], by simp⟩ ⟨rfl, rfl, rfl, rfl, rfl, trivial⟩ (fun _ hw => hw.picks [0, 1, 0, 0, 0, 0] rfl) ?_
      rintro ⟨j, g2, c2⟩ ⟨q0, q1, q2⟩
      dsimp only at q0 q1 q2 ⊢
      have hcl := cps_len a.cp b.cp j
      by_cases hj : j < 9
      · by_cases hy : a.cp = (j : Int) + 1 ∨ b.cp = (j : Int) + 1
        · have hN := cps_yes hy
          repeat' first
            | ((with_reducible apply (LS_append_one 2 0 (cps a.cp b.cp j) ((j : Int) + 1))); exact rfl; exact rfl; exact rfl; exact rfl; exact rfl; exact rfl; exact rfl; exact rfl; exact rfl; exact rfl; exact rfl; omega; omega; omega; intro g4 c4 e1 e2)
            | ((with_reducible apply CS_seq))
            | ((with_reducible apply CS_block))
            | ((with_reducible apply CS_region))
            | ((with_reducible apply RR_end))
            | ((with_reducible apply LR_pure); exact rfl; exact rfl; exact rfl)
            | ((with_reducible apply LR_skip); exact rfl; exact rfl)
            | ((with_reducible apply LR_add); exact rfl; exact rfl; exact rfl; exact rfl; omega; omega)
            | ((with_reducible apply LR_field_own); exact rfl; exact rfl; exact rfl)
            | ((with_reducible apply LR_load_own 0); exact rfl; exact rfl; exact rfl; exact rfl; exact rfl)
            | ((with_reducible apply LR_load_own 3); exact rfl; exact rfl; exact rfl; exact rfl; exact rfl)
            | ((with_reducible apply LR_load_own 4); exact rfl; exact rfl; exact rfl; exact rfl; exact rfl)
            | ((with_reducible apply LS_store1 2); exact rfl; exact rfl; exact rfl; exact rfl; exact rfl; exact rfl)
            | ((with_reducible apply LS_buildSlice); exact rfl; exact rfl; exact rfl; exact rfl; exact rfl; exact rfl; exact rfl; intro _)
            | ((with_reducible apply post_seq))
            | ((with_reducible apply post_block_n))
            | ((with_reducible apply CS_skip))
            | ((with_reducible apply CS_cond_t); exact rfl)
            | ((with_reducible apply CS_cond_d); exact rfl; all_goals intro hb; all_goals try (exfalso; omega))
            | ((with_reducible apply LR_caseg_d); exact rfl; exact rfl; all_goals intro hb; all_goals try (exfalso; omega))
          all_goals first | (exfalso; contradiction) | (exfalso; omega) | (exfalso; simp at hb <;> omega) | skip
          all_goals exact post_round (i := (j, g2, c2)) (j + 1, g4, c4) ⟨by omega, by rw [hN, List.length_append]; exact e1, e2⟩ (by dsimp only; omega) ⟨rfl, rfl, rfl, rfl, rfl, trivial⟩ (fun _ hw => by dsimp only; rw [hN, List.length_append]; exact hw.picks [0, 0, 1, 1, 1, 1] rfl)
        · have hN := cps_no hy
          repeat' first
            | ((with_reducible apply CS_seq))
            | ((with_reducible apply CS_block))
            | ((with_reducible apply CS_region))
            | ((with_reducible apply RR_end))
            | ((with_reducible apply LR_pure); exact rfl; exact rfl; exact rfl)
            | ((with_reducible apply LR_add); exact rfl; exact rfl; exact rfl; exact rfl; omega; omega)
            | ((with_reducible apply LR_field_own); exact rfl; exact rfl; exact rfl)
            | ((with_reducible apply LR_load_own 3); exact rfl; exact rfl; exact rfl; exact rfl; exact rfl)
            | ((with_reducible apply LR_load_own 4); exact rfl; exact rfl; exact rfl; exact rfl; exact rfl)
            | ((with_reducible apply post_seq))
            | ((with_reducible apply post_block_n))
            | ((with_reducible apply CS_skip))
            | ((with_reducible apply CS_cond_d); exact rfl; all_goals intro hb; all_goals try (exfalso; omega))
            | ((with_reducible apply LR_caseg_d); exact rfl; exact rfl; all_goals intro hb; all_goals try (exfalso; omega))
          all_goals first | (exfalso; contradiction) | (exfalso; omega) | (exfalso; simp at hb <;> omega) | skip
          all_goals exact post_round (i := (j, g2, c2)) (j + 1, g2, c2) ⟨by omega, by rw [hN]; exact q1, q2⟩ (by dsimp only; omega) ⟨rfl, rfl, rfl, rfl, rfl, trivial⟩ (fun _ hw => by dsimp only; rw [hN]; exact hw)
      · have hj9 : j = 9 := by omega
        subst hj9
        repeat' first
          | ((with_reducible apply CS_seq))
          | ((with_reducible apply CS_region))
          | ((with_reducible apply RR_end))
          | ((with_reducible apply LR_pure); exact rfl; exact rfl; exact rfl)
          | ((with_reducible apply LR_load_own_agg 0); exact rfl; exact rfl; exact rfl; exact rfl; exact rfl)
          | ((with_reducible apply LS_store_agg 5); exact rfl; exact rfl; exact rfl; exact rfl; exact rfl; exact rfl; exact rfl; exact rfl)
          | ((with_reducible apply post_seq))
          | ((with_reducible apply post_then_exit))
          | ((with_reducible apply post_block_eq))
          | ((with_reducible apply CS_ret))
          | ((with_reducible apply CS_exit))
          | ((with_reducible apply CS_cond_f); exact rfl)
        all_goals first | (exfalso; contradiction) | (exfalso; omega) | (exfalso; simp at hb <;> omega) | skip
        refine post_ret_ct 0 rfl rfl rfl rfl rfl fun w' hw' => ?_
        exact .inr ⟨rfl, ⟨g1, c1, g2, c2⟩, ⟨h1, h2, q1, q2⟩, rfl, hw'.picks [3, 2] rfl⟩
end Go.Proofs.Ytpflkichnjfgkaa
