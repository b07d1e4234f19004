/- The walks of the meeting of spans and guards, of the program and of the reference. No condition beyond those that each theorem states. -/
import Derived.Test.YtpflkichnjfgkaaWRu1
import Derived.Test.YtpflkichnjfgkaaPPt
import Derived.Test.YtpflkichnjfgkaaReg
namespace Go.Proofs.Ytpflkichnjfgkaa
open Go.RowKit
attribute [local irreducible] Calls
theorem meet_ok (a b : Sp) (w : World) : Calls Try.prog 111 #[spV a, spV b] w (Gives (.tuple #[spV ⟨mx a b, mn a b⟩, .bool (decide (mx a b ≤ mn a b))]) w) := by
  refine enter (vs := [spV a, spV b]) Try.func111 rfl Try.ntmps111 rfl ?_
  repeat' first
    | ((with_reducible apply CS_seq))
    | ((with_reducible apply CS_region))
    | ((with_reducible apply RR_end))
    | ((with_reducible apply LR_pure); exact rfl; exact rfl; exact rfl)
    | ((with_reducible apply LR_min); exact rfl; exact rfl; exact rfl; exact rfl)
    | ((with_reducible apply LR_max); exact rfl; exact rfl; exact rfl; exact rfl)
    | ((with_reducible apply LR_field_own); exact rfl; exact rfl; exact rfl)
    | ((with_reducible apply LR_load_own 1); exact rfl; exact rfl; exact rfl; exact rfl; exact rfl)
    | ((with_reducible apply LR_load_own 2); exact rfl; exact rfl; exact rfl; exact rfl; exact rfl)
    | ((with_reducible apply LS_alloc); exact rfl; exact rfl; exact rfl; intro _)
    | ((with_reducible apply LS_box); exact rfl; exact rfl; exact rfl; exact rfl; intro _)
    | ((with_reducible apply LS_store_agg 0); exact rfl; exact rfl; exact rfl; exact rfl; exact rfl; exact rfl; exact rfl; exact rfl)
    | ((with_reducible apply LR_build); exact rfl; exact rfl; exact rfl; exact rfl)
    | ((with_reducible apply post_seq))
  rename_i g1 g2 gr go
  refine CS_regionH (id := 2) 8 (Wd w [⟨go, 29, 2, [.int .i64 (max a.lo b.lo), .int .i64 (min a.hi b.hi)]⟩]) (fun _ : Unit => [(4, .pointer (some ⟨gr, 0, none⟩)), (5, .bool (decide (mx a b ≤ mn a b)))]) (fun _ => Wd w [⟨gr, 29, 2, [.int .i64 (mx a b), .int .i64 (mn a b)]⟩]) (fun _ => True) (by kernel_rfl) rfl ?_ ?_
  · skip
    repeat' first
      | ((with_reducible apply (RH_take 0)); exact rfl; kernel_rfl; decide +kernel; decide +kernel; (first | exact fun _ hw => hw | exact fun _ hw => hw.sub (by repeat (first | exact List.Sublist.refl _ | exact List.nil_sublist _ | apply List.Sublist.cons_cons | apply List.Sublist.cons)) | exact fun _ hw => (hw.perm (pull_perm 1 _ _ _ rfl)).sub (by repeat (first | exact List.Sublist.refl _ | exact List.nil_sublist _ | apply List.Sublist.cons_cons | apply List.Sublist.cons)) | exact fun _ hw => (hw.perm (pull_perm 2 _ _ _ rfl)).sub (by repeat (first | exact List.Sublist.refl _ | exact List.nil_sublist _ | apply List.Sublist.cons_cons | apply List.Sublist.cons)) | exact fun _ hw => (hw.perm (pull_perm 3 _ _ _ rfl)).sub (by repeat (first | exact List.Sublist.refl _ | exact List.nil_sublist _ | apply List.Sublist.cons_cons | apply List.Sublist.cons)) | exact fun _ hw => (hw.perm (pull_perm 4 _ _ _ rfl)).sub (by repeat (first | exact List.Sublist.refl _ | exact List.nil_sublist _ | apply List.Sublist.cons_cons | apply List.Sublist.cons))))
      | ((with_reducible apply (RH_take 1)); exact rfl; kernel_rfl; decide +kernel; decide +kernel; (first | exact fun _ hw => hw | exact fun _ hw => hw.sub (by repeat (first | exact List.Sublist.refl _ | exact List.nil_sublist _ | apply List.Sublist.cons_cons | apply List.Sublist.cons)) | exact fun _ hw => (hw.perm (pull_perm 1 _ _ _ rfl)).sub (by repeat (first | exact List.Sublist.refl _ | exact List.nil_sublist _ | apply List.Sublist.cons_cons | apply List.Sublist.cons)) | exact fun _ hw => (hw.perm (pull_perm 2 _ _ _ rfl)).sub (by repeat (first | exact List.Sublist.refl _ | exact List.nil_sublist _ | apply List.Sublist.cons_cons | apply List.Sublist.cons)) | exact fun _ hw => (hw.perm (pull_perm 3 _ _ _ rfl)).sub (by repeat (first | exact List.Sublist.refl _ | exact List.nil_sublist _ | apply List.Sublist.cons_cons | apply List.Sublist.cons)) | exact fun _ hw => (hw.perm (pull_perm 4 _ _ _ rfl)).sub (by repeat (first | exact List.Sublist.refl _ | exact List.nil_sublist _ | apply List.Sublist.cons_cons | apply List.Sublist.cons))))
      | ((with_reducible apply (RH_take 2)); exact rfl; kernel_rfl; decide +kernel; decide +kernel; (first | exact fun _ hw => hw | exact fun _ hw => hw.sub (by repeat (first | exact List.Sublist.refl _ | exact List.nil_sublist _ | apply List.Sublist.cons_cons | apply List.Sublist.cons)) | exact fun _ hw => (hw.perm (pull_perm 1 _ _ _ rfl)).sub (by repeat (first | exact List.Sublist.refl _ | exact List.nil_sublist _ | apply List.Sublist.cons_cons | apply List.Sublist.cons)) | exact fun _ hw => (hw.perm (pull_perm 2 _ _ _ rfl)).sub (by repeat (first | exact List.Sublist.refl _ | exact List.nil_sublist _ | apply List.Sublist.cons_cons | apply List.Sublist.cons)) | exact fun _ hw => (hw.perm (pull_perm 3 _ _ _ rfl)).sub (by repeat (first | exact List.Sublist.refl _ | exact List.nil_sublist _ | apply List.Sublist.cons_cons | apply List.Sublist.cons)) | exact fun _ hw => (hw.perm (pull_perm 4 _ _ _ rfl)).sub (by repeat (first | exact List.Sublist.refl _ | exact List.nil_sublist _ | apply List.Sublist.cons_cons | apply List.Sublist.cons))))
      | ((with_reducible apply (RH_take 3)); exact rfl; kernel_rfl; decide +kernel; decide +kernel; (first | exact fun _ hw => hw | exact fun _ hw => hw.sub (by repeat (first | exact List.Sublist.refl _ | exact List.nil_sublist _ | apply List.Sublist.cons_cons | apply List.Sublist.cons)) | exact fun _ hw => (hw.perm (pull_perm 1 _ _ _ rfl)).sub (by repeat (first | exact List.Sublist.refl _ | exact List.nil_sublist _ | apply List.Sublist.cons_cons | apply List.Sublist.cons)) | exact fun _ hw => (hw.perm (pull_perm 2 _ _ _ rfl)).sub (by repeat (first | exact List.Sublist.refl _ | exact List.nil_sublist _ | apply List.Sublist.cons_cons | apply List.Sublist.cons)) | exact fun _ hw => (hw.perm (pull_perm 3 _ _ _ rfl)).sub (by repeat (first | exact List.Sublist.refl _ | exact List.nil_sublist _ | apply List.Sublist.cons_cons | apply List.Sublist.cons)) | exact fun _ hw => (hw.perm (pull_perm 4 _ _ _ rfl)).sub (by repeat (first | exact List.Sublist.refl _ | exact List.nil_sublist _ | apply List.Sublist.cons_cons | apply List.Sublist.cons))))
      | ((with_reducible apply (RH_take 4)); exact rfl; kernel_rfl; decide +kernel; decide +kernel; (first | exact fun _ hw => hw | exact fun _ hw => hw.sub (by repeat (first | exact List.Sublist.refl _ | exact List.nil_sublist _ | apply List.Sublist.cons_cons | apply List.Sublist.cons)) | exact fun _ hw => (hw.perm (pull_perm 1 _ _ _ rfl)).sub (by repeat (first | exact List.Sublist.refl _ | exact List.nil_sublist _ | apply List.Sublist.cons_cons | apply List.Sublist.cons)) | exact fun _ hw => (hw.perm (pull_perm 2 _ _ _ rfl)).sub (by repeat (first | exact List.Sublist.refl _ | exact List.nil_sublist _ | apply List.Sublist.cons_cons | apply List.Sublist.cons)) | exact fun _ hw => (hw.perm (pull_perm 3 _ _ _ rfl)).sub (by repeat (first | exact List.Sublist.refl _ | exact List.nil_sublist _ | apply List.Sublist.cons_cons | apply List.Sublist.cons)) | exact fun _ hw => (hw.perm (pull_perm 4 _ _ _ rfl)).sub (by repeat (first | exact List.Sublist.refl _ | exact List.nil_sublist _ | apply List.Sublist.cons_cons | apply List.Sublist.cons))))
      | ((with_reducible apply (RH_take 5)); exact rfl; kernel_rfl; decide +kernel; decide +kernel; (first | exact fun _ hw => hw | exact fun _ hw => hw.sub (by repeat (first | exact List.Sublist.refl _ | exact List.nil_sublist _ | apply List.Sublist.cons_cons | apply List.Sublist.cons)) | exact fun _ hw => (hw.perm (pull_perm 1 _ _ _ rfl)).sub (by repeat (first | exact List.Sublist.refl _ | exact List.nil_sublist _ | apply List.Sublist.cons_cons | apply List.Sublist.cons)) | exact fun _ hw => (hw.perm (pull_perm 2 _ _ _ rfl)).sub (by repeat (first | exact List.Sublist.refl _ | exact List.nil_sublist _ | apply List.Sublist.cons_cons | apply List.Sublist.cons)) | exact fun _ hw => (hw.perm (pull_perm 3 _ _ _ rfl)).sub (by repeat (first | exact List.Sublist.refl _ | exact List.nil_sublist _ | apply List.Sublist.cons_cons | apply List.Sublist.cons)) | exact fun _ hw => (hw.perm (pull_perm 4 _ _ _ rfl)).sub (by repeat (first | exact List.Sublist.refl _ | exact List.nil_sublist _ | apply List.Sublist.cons_cons | apply List.Sublist.cons))))
      | ((with_reducible apply (RH_take 7)); exact rfl; kernel_rfl; decide +kernel; decide +kernel; (first | exact fun _ hw => hw | exact fun _ hw => hw.sub (by repeat (first | exact List.Sublist.refl _ | exact List.nil_sublist _ | apply List.Sublist.cons_cons | apply List.Sublist.cons)) | exact fun _ hw => (hw.perm (pull_perm 1 _ _ _ rfl)).sub (by repeat (first | exact List.Sublist.refl _ | exact List.nil_sublist _ | apply List.Sublist.cons_cons | apply List.Sublist.cons)) | exact fun _ hw => (hw.perm (pull_perm 2 _ _ _ rfl)).sub (by repeat (first | exact List.Sublist.refl _ | exact List.nil_sublist _ | apply List.Sublist.cons_cons | apply List.Sublist.cons)) | exact fun _ hw => (hw.perm (pull_perm 3 _ _ _ rfl)).sub (by repeat (first | exact List.Sublist.refl _ | exact List.nil_sublist _ | apply List.Sublist.cons_cons | apply List.Sublist.cons)) | exact fun _ hw => (hw.perm (pull_perm 4 _ _ _ rfl)).sub (by repeat (first | exact List.Sublist.refl _ | exact List.nil_sublist _ | apply List.Sublist.cons_cons | apply List.Sublist.cons))))
      | ((with_reducible apply (RH_step 6)); decide +kernel; exact rfl)
      | ((with_reducible apply RH_done); decide +kernel)
      | ((with_reducible apply post_take))
      | ((with_reducible apply post_step); (first | exact fun _ hw => hw | exact fun _ hw => hw.sub (by repeat (first | exact List.Sublist.refl _ | exact List.nil_sublist _ | apply List.Sublist.cons_cons | apply List.Sublist.cons)) | exact fun _ hw => (hw.perm (pull_perm 1 _ _ _ rfl)).sub (by repeat (first | exact List.Sublist.refl _ | exact List.nil_sublist _ | apply List.Sublist.cons_cons | apply List.Sublist.cons)) | exact fun _ hw => (hw.perm (pull_perm 2 _ _ _ rfl)).sub (by repeat (first | exact List.Sublist.refl _ | exact List.nil_sublist _ | apply List.Sublist.cons_cons | apply List.Sublist.cons)) | exact fun _ hw => (hw.perm (pull_perm 3 _ _ _ rfl)).sub (by repeat (first | exact List.Sublist.refl _ | exact List.nil_sublist _ | apply List.Sublist.cons_cons | apply List.Sublist.cons)) | exact fun _ hw => (hw.perm (pull_perm 4 _ _ _ rfl)).sub (by repeat (first | exact List.Sublist.refl _ | exact List.nil_sublist _ | apply List.Sublist.cons_cons | apply List.Sublist.cons))))
      | ((with_reducible apply RR_end))
      | ((with_reducible apply LR_pure); exact rfl; exact rfl; exact rfl)
      | ((with_reducible apply LR_field_own); exact rfl; exact rfl; exact rfl)
      | ((with_reducible apply LR_load_own 0); exact rfl; exact rfl; exact rfl; exact rfl; exact rfl)
      | ((with_reducible apply LR_load_own_agg 0); exact rfl; exact rfl; exact rfl; exact rfl; exact rfl)
      | ((with_reducible apply LS_store_agg 1); exact rfl; exact rfl; exact rfl; exact rfl; exact rfl; exact rfl; exact rfl; exact rfl)
    all_goals exact post_cut () trivial ⟨rfl, rfl, trivial⟩ (fun _ hw => hw.sub (by repeat (first | exact List.Sublist.refl _ | exact List.nil_sublist _ | apply List.Sublist.cons_cons | apply List.Sublist.cons)))
  · rintro _ _
    repeat' first
      | ((with_reducible apply post_seq))
      | ((with_reducible apply CS_ret))
    refine post_ret_ct 0 rfl rfl rfl rfl rfl fun w' hw' => ?_
    exact ⟨rfl, hw'.below⟩
def zS (x y : Sp) (b : Bool) : Sp := if b = true then ⟨mx x y, mn x y⟩ else ⟨0, 0⟩
theorem iMeet_ok (a b : Sp) (w : World) (bb : Bool) (ha : VSp a) (hb' : VSp b) (hB : mx a b ≤ mn a b ↔ bb = true) : Calls Try.prog 74 #[spV a, spV b] w (Gives (.tuple #[spV (zS a b bb), .bool bb]) w) := by
  have h1 : VSp a ↔ true = true := by simp [ha]
  have h2 : VSp b ↔ true = true := by simp [hb']
  unfold zS mx mn at *
  cases bb
  all_goals simp only [Bool.false_eq_true, iff_false, iff_true, if_false, if_true] at hB ⊢
  all_goals
    refine enter (vs := [spV a, spV b]) Try.func74 rfl Try.ntmps74 rfl ?_
    repeat' first
      | ((with_reducible apply (LR_call (f := 81))); exact rfl; exact rfl; exact rfl; exact fun w hw => iValidSpan_ok a w true h1)
      | ((with_reducible apply (LR_call (f := 81))); exact rfl; exact rfl; exact rfl; exact fun w hw => iValidSpan_ok b w true h2)
      | ((with_reducible apply CS_seq))
      | ((with_reducible apply CS_region))
      | ((with_reducible apply RR_end))
      | ((with_reducible apply LR_pure); exact rfl; exact rfl; exact rfl)
      | ((with_reducible apply LR_min); exact rfl; exact rfl; exact rfl; exact rfl)
      | ((with_reducible apply LR_max); exact rfl; exact rfl; exact rfl; exact rfl)
      | ((with_reducible apply LR_field_own); exact rfl; exact rfl; exact rfl)
      | ((with_reducible apply LR_load_own 0); exact rfl; exact rfl; exact rfl; exact rfl; exact rfl)
      | ((with_reducible apply LR_load_own 1); exact rfl; exact rfl; exact rfl; exact rfl; exact rfl)
      | ((with_reducible apply LR_load_own 2); exact rfl; exact rfl; exact rfl; exact rfl; exact rfl)
      | ((with_reducible apply LR_load_own_agg 0); exact rfl; exact rfl; exact rfl; exact rfl; exact rfl)
      | ((with_reducible apply LR_load_own_agg 2); exact rfl; exact rfl; exact rfl; exact rfl; exact rfl)
      | ((with_reducible apply LR_load_own_agg 3); exact rfl; exact rfl; exact rfl; exact rfl; exact rfl)
      | ((with_reducible apply LS_alloc); exact rfl; exact rfl; exact rfl; intro _)
      | ((with_reducible apply LS_box); exact rfl; exact rfl; exact rfl; exact rfl; intro _)
      | ((with_reducible apply LS_store_agg 0); exact rfl; exact rfl; exact rfl; exact rfl; exact rfl; exact rfl; exact rfl; exact rfl)
      | ((with_reducible apply LS_store_agg 1); exact rfl; exact rfl; exact rfl; exact rfl; exact rfl; exact rfl; exact rfl; exact rfl)
      | ((with_reducible apply LR_build); exact rfl; exact rfl; exact rfl; exact rfl)
      | ((with_reducible apply post_seq))
      | ((with_reducible apply post_then_ret))
      | ((with_reducible apply CS_skip))
      | ((with_reducible apply CS_ret))
      | ((with_reducible apply CS_cond_d); exact rfl; all_goals intro hb; all_goals try (exfalso; omega))
    all_goals (refine post_ret_ct 0 rfl rfl rfl rfl rfl fun w' hw' => ?_; exact ⟨rfl, hw'.below⟩)
set_option maxHeartbeats 4000000 in
theorem both_ok (a b : Gd) (w : World) (ha : GOk w a) (hb' : GOk w b) (la : a.cs.length = 3) (lb : b.cs.length = 3) (bb : Bool) (hM : Meets a b ↔ bb = true) : Calls Try.prog 83 #[gdV a, gdV b] w
    (fun x w' => ∃ i : PtG, (3 ≤ i.c1 ∧ i.c1 ≤ maxLen ∧ (cps a.cp b.cp 9).length ≤ i.c2 ∧ i.c2 ≤ maxLen) ∧ x = .returned (.tuple #[ptV (mx a.tot b.tot) 3 (cps a.cp b.cp 9).length i, .bool bb]) ∧ Wd w [intE i.g1 i.c1 (lows a.cs b.cs), intE i.g2 i.c2 (cps a.cp b.cp 9)] w') := by
  have hml : maxLen = 9223372036854775807 := rfl
  refine enter (vs := [gdV a, gdV b]) Try.func83 rfl Try.ntmps83 rfl ?_
  repeat' first
    | ((with_reducible apply (LR_call (f := 111))); exact rfl; exact rfl; exact rfl; exact fun w hw => meet_ok _ _ w)
    | ((with_reducible apply CS_seq))
    | ((with_reducible apply CS_block))
    | ((with_reducible apply CS_region))
    | ((with_reducible apply RR_end))
    | ((with_reducible apply LR_pure); exact rfl; exact rfl; exact rfl)
    | ((with_reducible apply LR_field_own); exact rfl; exact rfl; exact rfl)
    | ((with_reducible apply LR_load_own 0); exact rfl; exact rfl; exact rfl; exact rfl; exact rfl)
    | ((with_reducible apply LR_load_own_agg 4); exact rfl; exact rfl; exact rfl; exact rfl; exact rfl)
    | ((with_reducible apply LR_load_own_agg 5); exact rfl; exact rfl; exact rfl; exact rfl; exact rfl)
    | ((with_reducible apply LS_alloc); exact rfl; exact rfl; exact rfl; intro _)
    | ((with_reducible apply LS_box); exact rfl; exact rfl; exact rfl; exact rfl; intro _)
    | ((with_reducible apply LS_store1 1); exact rfl; exact rfl; exact rfl; exact rfl; exact rfl; exact rfl)
    | ((with_reducible apply LS_store_agg 0); exact rfl; exact rfl; exact rfl; exact rfl; exact rfl; exact rfl; exact rfl; exact rfl)
    | ((with_reducible apply LS_buildSlice); exact rfl; exact rfl; exact rfl; exact rfl; exact rfl; exact rfl; exact rfl; intro _)
    | ((with_reducible apply LR_build); exact rfl; exact rfl; exact rfl; exact rfl)
    | ((with_reducible apply post_seq))
  rename_i ga gb gr gc gq gp gt
  refine CS_loop (ι := Nat × Nat × Nat × Bool) (fun i => [(2, .pointer (some ⟨ga, 0, none⟩)), (3, .pointer (some ⟨gb, 0, none⟩)), (4, .pointer (some ⟨gr, 0, none⟩)), (6, .pointer (some ⟨gp, 0, none⟩)), (8, .bool i.2.2.2), (9, .int .i64 (i.1 : Int))]) (fun i => Wd w [ptE gp (.int .i64 (mx a.tot b.tot)) (.slice (some ⟨i.2.1, 0, none⟩) i.1 i.2.2.1) (.slice (some ⟨gq, 0, none⟩) 0 0), intE i.2.1 i.2.2.1 ((lows a.cs b.cs).take i.1), intE gq 0 [], gdE ga a, gdE gb b, ptE gr (.int .i64 0) (.slice none 0 0) (.slice none 0 0)]) (fun i => i.1 ≤ 3 ∧ i.1 ≤ i.2.2.1 ∧ i.2.2.1 ≤ maxLen ∧ (i.2.2.2 = true ↔ MeetsTo a b i.1)) (fun i => 3 - i.1) (0, gc, 0, decide (mx a.tot b.tot ≤ mn a.tot b.tot)) ⟨by omega, by simp, by simp, by simp [meetsTo_zero]⟩ ⟨rfl, rfl, rfl, rfl, rfl, rfl, trivial⟩ (fun _ hw => hw.picks [0, 2, 1, 3, 2, 1] rfl) ?_
  rintro ⟨k, g1, c1, ok⟩ ⟨h0, h1, h2, h3⟩
  dsimp only at h0 h1 h2 h3 ⊢
  by_cases hk : k < 3
  · obtain ⟨x, hx⟩ : ∃ c, a.cs[k]? = some c := ⟨_, List.getElem?_eq_getElem (by omega)⟩
    obtain ⟨y, hy⟩ : ∃ c, b.cs[k]? = some c := ⟨_, List.getElem?_eq_getElem (by omega)⟩
    have hlt := lows_take hx hy
    have hll := lows_len la lb
    have hst := meetsTo_succ hx hy
    repeat' first
      | ((with_reducible apply CS_seq))
      | ((with_reducible apply CS_block))
      | ((with_reducible apply CS_region))
      | ((with_reducible apply RR_end))
      | ((with_reducible apply LR_pure); exact rfl; exact rfl; exact rfl)
      | ((with_reducible apply post_seq))
      | ((with_reducible apply CS_skip))
      | ((with_reducible apply CS_cond_d); exact rfl; all_goals intro hb; all_goals try (exfalso; omega))
    refine CS_regionH (id := 7) 17 (Wd w [gdE ga a, gdE gb b]) (fun g : Nat => [(2, .pointer (some ⟨ga, 0, none⟩)), (3, .pointer (some ⟨gb, 0, none⟩)), (4, .pointer (some ⟨gr, 0, none⟩)), (6, .pointer (some ⟨gp, 0, none⟩)), (8, .bool ok), (9, .int .i64 (k : Int)), (10, .pointer (some ⟨g, 0, none⟩)), (11, .bool (decide (mx x y ≤ mn x y)))]) (fun g => Wd w [⟨g, 29, 2, [.int .i64 (mx x y), .int .i64 (mn x y)]⟩, ptE gp (.int .i64 (mx a.tot b.tot)) (.slice (some ⟨g1, 0, none⟩) k c1) (.slice (some ⟨gq, 0, none⟩) 0 0), intE g1 c1 ((lows a.cs b.cs).take k), intE gq 0 [], gdE ga a, gdE gb b, ptE gr (.int .i64 0) (.slice none 0 0) (.slice none 0 0)]) (fun _ => True) (by kernel_rfl) rfl ?_ ?_
    · skip
      repeat' first
        | ((with_reducible apply (RH_take 0)); exact rfl; kernel_rfl; decide +kernel; decide +kernel; (first | exact fun _ hw => hw | exact fun _ hw => hw.sub (by repeat (first | exact List.Sublist.refl _ | exact List.nil_sublist _ | apply List.Sublist.cons_cons | apply List.Sublist.cons)) | exact fun _ hw => (hw.perm (pull_perm 1 _ _ _ rfl)).sub (by repeat (first | exact List.Sublist.refl _ | exact List.nil_sublist _ | apply List.Sublist.cons_cons | apply List.Sublist.cons)) | exact fun _ hw => (hw.perm (pull_perm 2 _ _ _ rfl)).sub (by repeat (first | exact List.Sublist.refl _ | exact List.nil_sublist _ | apply List.Sublist.cons_cons | apply List.Sublist.cons)) | exact fun _ hw => (hw.perm (pull_perm 3 _ _ _ rfl)).sub (by repeat (first | exact List.Sublist.refl _ | exact List.nil_sublist _ | apply List.Sublist.cons_cons | apply List.Sublist.cons)) | exact fun _ hw => (hw.perm (pull_perm 4 _ _ _ rfl)).sub (by repeat (first | exact List.Sublist.refl _ | exact List.nil_sublist _ | apply List.Sublist.cons_cons | apply List.Sublist.cons))))
        | ((with_reducible apply (RH_take 1)); exact rfl; kernel_rfl; decide +kernel; decide +kernel; (first | exact fun _ hw => hw | exact fun _ hw => hw.sub (by repeat (first | exact List.Sublist.refl _ | exact List.nil_sublist _ | apply List.Sublist.cons_cons | apply List.Sublist.cons)) | exact fun _ hw => (hw.perm (pull_perm 1 _ _ _ rfl)).sub (by repeat (first | exact List.Sublist.refl _ | exact List.nil_sublist _ | apply List.Sublist.cons_cons | apply List.Sublist.cons)) | exact fun _ hw => (hw.perm (pull_perm 2 _ _ _ rfl)).sub (by repeat (first | exact List.Sublist.refl _ | exact List.nil_sublist _ | apply List.Sublist.cons_cons | apply List.Sublist.cons)) | exact fun _ hw => (hw.perm (pull_perm 3 _ _ _ rfl)).sub (by repeat (first | exact List.Sublist.refl _ | exact List.nil_sublist _ | apply List.Sublist.cons_cons | apply List.Sublist.cons)) | exact fun _ hw => (hw.perm (pull_perm 4 _ _ _ rfl)).sub (by repeat (first | exact List.Sublist.refl _ | exact List.nil_sublist _ | apply List.Sublist.cons_cons | apply List.Sublist.cons))))
        | ((with_reducible apply (RH_take 2)); exact rfl; kernel_rfl; decide +kernel; decide +kernel; (first | exact fun _ hw => hw | exact fun _ hw => hw.sub (by repeat (first | exact List.Sublist.refl _ | exact List.nil_sublist _ | apply List.Sublist.cons_cons | apply List.Sublist.cons)) | exact fun _ hw => (hw.perm (pull_perm 1 _ _ _ rfl)).sub (by repeat (first | exact List.Sublist.refl _ | exact List.nil_sublist _ | apply List.Sublist.cons_cons | apply List.Sublist.cons)) | exact fun _ hw => (hw.perm (pull_perm 2 _ _ _ rfl)).sub (by repeat (first | exact List.Sublist.refl _ | exact List.nil_sublist _ | apply List.Sublist.cons_cons | apply List.Sublist.cons)) | exact fun _ hw => (hw.perm (pull_perm 3 _ _ _ rfl)).sub (by repeat (first | exact List.Sublist.refl _ | exact List.nil_sublist _ | apply List.Sublist.cons_cons | apply List.Sublist.cons)) | exact fun _ hw => (hw.perm (pull_perm 4 _ _ _ rfl)).sub (by repeat (first | exact List.Sublist.refl _ | exact List.nil_sublist _ | apply List.Sublist.cons_cons | apply List.Sublist.cons))))
        | ((with_reducible apply (RH_take 3)); exact rfl; kernel_rfl; decide +kernel; decide +kernel; (first | exact fun _ hw => hw | exact fun _ hw => hw.sub (by repeat (first | exact List.Sublist.refl _ | exact List.nil_sublist _ | apply List.Sublist.cons_cons | apply List.Sublist.cons)) | exact fun _ hw => (hw.perm (pull_perm 1 _ _ _ rfl)).sub (by repeat (first | exact List.Sublist.refl _ | exact List.nil_sublist _ | apply List.Sublist.cons_cons | apply List.Sublist.cons)) | exact fun _ hw => (hw.perm (pull_perm 2 _ _ _ rfl)).sub (by repeat (first | exact List.Sublist.refl _ | exact List.nil_sublist _ | apply List.Sublist.cons_cons | apply List.Sublist.cons)) | exact fun _ hw => (hw.perm (pull_perm 3 _ _ _ rfl)).sub (by repeat (first | exact List.Sublist.refl _ | exact List.nil_sublist _ | apply List.Sublist.cons_cons | apply List.Sublist.cons)) | exact fun _ hw => (hw.perm (pull_perm 4 _ _ _ rfl)).sub (by repeat (first | exact List.Sublist.refl _ | exact List.nil_sublist _ | apply List.Sublist.cons_cons | apply List.Sublist.cons))))
        | ((with_reducible apply (RH_take 4)); exact rfl; kernel_rfl; decide +kernel; decide +kernel; (first | exact fun _ hw => hw | exact fun _ hw => hw.sub (by repeat (first | exact List.Sublist.refl _ | exact List.nil_sublist _ | apply List.Sublist.cons_cons | apply List.Sublist.cons)) | exact fun _ hw => (hw.perm (pull_perm 1 _ _ _ rfl)).sub (by repeat (first | exact List.Sublist.refl _ | exact List.nil_sublist _ | apply List.Sublist.cons_cons | apply List.Sublist.cons)) | exact fun _ hw => (hw.perm (pull_perm 2 _ _ _ rfl)).sub (by repeat (first | exact List.Sublist.refl _ | exact List.nil_sublist _ | apply List.Sublist.cons_cons | apply List.Sublist.cons)) | exact fun _ hw => (hw.perm (pull_perm 3 _ _ _ rfl)).sub (by repeat (first | exact List.Sublist.refl _ | exact List.nil_sublist _ | apply List.Sublist.cons_cons | apply List.Sublist.cons)) | exact fun _ hw => (hw.perm (pull_perm 4 _ _ _ rfl)).sub (by repeat (first | exact List.Sublist.refl _ | exact List.nil_sublist _ | apply List.Sublist.cons_cons | apply List.Sublist.cons))))
        | ((with_reducible apply (RH_take 5)); exact rfl; kernel_rfl; decide +kernel; decide +kernel; (first | exact fun _ hw => hw | exact fun _ hw => hw.sub (by repeat (first | exact List.Sublist.refl _ | exact List.nil_sublist _ | apply List.Sublist.cons_cons | apply List.Sublist.cons)) | exact fun _ hw => (hw.perm (pull_perm 1 _ _ _ rfl)).sub (by repeat (first | exact List.Sublist.refl _ | exact List.nil_sublist _ | apply List.Sublist.cons_cons | apply List.Sublist.cons)) | exact fun _ hw => (hw.perm (pull_perm 2 _ _ _ rfl)).sub (by repeat (first | exact List.Sublist.refl _ | exact List.nil_sublist _ | apply List.Sublist.cons_cons | apply List.Sublist.cons)) | exact fun _ hw => (hw.perm (pull_perm 3 _ _ _ rfl)).sub (by repeat (first | exact List.Sublist.refl _ | exact List.nil_sublist _ | apply List.Sublist.cons_cons | apply List.Sublist.cons)) | exact fun _ hw => (hw.perm (pull_perm 4 _ _ _ rfl)).sub (by repeat (first | exact List.Sublist.refl _ | exact List.nil_sublist _ | apply List.Sublist.cons_cons | apply List.Sublist.cons))))
        | ((with_reducible apply (RH_take 6)); exact rfl; kernel_rfl; decide +kernel; decide +kernel; (first | exact fun _ hw => hw | exact fun _ hw => hw.sub (by repeat (first | exact List.Sublist.refl _ | exact List.nil_sublist _ | apply List.Sublist.cons_cons | apply List.Sublist.cons)) | exact fun _ hw => (hw.perm (pull_perm 1 _ _ _ rfl)).sub (by repeat (first | exact List.Sublist.refl _ | exact List.nil_sublist _ | apply List.Sublist.cons_cons | apply List.Sublist.cons)) | exact fun _ hw => (hw.perm (pull_perm 2 _ _ _ rfl)).sub (by repeat (first | exact List.Sublist.refl _ | exact List.nil_sublist _ | apply List.Sublist.cons_cons | apply List.Sublist.cons)) | exact fun _ hw => (hw.perm (pull_perm 3 _ _ _ rfl)).sub (by repeat (first | exact List.Sublist.refl _ | exact List.nil_sublist _ | apply List.Sublist.cons_cons | apply List.Sublist.cons)) | exact fun _ hw => (hw.perm (pull_perm 4 _ _ _ rfl)).sub (by repeat (first | exact List.Sublist.refl _ | exact List.nil_sublist _ | apply List.Sublist.cons_cons | apply List.Sublist.cons))))
        | ((with_reducible apply (RH_take 7)); exact rfl; kernel_rfl; decide +kernel; decide +kernel; (first | exact fun _ hw => hw | exact fun _ hw => hw.sub (by repeat (first | exact List.Sublist.refl _ | exact List.nil_sublist _ | apply List.Sublist.cons_cons | apply List.Sublist.cons)) | exact fun _ hw => (hw.perm (pull_perm 1 _ _ _ rfl)).sub (by repeat (first | exact List.Sublist.refl _ | exact List.nil_sublist _ | apply List.Sublist.cons_cons | apply List.Sublist.cons)) | exact fun _ hw => (hw.perm (pull_perm 2 _ _ _ rfl)).sub (by repeat (first | exact List.Sublist.refl _ | exact List.nil_sublist _ | apply List.Sublist.cons_cons | apply List.Sublist.cons)) | exact fun _ hw => (hw.perm (pull_perm 3 _ _ _ rfl)).sub (by repeat (first | exact List.Sublist.refl _ | exact List.nil_sublist _ | apply List.Sublist.cons_cons | apply List.Sublist.cons)) | exact fun _ hw => (hw.perm (pull_perm 4 _ _ _ rfl)).sub (by repeat (first | exact List.Sublist.refl _ | exact List.nil_sublist _ | apply List.Sublist.cons_cons | apply List.Sublist.cons))))
        | ((with_reducible apply (RH_take 8)); exact rfl; kernel_rfl; decide +kernel; decide +kernel; (first | exact fun _ hw => hw | exact fun _ hw => hw.sub (by repeat (first | exact List.Sublist.refl _ | exact List.nil_sublist _ | apply List.Sublist.cons_cons | apply List.Sublist.cons)) | exact fun _ hw => (hw.perm (pull_perm 1 _ _ _ rfl)).sub (by repeat (first | exact List.Sublist.refl _ | exact List.nil_sublist _ | apply List.Sublist.cons_cons | apply List.Sublist.cons)) | exact fun _ hw => (hw.perm (pull_perm 2 _ _ _ rfl)).sub (by repeat (first | exact List.Sublist.refl _ | exact List.nil_sublist _ | apply List.Sublist.cons_cons | apply List.Sublist.cons)) | exact fun _ hw => (hw.perm (pull_perm 3 _ _ _ rfl)).sub (by repeat (first | exact List.Sublist.refl _ | exact List.nil_sublist _ | apply List.Sublist.cons_cons | apply List.Sublist.cons)) | exact fun _ hw => (hw.perm (pull_perm 4 _ _ _ rfl)).sub (by repeat (first | exact List.Sublist.refl _ | exact List.nil_sublist _ | apply List.Sublist.cons_cons | apply List.Sublist.cons))))
        | ((with_reducible apply (RH_take 9)); exact rfl; kernel_rfl; decide +kernel; decide +kernel; (first | exact fun _ hw => hw | exact fun _ hw => hw.sub (by repeat (first | exact List.Sublist.refl _ | exact List.nil_sublist _ | apply List.Sublist.cons_cons | apply List.Sublist.cons)) | exact fun _ hw => (hw.perm (pull_perm 1 _ _ _ rfl)).sub (by repeat (first | exact List.Sublist.refl _ | exact List.nil_sublist _ | apply List.Sublist.cons_cons | apply List.Sublist.cons)) | exact fun _ hw => (hw.perm (pull_perm 2 _ _ _ rfl)).sub (by repeat (first | exact List.Sublist.refl _ | exact List.nil_sublist _ | apply List.Sublist.cons_cons | apply List.Sublist.cons)) | exact fun _ hw => (hw.perm (pull_perm 3 _ _ _ rfl)).sub (by repeat (first | exact List.Sublist.refl _ | exact List.nil_sublist _ | apply List.Sublist.cons_cons | apply List.Sublist.cons)) | exact fun _ hw => (hw.perm (pull_perm 4 _ _ _ rfl)).sub (by repeat (first | exact List.Sublist.refl _ | exact List.nil_sublist _ | apply List.Sublist.cons_cons | apply List.Sublist.cons))))
        | ((with_reducible apply (RH_take 11)); exact rfl; kernel_rfl; decide +kernel; decide +kernel; (first | exact fun _ hw => hw | exact fun _ hw => hw.sub (by repeat (first | exact List.Sublist.refl _ | exact List.nil_sublist _ | apply List.Sublist.cons_cons | apply List.Sublist.cons)) | exact fun _ hw => (hw.perm (pull_perm 1 _ _ _ rfl)).sub (by repeat (first | exact List.Sublist.refl _ | exact List.nil_sublist _ | apply List.Sublist.cons_cons | apply List.Sublist.cons)) | exact fun _ hw => (hw.perm (pull_perm 2 _ _ _ rfl)).sub (by repeat (first | exact List.Sublist.refl _ | exact List.nil_sublist _ | apply List.Sublist.cons_cons | apply List.Sublist.cons)) | exact fun _ hw => (hw.perm (pull_perm 3 _ _ _ rfl)).sub (by repeat (first | exact List.Sublist.refl _ | exact List.nil_sublist _ | apply List.Sublist.cons_cons | apply List.Sublist.cons)) | exact fun _ hw => (hw.perm (pull_perm 4 _ _ _ rfl)).sub (by repeat (first | exact List.Sublist.refl _ | exact List.nil_sublist _ | apply List.Sublist.cons_cons | apply List.Sublist.cons))))
        | ((with_reducible apply (RH_take 12)); exact rfl; kernel_rfl; decide +kernel; decide +kernel; (first | exact fun _ hw => hw | exact fun _ hw => hw.sub (by repeat (first | exact List.Sublist.refl _ | exact List.nil_sublist _ | apply List.Sublist.cons_cons | apply List.Sublist.cons)) | exact fun _ hw => (hw.perm (pull_perm 1 _ _ _ rfl)).sub (by repeat (first | exact List.Sublist.refl _ | exact List.nil_sublist _ | apply List.Sublist.cons_cons | apply List.Sublist.cons)) | exact fun _ hw => (hw.perm (pull_perm 2 _ _ _ rfl)).sub (by repeat (first | exact List.Sublist.refl _ | exact List.nil_sublist _ | apply List.Sublist.cons_cons | apply List.Sublist.cons)) | exact fun _ hw => (hw.perm (pull_perm 3 _ _ _ rfl)).sub (by repeat (first | exact List.Sublist.refl _ | exact List.nil_sublist _ | apply List.Sublist.cons_cons | apply List.Sublist.cons)) | exact fun _ hw => (hw.perm (pull_perm 4 _ _ _ rfl)).sub (by repeat (first | exact List.Sublist.refl _ | exact List.nil_sublist _ | apply List.Sublist.cons_cons | apply List.Sublist.cons))))
        | ((with_reducible apply (RH_take 13)); exact rfl; kernel_rfl; decide +kernel; decide +kernel; (first | exact fun _ hw => hw | exact fun _ hw => hw.sub (by repeat (first | exact List.Sublist.refl _ | exact List.nil_sublist _ | apply List.Sublist.cons_cons | apply List.Sublist.cons)) | exact fun _ hw => (hw.perm (pull_perm 1 _ _ _ rfl)).sub (by repeat (first | exact List.Sublist.refl _ | exact List.nil_sublist _ | apply List.Sublist.cons_cons | apply List.Sublist.cons)) | exact fun _ hw => (hw.perm (pull_perm 2 _ _ _ rfl)).sub (by repeat (first | exact List.Sublist.refl _ | exact List.nil_sublist _ | apply List.Sublist.cons_cons | apply List.Sublist.cons)) | exact fun _ hw => (hw.perm (pull_perm 3 _ _ _ rfl)).sub (by repeat (first | exact List.Sublist.refl _ | exact List.nil_sublist _ | apply List.Sublist.cons_cons | apply List.Sublist.cons)) | exact fun _ hw => (hw.perm (pull_perm 4 _ _ _ rfl)).sub (by repeat (first | exact List.Sublist.refl _ | exact List.nil_sublist _ | apply List.Sublist.cons_cons | apply List.Sublist.cons))))
        | ((with_reducible apply (RH_take 16)); exact rfl; kernel_rfl; decide +kernel; decide +kernel; (first | exact fun _ hw => hw | exact fun _ hw => hw.sub (by repeat (first | exact List.Sublist.refl _ | exact List.nil_sublist _ | apply List.Sublist.cons_cons | apply List.Sublist.cons)) | exact fun _ hw => (hw.perm (pull_perm 1 _ _ _ rfl)).sub (by repeat (first | exact List.Sublist.refl _ | exact List.nil_sublist _ | apply List.Sublist.cons_cons | apply List.Sublist.cons)) | exact fun _ hw => (hw.perm (pull_perm 2 _ _ _ rfl)).sub (by repeat (first | exact List.Sublist.refl _ | exact List.nil_sublist _ | apply List.Sublist.cons_cons | apply List.Sublist.cons)) | exact fun _ hw => (hw.perm (pull_perm 3 _ _ _ rfl)).sub (by repeat (first | exact List.Sublist.refl _ | exact List.nil_sublist _ | apply List.Sublist.cons_cons | apply List.Sublist.cons)) | exact fun _ hw => (hw.perm (pull_perm 4 _ _ _ rfl)).sub (by repeat (first | exact List.Sublist.refl _ | exact List.nil_sublist _ | apply List.Sublist.cons_cons | apply List.Sublist.cons))))
        | ((with_reducible apply (RH_step 10)); decide +kernel; exact rfl)
        | ((with_reducible apply (RH_step 14)); decide +kernel; exact rfl)
        | ((with_reducible apply (RH_step 15)); decide +kernel; exact rfl)
        | ((with_reducible apply (RH_step2 10 14)); decide +kernel; exact rfl; exact rfl)
        | ((with_reducible apply RH_done); decide +kernel)
        | ((with_reducible apply post_take))
        | ((with_reducible apply post_step); (first | exact fun _ hw => hw | exact fun _ hw => hw.sub (by repeat (first | exact List.Sublist.refl _ | exact List.nil_sublist _ | apply List.Sublist.cons_cons | apply List.Sublist.cons)) | exact fun _ hw => (hw.perm (pull_perm 1 _ _ _ rfl)).sub (by repeat (first | exact List.Sublist.refl _ | exact List.nil_sublist _ | apply List.Sublist.cons_cons | apply List.Sublist.cons)) | exact fun _ hw => (hw.perm (pull_perm 2 _ _ _ rfl)).sub (by repeat (first | exact List.Sublist.refl _ | exact List.nil_sublist _ | apply List.Sublist.cons_cons | apply List.Sublist.cons)) | exact fun _ hw => (hw.perm (pull_perm 3 _ _ _ rfl)).sub (by repeat (first | exact List.Sublist.refl _ | exact List.nil_sublist _ | apply List.Sublist.cons_cons | apply List.Sublist.cons)) | exact fun _ hw => (hw.perm (pull_perm 4 _ _ _ rfl)).sub (by repeat (first | exact List.Sublist.refl _ | exact List.nil_sublist _ | apply List.Sublist.cons_cons | apply List.Sublist.cons))))
        | ((with_reducible apply (LR_call (f := 111))); exact rfl; exact rfl; exact rfl; exact fun w hw => meet_ok _ _ w)
        | ((with_reducible apply (LR_index_old (k))); exact rfl; exact rfl; exact rfl; exact rfl; exact ha; omega; exact hx; exact rfl; intro _ _)
        | ((with_reducible apply (LR_index_old (k))); exact rfl; exact rfl; exact rfl; exact rfl; exact hb'; omega; exact hy; exact rfl; intro _ _)
        | ((with_reducible apply RR_end))
        | ((with_reducible apply LR_pure); exact rfl; exact rfl; exact rfl)
        | ((with_reducible apply LR_field_own); exact rfl; exact rfl; exact rfl)
        | ((with_reducible apply LR_load_own 0); exact rfl; exact rfl; exact rfl; exact rfl; exact rfl)
        | ((with_reducible apply LR_load_own 1); exact rfl; exact rfl; exact rfl; exact rfl; exact rfl)
        | ((with_reducible apply LR_load_old_agg); exact rfl; exact rfl; exact rfl; assumption; exact rfl)
        | ((with_reducible apply LS_alloc); exact rfl; exact rfl; exact rfl; intro _)
        | ((with_reducible apply LS_store_agg 0); exact rfl; exact rfl; exact rfl; exact rfl; exact rfl; exact rfl; exact rfl; exact rfl)
      all_goals exact post_cut _ trivial ⟨rfl, rfl, rfl, rfl, rfl, rfl, rfl, rfl, trivial⟩ (fun _ hw => hw)
    · rintro gx _
      cases ok
      all_goals
        repeat' first
          | ((with_reducible apply (LS_append_one 3 0 ((lows a.cs b.cs).take k) (mx x y))); exact rfl; exact rfl; exact rfl; exact rfl; exact rfl; exact rfl; exact rfl; exact rfl; exact rfl; exact rfl; (rw [List.length_take]; omega); omega; (rw [List.length_take]; omega); (rw [List.length_take]; omega); intro g4 c4 e1 e2)
          | ((with_reducible apply CS_seq))
          | ((with_reducible apply CS_region))
          | ((with_reducible apply RR_end))
          | ((with_reducible apply LR_pure); exact rfl; exact rfl; exact rfl)
          | ((with_reducible apply LR_skip); exact rfl; exact rfl)
          | ((with_reducible apply LR_add); exact rfl; exact rfl; exact rfl; exact rfl; omega; omega)
          | ((with_reducible apply LR_field_own); exact rfl; exact rfl; exact rfl)
          | ((with_reducible apply LR_load_own 0); exact rfl; exact rfl; exact rfl; exact rfl; exact rfl)
          | ((with_reducible apply LR_load_own 1); exact rfl; exact rfl; exact rfl; exact rfl; exact rfl)
          | ((with_reducible apply LS_store1 3); exact rfl; exact rfl; exact rfl; exact rfl; exact rfl; exact rfl)
          | ((with_reducible apply LS_buildSlice); exact rfl; exact rfl; exact rfl; exact rfl; exact rfl; exact rfl; exact rfl; intro _)
          | ((with_reducible apply post_seq))
          | ((with_reducible apply post_block_n))
        all_goals have hl : (List.take k (lows a.cs b.cs)).length = k := by rw [List.length_take]; omega
        all_goals simp only [hl] at e1
      · exact post_round (i := (k, g1, c1, false)) (k + 1, g4, c4, false) ⟨by omega, e1, e2, ok_no hst (fun h => absurd (h3.2 h) (by simp))⟩ (by dsimp only; omega) ⟨rfl, rfl, rfl, rfl, rfl, rfl, trivial⟩ (fun _ hw => by simp only [hl, ← hlt] at hw; exact hw.picks [0, 0, 2, 2, 2, 2] rfl)
      · exact post_round (i := (k, g1, c1, true)) (k + 1, g4, c4, decide (mx x y ≤ mn x y)) ⟨by omega, e1, e2, ok_step hst (h3.1 rfl)⟩ (by dsimp only; omega) ⟨rfl, rfl, rfl, rfl, rfl, rfl, trivial⟩ (fun _ hw => by simp only [hl, ← hlt] at hw; exact hw.picks [0, 0, 2, 2, 2, 2] rfl)
  · have hk3 : k = 3 := by omega
    subst hk3
    have hall : List.take 3 (lows a.cs b.cs) = lows a.cs b.cs := List.take_of_length_le (by rw [lows_len la lb]; omega)
    rw [hall]
    have hok : ok = bb := b_of (by rw [h3, ← hM]; exact Iff.rfl)
    subst hok
    repeat' first
      | ((with_reducible apply CS_seq))
      | ((with_reducible apply CS_block))
      | ((with_reducible apply CS_region))
      | ((with_reducible apply RR_end))
      | ((with_reducible apply LR_pure); exact rfl; exact rfl; exact rfl)
      | ((with_reducible apply post_seq))
      | ((with_reducible apply post_then_exit))
      | ((with_reducible apply post_block_eq))
      | ((with_reducible apply CS_exit))
      | ((with_reducible apply CS_cond_f); exact rfl)
    refine CS_loop (ι := Nat × Nat × Nat) (fun i => [(2, .pointer (some ⟨ga, 0, none⟩)), (3, .pointer (some ⟨gb, 0, none⟩)), (4, .pointer (some ⟨gr, 0, none⟩)), (6, .pointer (some ⟨gp, 0, none⟩)), (8, .bool ok), (12, .int .i64 ((i.1 : Int) + 1))]) (fun i => Wd w [ptE gp (.int .i64 (mx a.tot b.tot)) (.slice (some ⟨g1, 0, none⟩) 3 c1) (.slice (some ⟨i.2.1, 0, none⟩) (cps a.cp b.cp i.1).length i.2.2), intE i.2.1 i.2.2 (cps a.cp b.cp i.1), intE g1 c1 (lows a.cs b.cs), gdE ga a, gdE gb b, ptE gr (.int .i64 0) (.slice none 0 0) (.slice none 0 0)]) (fun i => i.1 ≤ 9 ∧ (cps a.cp b.cp i.1).length ≤ i.2.2 ∧ i.2.2 ≤ maxLen) (fun i => 9 - i.1) (0, gq, 0) ⟨by omega, by simp [cps_zero], by simp⟩ ⟨rfl, rfl, rfl, rfl, rfl, rfl, trivial⟩ (fun _ hw => hw.picks [0, 1, 0, 0, 0, 0] rfl) ?_
    rintro ⟨j, g2, c2⟩ ⟨q0, q1, q2⟩
    dsimp only at q0 q1 q2 ⊢
    have hcl := cps_len a.cp b.cp j
    by_cases hj : j < 9
    · by_cases hy : a.cp = (j : Int) + 1 ∨ b.cp = (j : Int) + 1
      · have hN := cps_yes hy
        repeat' first
          | ((with_reducible apply (LS_append_one 2 0 (cps a.cp b.cp j) ((j : Int) + 1))); exact rfl; exact rfl; exact rfl; exact rfl; exact rfl; exact rfl; exact rfl; exact rfl; exact rfl; exact rfl; exact rfl; omega; omega; omega; intro g4 c4 e1 e2)
          | ((with_reducible apply CS_seq))
          | ((with_reducible apply CS_block))
          | ((with_reducible apply CS_region))
          | ((with_reducible apply RR_end))
          | ((with_reducible apply LR_pure); exact rfl; exact rfl; exact rfl)
          | ((with_reducible apply LR_skip); exact rfl; exact rfl)
          | ((with_reducible apply LR_add); exact rfl; exact rfl; exact rfl; exact rfl; omega; omega)
          | ((with_reducible apply LR_field_own); exact rfl; exact rfl; exact rfl)
          | ((with_reducible apply LR_load_own 0); exact rfl; exact rfl; exact rfl; exact rfl; exact rfl)
          | ((with_reducible apply LR_load_own 3); exact rfl; exact rfl; exact rfl; exact rfl; exact rfl)
          | ((with_reducible apply LR_load_own 4); exact rfl; exact rfl; exact rfl; exact rfl; exact rfl)
          | ((with_reducible apply LS_store1 2); exact rfl; exact rfl; exact rfl; exact rfl; exact rfl; exact rfl)
          | ((with_reducible apply LS_buildSlice); exact rfl; exact rfl; exact rfl; exact rfl; exact rfl; exact rfl; exact rfl; intro _)
          | ((with_reducible apply post_seq))
          | ((with_reducible apply post_block_n))
          | ((with_reducible apply CS_skip))
          | ((with_reducible apply CS_cond_t); exact rfl)
          | ((with_reducible apply CS_cond_d); exact rfl; all_goals intro hb; all_goals try (exfalso; omega))
          | ((with_reducible apply LR_caseg_d); exact rfl; exact rfl; all_goals intro hb; all_goals try (exfalso; omega))
        all_goals first | (exfalso; contradiction) | (exfalso; omega) | (exfalso; simp at hb <;> omega) | skip
        all_goals exact post_round (i := (j, g2, c2)) (j + 1, g4, c4) ⟨by omega, by rw [hN, List.length_append]; exact e1, e2⟩ (by dsimp only; omega) ⟨rfl, rfl, rfl, rfl, rfl, rfl, trivial⟩ (fun _ hw => by dsimp only; rw [hN, List.length_append]; exact hw.picks [0, 0, 1, 1, 1, 1] rfl)
      · have hN := cps_no hy
        repeat' first
          | ((with_reducible apply CS_seq))
          | ((with_reducible apply CS_block))
          | ((with_reducible apply CS_region))
          | ((with_reducible apply RR_end))
          | ((with_reducible apply LR_pure); exact rfl; exact rfl; exact rfl)
          | ((with_reducible apply LR_add); exact rfl; exact rfl; exact rfl; exact rfl; omega; omega)
          | ((with_reducible apply LR_field_own); exact rfl; exact rfl; exact rfl)
          | ((with_reducible apply LR_load_own 3); exact rfl; exact rfl; exact rfl; exact rfl; exact rfl)
          | ((with_reducible apply LR_load_own 4); exact rfl; exact rfl; exact rfl; exact rfl; exact rfl)
          | ((with_reducible apply post_seq))
          | ((with_reducible apply post_block_n))
          | ((with_reducible apply CS_skip))
          | ((with_reducible apply CS_cond_d); exact rfl; all_goals intro hb; all_goals try (exfalso; omega))
          | ((with_reducible apply LR_caseg_d); exact rfl; exact rfl; all_goals intro hb; all_goals try (exfalso; omega))
        all_goals first | (exfalso; contradiction) | (exfalso; omega) | (exfalso; simp at hb <;> omega) | skip
        all_goals exact post_round (i := (j, g2, c2)) (j + 1, g2, c2) ⟨by omega, by rw [hN]; exact q1, q2⟩ (by dsimp only; omega) ⟨rfl, rfl, rfl, rfl, rfl, rfl, trivial⟩ (fun _ hw => by dsimp only; rw [hN]; exact hw)
    · have hj9 : j = 9 := by omega
      subst hj9
      repeat' first
        | ((with_reducible apply CS_seq))
        | ((with_reducible apply CS_region))
        | ((with_reducible apply RR_end))
        | ((with_reducible apply LR_pure); exact rfl; exact rfl; exact rfl)
        | ((with_reducible apply LR_load_own_agg 0); exact rfl; exact rfl; exact rfl; exact rfl; exact rfl)
        | ((with_reducible apply LS_store_agg 5); exact rfl; exact rfl; exact rfl; exact rfl; exact rfl; exact rfl; exact rfl; exact rfl)
        | ((with_reducible apply post_seq))
        | ((with_reducible apply post_then_exit))
        | ((with_reducible apply post_block_eq))
        | ((with_reducible apply CS_ret))
        | ((with_reducible apply CS_exit))
        | ((with_reducible apply CS_cond_f); exact rfl)
      refine post_ret_ct 0 rfl rfl rfl rfl rfl fun w' hw' => ?_
      exact ⟨⟨g1, c1, g2, c2⟩, ⟨h1, h2, q1, q2⟩, rfl, hw'.picks [3, 2] rfl⟩
end Go.Proofs.Ytpflkichnjfgkaa
