/- The walks of the conflicts among rules, of the program and of the reference. No condition beyond those that each theorem states. -/
import Derived.Test.YtpflkichnjfgkaaPOp
namespace Go.Proofs.Ytpflkichnjfgkaa
open Go.RowKit
attribute [local irreducible] Calls
theorem conflict_n {a b : Ru} {w : World} (ha : ROk w a) (hb' : ROk w b) (va : VR a) (vb : VR b) (h : ¬ Cfl a b) : Calls Try.prog 67 #[ruV a, ruV b] w (Gives (.tuple #[ptV0, .bool false]) w) :=
  conflict_no a b w ha hb' va.2.2.2.2.2.1.2.1 vb.2.2.2.2.2.1.2.1 h
theorem conflict_y {a b : Ru} {w : World} (ha : ROk w a) (hb' : ROk w b) (va : VR a) (vb : VR b) (h : Cfl a b) : Calls Try.prog 67 #[ruV a, ruV b] w
    (fun x w' => ∃ i : PtG, (3 ≤ i.c1 ∧ i.c1 ≤ maxLen ∧ (cps a.g.cp b.g.cp 9).length ≤ i.c2 ∧ i.c2 ≤ maxLen) ∧ x = .returned (.tuple #[ptV (mx a.g.tot b.g.tot) 3 (cps a.g.cp b.g.cp 9).length i, .bool true]) ∧ Wd w [intE i.g1 i.c1 (lows a.g.cs b.g.cs), intE i.g2 i.c2 (cps a.g.cp b.g.cp 9)] w') :=
  conflict_yes a b w ha hb' va.2.2.2.2.2.1.2.1 vb.2.2.2.2.2.1.2.1 h.1 h.2.1 h.2.2.1 h.2.2.2
set_option maxHeartbeats 4000000 in
theorem pairAt_ok (v : Value) (l : List Ru) (a b : Int) (w : World) (bb : Bool) (hs : Sl w v l) (hg : ROks w l) (hV : VRs l) (hB : PrE l a b ↔ bb = true) : Calls Try.prog 55 #[v, .int .i64 a, .int .i64 b] w (Gives (.bool bb) w) := by
  have hlen := hs.len
  simp only [maxLen] at hlen
  have hn := VRs_nums hV
  refine enter (vs := [v, .int .i64 a, .int .i64 b]) Try.func55 rfl Try.ntmps55 rfl ?_
  repeat' first
    | ((with_reducible apply CS_seq))
    | ((with_reducible apply CS_block))
    | ((with_reducible apply CS_region))
    | ((with_reducible apply RR_end))
    | ((with_reducible apply LR_pure); exact rfl; exact rfl; exact rfl)
    | ((with_reducible apply post_seq))
  refine CS_loop (ι := Nat) (fun i => [(0, v), (1, .int .i64 a), (2, .int .i64 b), (7, .int .i64 (i : Int))]) (fun _ => Wd w []) (fun i => i ≤ l.length ∧ ∀ i' < i, ∀ (k' : Nat) (x y : Ru), l[i']? = some x → l[k']? = some y → ¬ (x.num = a ∧ y.num = b)) (fun i => l.length - i) 0 ⟨by omega, fun i' h => by omega⟩ ⟨rfl, rfl, rfl, rfl, trivial⟩ (fun _ hw => hw) ?_
  rintro i ⟨i1, i2⟩
  by_cases hi : i < l.length
  · obtain ⟨x, hx⟩ : ∃ y, l[i]? = some y := ⟨_, List.getElem?_eq_getElem hi⟩
    repeat' first
      | ((with_reducible apply LR_len_sl); exact rfl; exact rfl; exact rfl; exact hs)
      | ((with_reducible apply CS_seq))
      | ((with_reducible apply CS_block))
      | ((with_reducible apply CS_region))
      | ((with_reducible apply RR_end))
      | ((with_reducible apply LR_pure); exact rfl; exact rfl; exact rfl)
      | ((with_reducible apply post_seq))
      | ((with_reducible apply CS_skip))
      | ((with_reducible apply CS_cond_d); exact rfl; all_goals intro hb; all_goals try (exfalso; omega))
    all_goals first | (exfalso; contradiction) | (exfalso; omega) | (exfalso; simp at hb <;> omega) | skip
    refine CS_loop (ι := Nat) (fun k => [(0, v), (1, .int .i64 a), (2, .int .i64 b), (7, .int .i64 (i : Int)), (8, .int .i64 (k : Int))]) (fun _ => Wd w []) (fun k => k ≤ l.length ∧ ∀ k' < k, ∀ (y : Ru), l[k']? = some y → ¬ (x.num = a ∧ y.num = b)) (fun k => l.length - k) 0 ⟨by omega, fun i' h => by omega⟩ ⟨rfl, rfl, rfl, rfl, rfl, trivial⟩ (fun _ hw => hw) ?_
    rintro k ⟨k1, k2⟩
    by_cases hk : k < l.length
    · obtain ⟨y, hy⟩ : ∃ y, l[k]? = some y := ⟨_, List.getElem?_eq_getElem hk⟩
      have hxm := List.mem_of_getElem? hx
      have hym := List.mem_of_getElem? hy
      have hxg := hg x hxm
      have hyg := hg y hym
      have hxv := VRs_all hV x hxm
      have hyv := VRs_all hV y hym
      by_cases hm : x.num = a ∧ y.num = b
      · have hP := PrE_at hn hx hy hm.1 hm.2
        by_cases hC : Cfl x y
        · have hbt : bb = true := hB.1 (hP.2 hC)
          subst hbt
          repeat' first
            | ((with_reducible apply LR_len_sl); exact rfl; exact rfl; exact rfl; exact hs)
            | ((with_reducible apply (LR_index_old (i))); exact rfl; exact rfl; exact rfl; exact rfl; exact hs; omega; exact hx; exact rfl; intro _ _)
            | ((with_reducible apply (LR_index_old (k))); exact rfl; exact rfl; exact rfl; exact rfl; exact hs; omega; exact hy; exact rfl; intro _ _)
            | ((with_reducible apply CS_seq))
            | ((with_reducible apply CS_block))
            | ((with_reducible apply CS_region))
            | ((with_reducible apply RR_end))
            | ((with_reducible apply LR_pure); exact rfl; exact rfl; exact rfl)
            | ((with_reducible apply LR_field); exact rfl; exact rfl; exact rfl)
            | ((with_reducible apply LR_load_old); exact rfl; exact rfl; exact rfl; assumption; exact rfl)
            | ((with_reducible apply post_seq))
            | ((with_reducible apply CS_skip))
            | ((with_reducible apply CS_cond_d); exact rfl; all_goals intro hb; all_goals try (exfalso; omega))
            | ((with_reducible apply LR_caseg_d); exact rfl; exact rfl; all_goals intro hb; all_goals try (exfalso; omega))
          all_goals first | (exfalso; contradiction) | (exfalso; omega) | (exfalso; simp at hb <;> omega) | skip
          refine CS_regionHi (id := 8) 15 [] (fun _ : Unit => [(10, .bool true)]) (fun _ => Wd w []) (fun _ => True) (by kernel_rfl) rfl (by rfl) ?_ ?_
          · skip
            repeat' first
              | ((with_reducible apply (RH_take 0)); exact rfl; kernel_rfl; decide +kernel; decide +kernel; (first | exact fun _ hw => hw | exact fun _ hw => hw.sub (by repeat (first | exact List.Sublist.refl _ | exact List.nil_sublist _ | apply List.Sublist.cons_cons | apply List.Sublist.cons)) | exact fun _ hw => (hw.perm (pull_perm 1 _ _ _ rfl)).sub (by repeat (first | exact List.Sublist.refl _ | exact List.nil_sublist _ | apply List.Sublist.cons_cons | apply List.Sublist.cons)) | exact fun _ hw => (hw.perm (pull_perm 2 _ _ _ rfl)).sub (by repeat (first | exact List.Sublist.refl _ | exact List.nil_sublist _ | apply List.Sublist.cons_cons | apply List.Sublist.cons)) | exact fun _ hw => (hw.perm (pull_perm 3 _ _ _ rfl)).sub (by repeat (first | exact List.Sublist.refl _ | exact List.nil_sublist _ | apply List.Sublist.cons_cons | apply List.Sublist.cons)) | exact fun _ hw => (hw.perm (pull_perm 4 _ _ _ rfl)).sub (by repeat (first | exact List.Sublist.refl _ | exact List.nil_sublist _ | apply List.Sublist.cons_cons | apply List.Sublist.cons))))
              | ((with_reducible apply (RH_take 1)); exact rfl; kernel_rfl; decide +kernel; decide +kernel; (first | exact fun _ hw => hw | exact fun _ hw => hw.sub (by repeat (first | exact List.Sublist.refl _ | exact List.nil_sublist _ | apply List.Sublist.cons_cons | apply List.Sublist.cons)) | exact fun _ hw => (hw.perm (pull_perm 1 _ _ _ rfl)).sub (by repeat (first | exact List.Sublist.refl _ | exact List.nil_sublist _ | apply List.Sublist.cons_cons | apply List.Sublist.cons)) | exact fun _ hw => (hw.perm (pull_perm 2 _ _ _ rfl)).sub (by repeat (first | exact List.Sublist.refl _ | exact List.nil_sublist _ | apply List.Sublist.cons_cons | apply List.Sublist.cons)) | exact fun _ hw => (hw.perm (pull_perm 3 _ _ _ rfl)).sub (by repeat (first | exact List.Sublist.refl _ | exact List.nil_sublist _ | apply List.Sublist.cons_cons | apply List.Sublist.cons)) | exact fun _ hw => (hw.perm (pull_perm 4 _ _ _ rfl)).sub (by repeat (first | exact List.Sublist.refl _ | exact List.nil_sublist _ | apply List.Sublist.cons_cons | apply List.Sublist.cons))))
              | ((with_reducible apply (RH_take 2)); exact rfl; kernel_rfl; decide +kernel; decide +kernel; (first | exact fun _ hw => hw | exact fun _ hw => hw.sub (by repeat (first | exact List.Sublist.refl _ | exact List.nil_sublist _ | apply List.Sublist.cons_cons | apply List.Sublist.cons)) | exact fun _ hw => (hw.perm (pull_perm 1 _ _ _ rfl)).sub (by repeat (first | exact List.Sublist.refl _ | exact List.nil_sublist _ | apply List.Sublist.cons_cons | apply List.Sublist.cons)) | exact fun _ hw => (hw.perm (pull_perm 2 _ _ _ rfl)).sub (by repeat (first | exact List.Sublist.refl _ | exact List.nil_sublist _ | apply List.Sublist.cons_cons | apply List.Sublist.cons)) | exact fun _ hw => (hw.perm (pull_perm 3 _ _ _ rfl)).sub (by repeat (first | exact List.Sublist.refl _ | exact List.nil_sublist _ | apply List.Sublist.cons_cons | apply List.Sublist.cons)) | exact fun _ hw => (hw.perm (pull_perm 4 _ _ _ rfl)).sub (by repeat (first | exact List.Sublist.refl _ | exact List.nil_sublist _ | apply List.Sublist.cons_cons | apply List.Sublist.cons))))
              | ((with_reducible apply (RH_take 3)); exact rfl; kernel_rfl; decide +kernel; decide +kernel; (first | exact fun _ hw => hw | exact fun _ hw => hw.sub (by repeat (first | exact List.Sublist.refl _ | exact List.nil_sublist _ | apply List.Sublist.cons_cons | apply List.Sublist.cons)) | exact fun _ hw => (hw.perm (pull_perm 1 _ _ _ rfl)).sub (by repeat (first | exact List.Sublist.refl _ | exact List.nil_sublist _ | apply List.Sublist.cons_cons | apply List.Sublist.cons)) | exact fun _ hw => (hw.perm (pull_perm 2 _ _ _ rfl)).sub (by repeat (first | exact List.Sublist.refl _ | exact List.nil_sublist _ | apply List.Sublist.cons_cons | apply List.Sublist.cons)) | exact fun _ hw => (hw.perm (pull_perm 3 _ _ _ rfl)).sub (by repeat (first | exact List.Sublist.refl _ | exact List.nil_sublist _ | apply List.Sublist.cons_cons | apply List.Sublist.cons)) | exact fun _ hw => (hw.perm (pull_perm 4 _ _ _ rfl)).sub (by repeat (first | exact List.Sublist.refl _ | exact List.nil_sublist _ | apply List.Sublist.cons_cons | apply List.Sublist.cons))))
              | ((with_reducible apply (RH_take 4)); exact rfl; kernel_rfl; decide +kernel; decide +kernel; (first | exact fun _ hw => hw | exact fun _ hw => hw.sub (by repeat (first | exact List.Sublist.refl _ | exact List.nil_sublist _ | apply List.Sublist.cons_cons | apply List.Sublist.cons)) | exact fun _ hw => (hw.perm (pull_perm 1 _ _ _ rfl)).sub (by repeat (first | exact List.Sublist.refl _ | exact List.nil_sublist _ | apply List.Sublist.cons_cons | apply List.Sublist.cons)) | exact fun _ hw => (hw.perm (pull_perm 2 _ _ _ rfl)).sub (by repeat (first | exact List.Sublist.refl _ | exact List.nil_sublist _ | apply List.Sublist.cons_cons | apply List.Sublist.cons)) | exact fun _ hw => (hw.perm (pull_perm 3 _ _ _ rfl)).sub (by repeat (first | exact List.Sublist.refl _ | exact List.nil_sublist _ | apply List.Sublist.cons_cons | apply List.Sublist.cons)) | exact fun _ hw => (hw.perm (pull_perm 4 _ _ _ rfl)).sub (by repeat (first | exact List.Sublist.refl _ | exact List.nil_sublist _ | apply List.Sublist.cons_cons | apply List.Sublist.cons))))
              | ((with_reducible apply (RH_take 5)); exact rfl; kernel_rfl; decide +kernel; decide +kernel; (first | exact fun _ hw => hw | exact fun _ hw => hw.sub (by repeat (first | exact List.Sublist.refl _ | exact List.nil_sublist _ | apply List.Sublist.cons_cons | apply List.Sublist.cons)) | exact fun _ hw => (hw.perm (pull_perm 1 _ _ _ rfl)).sub (by repeat (first | exact List.Sublist.refl _ | exact List.nil_sublist _ | apply List.Sublist.cons_cons | apply List.Sublist.cons)) | exact fun _ hw => (hw.perm (pull_perm 2 _ _ _ rfl)).sub (by repeat (first | exact List.Sublist.refl _ | exact List.nil_sublist _ | apply List.Sublist.cons_cons | apply List.Sublist.cons)) | exact fun _ hw => (hw.perm (pull_perm 3 _ _ _ rfl)).sub (by repeat (first | exact List.Sublist.refl _ | exact List.nil_sublist _ | apply List.Sublist.cons_cons | apply List.Sublist.cons)) | exact fun _ hw => (hw.perm (pull_perm 4 _ _ _ rfl)).sub (by repeat (first | exact List.Sublist.refl _ | exact List.nil_sublist _ | apply List.Sublist.cons_cons | apply List.Sublist.cons))))
              | ((with_reducible apply (RH_take 6)); exact rfl; kernel_rfl; decide +kernel; decide +kernel; (first | exact fun _ hw => hw | exact fun _ hw => hw.sub (by repeat (first | exact List.Sublist.refl _ | exact List.nil_sublist _ | apply List.Sublist.cons_cons | apply List.Sublist.cons)) | exact fun _ hw => (hw.perm (pull_perm 1 _ _ _ rfl)).sub (by repeat (first | exact List.Sublist.refl _ | exact List.nil_sublist _ | apply List.Sublist.cons_cons | apply List.Sublist.cons)) | exact fun _ hw => (hw.perm (pull_perm 2 _ _ _ rfl)).sub (by repeat (first | exact List.Sublist.refl _ | exact List.nil_sublist _ | apply List.Sublist.cons_cons | apply List.Sublist.cons)) | exact fun _ hw => (hw.perm (pull_perm 3 _ _ _ rfl)).sub (by repeat (first | exact List.Sublist.refl _ | exact List.nil_sublist _ | apply List.Sublist.cons_cons | apply List.Sublist.cons)) | exact fun _ hw => (hw.perm (pull_perm 4 _ _ _ rfl)).sub (by repeat (first | exact List.Sublist.refl _ | exact List.nil_sublist _ | apply List.Sublist.cons_cons | apply List.Sublist.cons))))
              | ((with_reducible apply (RH_take 7)); exact rfl; kernel_rfl; decide +kernel; decide +kernel; (first | exact fun _ hw => hw | exact fun _ hw => hw.sub (by repeat (first | exact List.Sublist.refl _ | exact List.nil_sublist _ | apply List.Sublist.cons_cons | apply List.Sublist.cons)) | exact fun _ hw => (hw.perm (pull_perm 1 _ _ _ rfl)).sub (by repeat (first | exact List.Sublist.refl _ | exact List.nil_sublist _ | apply List.Sublist.cons_cons | apply List.Sublist.cons)) | exact fun _ hw => (hw.perm (pull_perm 2 _ _ _ rfl)).sub (by repeat (first | exact List.Sublist.refl _ | exact List.nil_sublist _ | apply List.Sublist.cons_cons | apply List.Sublist.cons)) | exact fun _ hw => (hw.perm (pull_perm 3 _ _ _ rfl)).sub (by repeat (first | exact List.Sublist.refl _ | exact List.nil_sublist _ | apply List.Sublist.cons_cons | apply List.Sublist.cons)) | exact fun _ hw => (hw.perm (pull_perm 4 _ _ _ rfl)).sub (by repeat (first | exact List.Sublist.refl _ | exact List.nil_sublist _ | apply List.Sublist.cons_cons | apply List.Sublist.cons))))
              | ((with_reducible apply (RH_take 9)); exact rfl; kernel_rfl; decide +kernel; decide +kernel; (first | exact fun _ hw => hw | exact fun _ hw => hw.sub (by repeat (first | exact List.Sublist.refl _ | exact List.nil_sublist _ | apply List.Sublist.cons_cons | apply List.Sublist.cons)) | exact fun _ hw => (hw.perm (pull_perm 1 _ _ _ rfl)).sub (by repeat (first | exact List.Sublist.refl _ | exact List.nil_sublist _ | apply List.Sublist.cons_cons | apply List.Sublist.cons)) | exact fun _ hw => (hw.perm (pull_perm 2 _ _ _ rfl)).sub (by repeat (first | exact List.Sublist.refl _ | exact List.nil_sublist _ | apply List.Sublist.cons_cons | apply List.Sublist.cons)) | exact fun _ hw => (hw.perm (pull_perm 3 _ _ _ rfl)).sub (by repeat (first | exact List.Sublist.refl _ | exact List.nil_sublist _ | apply List.Sublist.cons_cons | apply List.Sublist.cons)) | exact fun _ hw => (hw.perm (pull_perm 4 _ _ _ rfl)).sub (by repeat (first | exact List.Sublist.refl _ | exact List.nil_sublist _ | apply List.Sublist.cons_cons | apply List.Sublist.cons))))
              | ((with_reducible apply (RH_take 10)); exact rfl; kernel_rfl; decide +kernel; decide +kernel; (first | exact fun _ hw => hw | exact fun _ hw => hw.sub (by repeat (first | exact List.Sublist.refl _ | exact List.nil_sublist _ | apply List.Sublist.cons_cons | apply List.Sublist.cons)) | exact fun _ hw => (hw.perm (pull_perm 1 _ _ _ rfl)).sub (by repeat (first | exact List.Sublist.refl _ | exact List.nil_sublist _ | apply List.Sublist.cons_cons | apply List.Sublist.cons)) | exact fun _ hw => (hw.perm (pull_perm 2 _ _ _ rfl)).sub (by repeat (first | exact List.Sublist.refl _ | exact List.nil_sublist _ | apply List.Sublist.cons_cons | apply List.Sublist.cons)) | exact fun _ hw => (hw.perm (pull_perm 3 _ _ _ rfl)).sub (by repeat (first | exact List.Sublist.refl _ | exact List.nil_sublist _ | apply List.Sublist.cons_cons | apply List.Sublist.cons)) | exact fun _ hw => (hw.perm (pull_perm 4 _ _ _ rfl)).sub (by repeat (first | exact List.Sublist.refl _ | exact List.nil_sublist _ | apply List.Sublist.cons_cons | apply List.Sublist.cons))))
              | ((with_reducible apply (RH_take 11)); exact rfl; kernel_rfl; decide +kernel; decide +kernel; (first | exact fun _ hw => hw | exact fun _ hw => hw.sub (by repeat (first | exact List.Sublist.refl _ | exact List.nil_sublist _ | apply List.Sublist.cons_cons | apply List.Sublist.cons)) | exact fun _ hw => (hw.perm (pull_perm 1 _ _ _ rfl)).sub (by repeat (first | exact List.Sublist.refl _ | exact List.nil_sublist _ | apply List.Sublist.cons_cons | apply List.Sublist.cons)) | exact fun _ hw => (hw.perm (pull_perm 2 _ _ _ rfl)).sub (by repeat (first | exact List.Sublist.refl _ | exact List.nil_sublist _ | apply List.Sublist.cons_cons | apply List.Sublist.cons)) | exact fun _ hw => (hw.perm (pull_perm 3 _ _ _ rfl)).sub (by repeat (first | exact List.Sublist.refl _ | exact List.nil_sublist _ | apply List.Sublist.cons_cons | apply List.Sublist.cons)) | exact fun _ hw => (hw.perm (pull_perm 4 _ _ _ rfl)).sub (by repeat (first | exact List.Sublist.refl _ | exact List.nil_sublist _ | apply List.Sublist.cons_cons | apply List.Sublist.cons))))
              | ((with_reducible apply (RH_take 14)); exact rfl; kernel_rfl; decide +kernel; decide +kernel; (first | exact fun _ hw => hw | exact fun _ hw => hw.sub (by repeat (first | exact List.Sublist.refl _ | exact List.nil_sublist _ | apply List.Sublist.cons_cons | apply List.Sublist.cons)) | exact fun _ hw => (hw.perm (pull_perm 1 _ _ _ rfl)).sub (by repeat (first | exact List.Sublist.refl _ | exact List.nil_sublist _ | apply List.Sublist.cons_cons | apply List.Sublist.cons)) | exact fun _ hw => (hw.perm (pull_perm 2 _ _ _ rfl)).sub (by repeat (first | exact List.Sublist.refl _ | exact List.nil_sublist _ | apply List.Sublist.cons_cons | apply List.Sublist.cons)) | exact fun _ hw => (hw.perm (pull_perm 3 _ _ _ rfl)).sub (by repeat (first | exact List.Sublist.refl _ | exact List.nil_sublist _ | apply List.Sublist.cons_cons | apply List.Sublist.cons)) | exact fun _ hw => (hw.perm (pull_perm 4 _ _ _ rfl)).sub (by repeat (first | exact List.Sublist.refl _ | exact List.nil_sublist _ | apply List.Sublist.cons_cons | apply List.Sublist.cons))))
              | ((with_reducible apply (RH_step 8)); decide +kernel; exact rfl)
              | ((with_reducible apply (RH_step 12)); decide +kernel; exact rfl)
              | ((with_reducible apply (RH_step 13)); decide +kernel; exact rfl)
              | ((with_reducible apply (RH_step2 8 12)); decide +kernel; exact rfl; exact rfl)
              | ((with_reducible apply RH_done); decide +kernel)
              | ((with_reducible apply post_take))
              | ((with_reducible apply post_step); (first | exact fun _ hw => hw | exact fun _ hw => hw.sub (by repeat (first | exact List.Sublist.refl _ | exact List.nil_sublist _ | apply List.Sublist.cons_cons | apply List.Sublist.cons)) | exact fun _ hw => (hw.perm (pull_perm 1 _ _ _ rfl)).sub (by repeat (first | exact List.Sublist.refl _ | exact List.nil_sublist _ | apply List.Sublist.cons_cons | apply List.Sublist.cons)) | exact fun _ hw => (hw.perm (pull_perm 2 _ _ _ rfl)).sub (by repeat (first | exact List.Sublist.refl _ | exact List.nil_sublist _ | apply List.Sublist.cons_cons | apply List.Sublist.cons)) | exact fun _ hw => (hw.perm (pull_perm 3 _ _ _ rfl)).sub (by repeat (first | exact List.Sublist.refl _ | exact List.nil_sublist _ | apply List.Sublist.cons_cons | apply List.Sublist.cons)) | exact fun _ hw => (hw.perm (pull_perm 4 _ _ _ rfl)).sub (by repeat (first | exact List.Sublist.refl _ | exact List.nil_sublist _ | apply List.Sublist.cons_cons | apply List.Sublist.cons))))
              | ((with_reducible apply (LR_index_old (i))); exact rfl; exact rfl; exact rfl; exact rfl; exact hs; omega; exact hx; exact rfl; intro _ _)
              | ((with_reducible apply (LR_index_old (k))); exact rfl; exact rfl; exact rfl; exact rfl; exact hs; omega; exact hy; exact rfl; intro _ _)
              | ((with_reducible apply (LS_callx (f := 67))); exact rfl; exact rfl; exact rfl; exact fun w hw => conflict_y (hxg.mono hw) (hyg.mono hw) hxv hyv hC; rintro ⟨q1, q2, q3, q4⟩ _; dsimp only [ptV] at *)
              | ((with_reducible apply RR_end))
              | ((with_reducible apply LR_pure); exact rfl; exact rfl; exact rfl)
              | ((with_reducible apply LR_load_old_agg); exact rfl; exact rfl; exact rfl; assumption; exact rfl)
              | ((with_reducible apply LS_alloc); exact rfl; exact rfl; exact rfl; intro _)
              | ((with_reducible apply LS_store_agg 0); exact rfl; exact rfl; exact rfl; exact rfl; exact rfl; exact rfl; exact rfl; exact rfl)
              | ((with_reducible apply LS_store_agg 2); exact rfl; exact rfl; exact rfl; exact rfl; exact rfl; exact rfl; exact rfl; exact rfl)
            all_goals exact post_cut () trivial ⟨rfl, trivial⟩ (fun _ hw => hw.nil)
          · rintro _ _
            repeat' first
              | ((with_reducible apply CS_seq))
              | ((with_reducible apply CS_region))
              | ((with_reducible apply RR_end))
              | ((with_reducible apply LR_pure); exact rfl; exact rfl; exact rfl)
              | ((with_reducible apply post_seq))
              | ((with_reducible apply post_then_ret))
              | ((with_reducible apply post_block_ret))
              | ((with_reducible apply CS_ret))
            apply ret_bool; exact rfl; exact rfl; rfl
        · have hbf : bb = false := by
            cases bb
            · rfl
            · exact absurd (hP.1 (hB.2 rfl)) hC
          subst hbf
          repeat' first
            | ((with_reducible apply LR_len_sl); exact rfl; exact rfl; exact rfl; exact hs)
            | ((with_reducible apply (LR_index_old (i))); exact rfl; exact rfl; exact rfl; exact rfl; exact hs; omega; exact hx; exact rfl; intro _ _)
            | ((with_reducible apply (LR_index_old (k))); exact rfl; exact rfl; exact rfl; exact rfl; exact hs; omega; exact hy; exact rfl; intro _ _)
            | ((with_reducible apply CS_seq))
            | ((with_reducible apply CS_block))
            | ((with_reducible apply CS_region))
            | ((with_reducible apply RR_end))
            | ((with_reducible apply LR_pure); exact rfl; exact rfl; exact rfl)
            | ((with_reducible apply LR_field); exact rfl; exact rfl; exact rfl)
            | ((with_reducible apply LR_load_old); exact rfl; exact rfl; exact rfl; assumption; exact rfl)
            | ((with_reducible apply post_seq))
            | ((with_reducible apply CS_skip))
            | ((with_reducible apply CS_cond_d); exact rfl; all_goals intro hb; all_goals try (exfalso; omega))
            | ((with_reducible apply LR_caseg_d); exact rfl; exact rfl; all_goals intro hb; all_goals try (exfalso; omega))
          all_goals first | (exfalso; contradiction) | (exfalso; omega) | (exfalso; simp at hb <;> omega) | skip
          refine CS_regionHi (id := 8) 15 [] (fun _ : Unit => [(10, .bool false)]) (fun _ => Wd w []) (fun _ => True) (by kernel_rfl) rfl (by rfl) ?_ ?_
          · skip
            repeat' first
              | ((with_reducible apply (RH_take 0)); exact rfl; kernel_rfl; decide +kernel; decide +kernel; (first | exact fun _ hw => hw | exact fun _ hw => hw.sub (by repeat (first | exact List.Sublist.refl _ | exact List.nil_sublist _ | apply List.Sublist.cons_cons | apply List.Sublist.cons)) | exact fun _ hw => (hw.perm (pull_perm 1 _ _ _ rfl)).sub (by repeat (first | exact List.Sublist.refl _ | exact List.nil_sublist _ | apply List.Sublist.cons_cons | apply List.Sublist.cons)) | exact fun _ hw => (hw.perm (pull_perm 2 _ _ _ rfl)).sub (by repeat (first | exact List.Sublist.refl _ | exact List.nil_sublist _ | apply List.Sublist.cons_cons | apply List.Sublist.cons)) | exact fun _ hw => (hw.perm (pull_perm 3 _ _ _ rfl)).sub (by repeat (first | exact List.Sublist.refl _ | exact List.nil_sublist _ | apply List.Sublist.cons_cons | apply List.Sublist.cons)) | exact fun _ hw => (hw.perm (pull_perm 4 _ _ _ rfl)).sub (by repeat (first | exact List.Sublist.refl _ | exact List.nil_sublist _ | apply List.Sublist.cons_cons | apply List.Sublist.cons))))
              | ((with_reducible apply (RH_take 1)); exact rfl; kernel_rfl; decide +kernel; decide +kernel; (first | exact fun _ hw => hw | exact fun _ hw => hw.sub (by repeat (first | exact List.Sublist.refl _ | exact List.nil_sublist _ | apply List.Sublist.cons_cons | apply List.Sublist.cons)) | exact fun _ hw => (hw.perm (pull_perm 1 _ _ _ rfl)).sub (by repeat (first | exact List.Sublist.refl _ | exact List.nil_sublist _ | apply List.Sublist.cons_cons | apply List.Sublist.cons)) | exact fun _ hw => (hw.perm (pull_perm 2 _ _ _ rfl)).sub (by repeat (first | exact List.Sublist.refl _ | exact List.nil_sublist _ | apply List.Sublist.cons_cons | apply List.Sublist.cons)) | exact fun _ hw => (hw.perm (pull_perm 3 _ _ _ rfl)).sub (by repeat (first | exact List.Sublist.refl _ | exact List.nil_sublist _ | apply List.Sublist.cons_cons | apply List.Sublist.cons)) | exact fun _ hw => (hw.perm (pull_perm 4 _ _ _ rfl)).sub (by repeat (first | exact List.Sublist.refl _ | exact List.nil_sublist _ | apply List.Sublist.cons_cons | apply List.Sublist.cons))))
              | ((with_reducible apply (RH_take 2)); exact rfl; kernel_rfl; decide +kernel; decide +kernel; (first | exact fun _ hw => hw | exact fun _ hw => hw.sub (by repeat (first | exact List.Sublist.refl _ | exact List.nil_sublist _ | apply List.Sublist.cons_cons | apply List.Sublist.cons)) | exact fun _ hw => (hw.perm (pull_perm 1 _ _ _ rfl)).sub (by repeat (first | exact List.Sublist.refl _ | exact List.nil_sublist _ | apply List.Sublist.cons_cons | apply List.Sublist.cons)) | exact fun _ hw => (hw.perm (pull_perm 2 _ _ _ rfl)).sub (by repeat (first | exact List.Sublist.refl _ | exact List.nil_sublist _ | apply List.Sublist.cons_cons | apply List.Sublist.cons)) | exact fun _ hw => (hw.perm (pull_perm 3 _ _ _ rfl)).sub (by repeat (first | exact List.Sublist.refl _ | exact List.nil_sublist _ | apply List.Sublist.cons_cons | apply List.Sublist.cons)) | exact fun _ hw => (hw.perm (pull_perm 4 _ _ _ rfl)).sub (by repeat (first | exact List.Sublist.refl _ | exact List.nil_sublist _ | apply List.Sublist.cons_cons | apply List.Sublist.cons))))
              | ((with_reducible apply (RH_take 3)); exact rfl; kernel_rfl; decide +kernel; decide +kernel; (first | exact fun _ hw => hw | exact fun _ hw => hw.sub (by repeat (first | exact List.Sublist.refl _ | exact List.nil_sublist _ | apply List.Sublist.cons_cons | apply List.Sublist.cons)) | exact fun _ hw => (hw.perm (pull_perm 1 _ _ _ rfl)).sub (by repeat (first | exact List.Sublist.refl _ | exact List.nil_sublist _ | apply List.Sublist.cons_cons | apply List.Sublist.cons)) | exact fun _ hw => (hw.perm (pull_perm 2 _ _ _ rfl)).sub (by repeat (first | exact List.Sublist.refl _ | exact List.nil_sublist _ | apply List.Sublist.cons_cons | apply List.Sublist.cons)) | exact fun _ hw => (hw.perm (pull_perm 3 _ _ _ rfl)).sub (by repeat (first | exact List.Sublist.refl _ | exact List.nil_sublist _ | apply List.Sublist.cons_cons | apply List.Sublist.cons)) | exact fun _ hw => (hw.perm (pull_perm 4 _ _ _ rfl)).sub (by repeat (first | exact List.Sublist.refl _ | exact List.nil_sublist _ | apply List.Sublist.cons_cons | apply List.Sublist.cons))))
              | ((with_reducible apply (RH_take 4)); exact rfl; kernel_rfl; decide +kernel; decide +kernel; (first | exact fun _ hw => hw | exact fun _ hw => hw.sub (by repeat (first | exact List.Sublist.refl _ | exact List.nil_sublist _ | apply List.Sublist.cons_cons | apply List.Sublist.cons)) | exact fun _ hw => (hw.perm (pull_perm 1 _ _ _ rfl)).sub (by repeat (first | exact List.Sublist.refl _ | exact List.nil_sublist _ | apply List.Sublist.cons_cons | apply List.Sublist.cons)) | exact fun _ hw => (hw.perm (pull_perm 2 _ _ _ rfl)).sub (by repeat (first | exact List.Sublist.refl _ | exact List.nil_sublist _ | apply List.Sublist.cons_cons | apply List.Sublist.cons)) | exact fun _ hw => (hw.perm (pull_perm 3 _ _ _ rfl)).sub (by repeat (first | exact List.Sublist.refl _ | exact List.nil_sublist _ | apply List.Sublist.cons_cons | apply List.Sublist.cons)) | exact fun _ hw => (hw.perm (pull_perm 4 _ _ _ rfl)).sub (by repeat (first | exact List.Sublist.refl _ | exact List.nil_sublist _ | apply List.Sublist.cons_cons | apply List.Sublist.cons))))
              | ((with_reducible apply (RH_take 5)); exact rfl; kernel_rfl; decide +kernel; decide +kernel; (first | exact fun _ hw => hw | exact fun _ hw => hw.sub (by repeat (first | exact List.Sublist.refl _ | exact List.nil_sublist _ | apply List.Sublist.cons_cons | apply List.Sublist.cons)) | exact fun _ hw => (hw.perm (pull_perm 1 _ _ _ rfl)).sub (by repeat (first | exact List.Sublist.refl _ | exact List.nil_sublist _ | apply List.Sublist.cons_cons | apply List.Sublist.cons)) | exact fun _ hw => (hw.perm (pull_perm 2 _ _ _ rfl)).sub (by repeat (first | exact List.Sublist.refl _ | exact List.nil_sublist _ | apply List.Sublist.cons_cons | apply List.Sublist.cons)) | exact fun _ hw => (hw.perm (pull_perm 3 _ _ _ rfl)).sub (by repeat (first | exact List.Sublist.refl _ | exact List.nil_sublist _ | apply List.Sublist.cons_cons | apply List.Sublist.cons)) | exact fun _ hw => (hw.perm (pull_perm 4 _ _ _ rfl)).sub (by repeat (first | exact List.Sublist.refl _ | exact List.nil_sublist _ | apply List.Sublist.cons_cons | apply List.Sublist.cons))))
              | ((with_reducible apply (RH_take 6)); exact rfl; kernel_rfl; decide +kernel; decide +kernel; (first | exact fun _ hw => hw | exact fun _ hw => hw.sub (by repeat (first | exact List.Sublist.refl _ | exact List.nil_sublist _ | apply List.Sublist.cons_cons | apply List.Sublist.cons)) | exact fun _ hw => (hw.perm (pull_perm 1 _ _ _ rfl)).sub (by repeat (first | exact List.Sublist.refl _ | exact List.nil_sublist _ | apply List.Sublist.cons_cons | apply List.Sublist.cons)) | exact fun _ hw => (hw.perm (pull_perm 2 _ _ _ rfl)).sub (by repeat (first | exact List.Sublist.refl _ | exact List.nil_sublist _ | apply List.Sublist.cons_cons | apply List.Sublist.cons)) | exact fun _ hw => (hw.perm (pull_perm 3 _ _ _ rfl)).sub (by repeat (first | exact List.Sublist.refl _ | exact List.nil_sublist _ | apply List.Sublist.cons_cons | apply List.Sublist.cons)) | exact fun _ hw => (hw.perm (pull_perm 4 _ _ _ rfl)).sub (by repeat (first | exact List.Sublist.refl _ | exact List.nil_sublist _ | apply List.Sublist.cons_cons | apply List.Sublist.cons))))
              | ((with_reducible apply (RH_take 7)); exact rfl; kernel_rfl; decide +kernel; decide +kernel; (first | exact fun _ hw => hw | exact fun _ hw => hw.sub (by repeat (first | exact List.Sublist.refl _ | exact List.nil_sublist _ | apply List.Sublist.cons_cons | apply List.Sublist.cons)) | exact fun _ hw => (hw.perm (pull_perm 1 _ _ _ rfl)).sub (by repeat (first | exact List.Sublist.refl _ | exact List.nil_sublist _ | apply List.Sublist.cons_cons | apply List.Sublist.cons)) | exact fun _ hw => (hw.perm (pull_perm 2 _ _ _ rfl)).sub (by repeat (first | exact List.Sublist.refl _ | exact List.nil_sublist _ | apply List.Sublist.cons_cons | apply List.Sublist.cons)) | exact fun _ hw => (hw.perm (pull_perm 3 _ _ _ rfl)).sub (by repeat (first | exact List.Sublist.refl _ | exact List.nil_sublist _ | apply List.Sublist.cons_cons | apply List.Sublist.cons)) | exact fun _ hw => (hw.perm (pull_perm 4 _ _ _ rfl)).sub (by repeat (first | exact List.Sublist.refl _ | exact List.nil_sublist _ | apply List.Sublist.cons_cons | apply List.Sublist.cons))))
              | ((with_reducible apply (RH_take 9)); exact rfl; kernel_rfl; decide +kernel; decide +kernel; (first | exact fun _ hw => hw | exact fun _ hw => hw.sub (by repeat (first | exact List.Sublist.refl _ | exact List.nil_sublist _ | apply List.Sublist.cons_cons | apply List.Sublist.cons)) | exact fun _ hw => (hw.perm (pull_perm 1 _ _ _ rfl)).sub (by repeat (first | exact List.Sublist.refl _ | exact List.nil_sublist _ | apply List.Sublist.cons_cons | apply List.Sublist.cons)) | exact fun _ hw => (hw.perm (pull_perm 2 _ _ _ rfl)).sub (by repeat (first | exact List.Sublist.refl _ | exact List.nil_sublist _ | apply List.Sublist.cons_cons | apply List.Sublist.cons)) | exact fun _ hw => (hw.perm (pull_perm 3 _ _ _ rfl)).sub (by repeat (first | exact List.Sublist.refl _ | exact List.nil_sublist _ | apply List.Sublist.cons_cons | apply List.Sublist.cons)) | exact fun _ hw => (hw.perm (pull_perm 4 _ _ _ rfl)).sub (by repeat (first | exact List.Sublist.refl _ | exact List.nil_sublist _ | apply List.Sublist.cons_cons | apply List.Sublist.cons))))
              | ((with_reducible apply (RH_take 10)); exact rfl; kernel_rfl; decide +kernel; decide +kernel; (first | exact fun _ hw => hw | exact fun _ hw => hw.sub (by repeat (first | exact List.Sublist.refl _ | exact List.nil_sublist _ | apply List.Sublist.cons_cons | apply List.Sublist.cons)) | exact fun _ hw => (hw.perm (pull_perm 1 _ _ _ rfl)).sub (by repeat (first | exact List.Sublist.refl _ | exact List.nil_sublist _ | apply List.Sublist.cons_cons | apply List.Sublist.cons)) | exact fun _ hw => (hw.perm (pull_perm 2 _ _ _ rfl)).sub (by repeat (first | exact List.Sublist.refl _ | exact List.nil_sublist _ | apply List.Sublist.cons_cons | apply List.Sublist.cons)) | exact fun _ hw => (hw.perm (pull_perm 3 _ _ _ rfl)).sub (by repeat (first | exact List.Sublist.refl _ | exact List.nil_sublist _ | apply List.Sublist.cons_cons | apply List.Sublist.cons)) | exact fun _ hw => (hw.perm (pull_perm 4 _ _ _ rfl)).sub (by repeat (first | exact List.Sublist.refl _ | exact List.nil_sublist _ | apply List.Sublist.cons_cons | apply List.Sublist.cons))))
              | ((with_reducible apply (RH_take 11)); exact rfl; kernel_rfl; decide +kernel; decide +kernel; (first | exact fun _ hw => hw | exact fun _ hw => hw.sub (by repeat (first | exact List.Sublist.refl _ | exact List.nil_sublist _ | apply List.Sublist.cons_cons | apply List.Sublist.cons)) | exact fun _ hw => (hw.perm (pull_perm 1 _ _ _ rfl)).sub (by repeat (first | exact List.Sublist.refl _ | exact List.nil_sublist _ | apply List.Sublist.cons_cons | apply List.Sublist.cons)) | exact fun _ hw => (hw.perm (pull_perm 2 _ _ _ rfl)).sub (by repeat (first | exact List.Sublist.refl _ | exact List.nil_sublist _ | apply List.Sublist.cons_cons | apply List.Sublist.cons)) | exact fun _ hw => (hw.perm (pull_perm 3 _ _ _ rfl)).sub (by repeat (first | exact List.Sublist.refl _ | exact List.nil_sublist _ | apply List.Sublist.cons_cons | apply List.Sublist.cons)) | exact fun _ hw => (hw.perm (pull_perm 4 _ _ _ rfl)).sub (by repeat (first | exact List.Sublist.refl _ | exact List.nil_sublist _ | apply List.Sublist.cons_cons | apply List.Sublist.cons))))
              | ((with_reducible apply (RH_take 14)); exact rfl; kernel_rfl; decide +kernel; decide +kernel; (first | exact fun _ hw => hw | exact fun _ hw => hw.sub (by repeat (first | exact List.Sublist.refl _ | exact List.nil_sublist _ | apply List.Sublist.cons_cons | apply List.Sublist.cons)) | exact fun _ hw => (hw.perm (pull_perm 1 _ _ _ rfl)).sub (by repeat (first | exact List.Sublist.refl _ | exact List.nil_sublist _ | apply List.Sublist.cons_cons | apply List.Sublist.cons)) | exact fun _ hw => (hw.perm (pull_perm 2 _ _ _ rfl)).sub (by repeat (first | exact List.Sublist.refl _ | exact List.nil_sublist _ | apply List.Sublist.cons_cons | apply List.Sublist.cons)) | exact fun _ hw => (hw.perm (pull_perm 3 _ _ _ rfl)).sub (by repeat (first | exact List.Sublist.refl _ | exact List.nil_sublist _ | apply List.Sublist.cons_cons | apply List.Sublist.cons)) | exact fun _ hw => (hw.perm (pull_perm 4 _ _ _ rfl)).sub (by repeat (first | exact List.Sublist.refl _ | exact List.nil_sublist _ | apply List.Sublist.cons_cons | apply List.Sublist.cons))))
              | ((with_reducible apply (RH_step 8)); decide +kernel; exact rfl)
              | ((with_reducible apply (RH_step 12)); decide +kernel; exact rfl)
              | ((with_reducible apply (RH_step 13)); decide +kernel; exact rfl)
              | ((with_reducible apply (RH_step2 8 12)); decide +kernel; exact rfl; exact rfl)
              | ((with_reducible apply RH_done); decide +kernel)
              | ((with_reducible apply post_take))
              | ((with_reducible apply post_step); (first | exact fun _ hw => hw | exact fun _ hw => hw.sub (by repeat (first | exact List.Sublist.refl _ | exact List.nil_sublist _ | apply List.Sublist.cons_cons | apply List.Sublist.cons)) | exact fun _ hw => (hw.perm (pull_perm 1 _ _ _ rfl)).sub (by repeat (first | exact List.Sublist.refl _ | exact List.nil_sublist _ | apply List.Sublist.cons_cons | apply List.Sublist.cons)) | exact fun _ hw => (hw.perm (pull_perm 2 _ _ _ rfl)).sub (by repeat (first | exact List.Sublist.refl _ | exact List.nil_sublist _ | apply List.Sublist.cons_cons | apply List.Sublist.cons)) | exact fun _ hw => (hw.perm (pull_perm 3 _ _ _ rfl)).sub (by repeat (first | exact List.Sublist.refl _ | exact List.nil_sublist _ | apply List.Sublist.cons_cons | apply List.Sublist.cons)) | exact fun _ hw => (hw.perm (pull_perm 4 _ _ _ rfl)).sub (by repeat (first | exact List.Sublist.refl _ | exact List.nil_sublist _ | apply List.Sublist.cons_cons | apply List.Sublist.cons))))
              | ((with_reducible apply (LR_index_old (i))); exact rfl; exact rfl; exact rfl; exact rfl; exact hs; omega; exact hx; exact rfl; intro _ _)
              | ((with_reducible apply (LR_index_old (k))); exact rfl; exact rfl; exact rfl; exact rfl; exact hs; omega; exact hy; exact rfl; intro _ _)
              | ((with_reducible apply (LR_call (f := 67))); exact rfl; exact rfl; exact rfl; exact fun w hw => conflict_n (hxg.mono hw) (hyg.mono hw) hxv hyv hC)
              | ((with_reducible apply RR_end))
              | ((with_reducible apply LR_pure); exact rfl; exact rfl; exact rfl)
              | ((with_reducible apply LR_load_old_agg); exact rfl; exact rfl; exact rfl; assumption; exact rfl)
              | ((with_reducible apply LS_alloc); exact rfl; exact rfl; exact rfl; intro _)
              | ((with_reducible apply LS_store_agg 0); exact rfl; exact rfl; exact rfl; exact rfl; exact rfl; exact rfl; exact rfl; exact rfl)
            all_goals exact post_cut () trivial ⟨rfl, trivial⟩ (fun _ hw => hw.nil)
          · rintro _ _
            repeat' first
              | ((with_reducible apply CS_seq))
              | ((with_reducible apply CS_region))
              | ((with_reducible apply RR_end))
              | ((with_reducible apply LR_pure); exact rfl; exact rfl; exact rfl)
              | ((with_reducible apply post_seq))
              | ((with_reducible apply post_then_ret))
              | ((with_reducible apply post_block_ret))
              | ((with_reducible apply CS_ret))
            apply ret_bool; exact rfl; exact rfl; rfl
      · skip
        repeat' first
          | ((with_reducible apply LR_len_sl); exact rfl; exact rfl; exact rfl; exact hs)
          | ((with_reducible apply (LR_index_old (i))); exact rfl; exact rfl; exact rfl; exact rfl; exact hs; omega; exact hx; exact rfl; intro _ _)
          | ((with_reducible apply (LR_index_old (k))); exact rfl; exact rfl; exact rfl; exact rfl; exact hs; omega; exact hy; exact rfl; intro _ _)
          | ((with_reducible apply CS_seq))
          | ((with_reducible apply CS_block))
          | ((with_reducible apply CS_region))
          | ((with_reducible apply RR_end))
          | ((with_reducible apply LR_pure); exact rfl; exact rfl; exact rfl)
          | ((with_reducible apply LR_skip); exact rfl; exact rfl)
          | ((with_reducible apply LR_add); exact rfl; exact rfl; exact rfl; exact rfl; omega; omega)
          | ((with_reducible apply LR_field); exact rfl; exact rfl; exact rfl)
          | ((with_reducible apply LR_load_old); exact rfl; exact rfl; exact rfl; assumption; exact rfl)
          | ((with_reducible apply post_seq))
          | ((with_reducible apply post_block_n))
          | ((with_reducible apply CS_skip))
          | ((with_reducible apply CS_cond_f); exact rfl)
          | ((with_reducible apply CS_cond_d); exact rfl; all_goals intro hb; all_goals try (exfalso; omega))
          | ((with_reducible apply LR_caseg_d); exact rfl; exact rfl; all_goals intro hb; all_goals try (exfalso; omega))
        all_goals first | (exfalso; contradiction) | (exfalso; omega) | (exfalso; simp at hb <;> omega) | skip
        all_goals exact post_round (i := k) (k + 1) ⟨by omega, fun k' h' z hz => by
          by_cases he : k' = k
          · subst he; rw [hy] at hz; cases hz; exact hm
          · exact k2 k' (by omega) z hz⟩ (by omega) ⟨rfl, rfl, rfl, rfl, rfl, trivial⟩ (fun _ hw => hw.nil)
    · skip
      repeat' first
        | ((with_reducible apply LR_len_sl); exact rfl; exact rfl; exact rfl; exact hs)
        | ((with_reducible apply CS_seq))
        | ((with_reducible apply CS_region))
        | ((with_reducible apply RR_end))
        | ((with_reducible apply LR_pure); exact rfl; exact rfl; exact rfl)
        | ((with_reducible apply LR_add); exact rfl; exact rfl; exact rfl; exact rfl; omega; omega)
        | ((with_reducible apply post_seq))
        | ((with_reducible apply post_then_exit))
        | ((with_reducible apply post_block_n))
        | ((with_reducible apply post_block_eq))
        | ((with_reducible apply CS_exit))
        | ((with_reducible apply CS_cond_d); exact rfl; all_goals intro hb; all_goals try (exfalso; omega))
      all_goals first | (exfalso; contradiction) | (exfalso; omega) | (exfalso; simp at hb <;> omega) | skip
      all_goals exact post_round (i := i) (i + 1) ⟨by omega, fun i' h' k' x' y' hx' hy' => by
        by_cases he : i' = i
        · subst he; rw [hx] at hx'; cases hx'
          exact k2 k' (by have := (List.getElem?_eq_some_iff.1 hy').1; omega) y' hy'
        · exact i2 i' (by omega) k' x' y' hx' hy'⟩ (by omega) ⟨rfl, rfl, rfl, rfl, trivial⟩ (fun _ hw => hw.nil)
  · have hbf := bfalse hB (fun ⟨x, hx, y, hy, h1, h2, _⟩ => by
      obtain ⟨i', hi'⟩ := List.mem_iff_getElem?.1 hx
      obtain ⟨k', hk'⟩ := List.mem_iff_getElem?.1 hy
      exact i2 i' (by have := (List.getElem?_eq_some_iff.1 hi').1; omega) k' x y hi' hk' ⟨h1, h2⟩)
    repeat' first
      | ((with_reducible apply LR_len_sl); exact rfl; exact rfl; exact rfl; exact hs)
      | ((with_reducible apply CS_seq))
      | ((with_reducible apply CS_region))
      | ((with_reducible apply RR_end))
      | ((with_reducible apply LR_pure); exact rfl; exact rfl; exact rfl)
      | ((with_reducible apply post_seq))
      | ((with_reducible apply post_then_exit))
      | ((with_reducible apply post_block_eq))
      | ((with_reducible apply CS_ret))
      | ((with_reducible apply CS_exit))
      | ((with_reducible apply CS_cond_d); exact rfl; all_goals intro hb; all_goals try (exfalso; omega))
    all_goals first | (exfalso; contradiction) | (exfalso; omega) | (exfalso; simp at hb <;> omega) | skip
    apply ret_bool; exact rfl; exact rfl; exact hbf
set_option maxHeartbeats 4000000 in
theorem clear1_ok (v : Value) (l : List Ru) (w : World) (bb : Bool) (hs : Sl w v l) (hg : ROks w l) (hV : VRs l) (hB : Clear l ↔ bb = true) : Calls Try.prog 45 #[v] w (Gives (.bool bb) w) := by
  have hlen := hs.len
  simp only [maxLen] at hlen
  rw [Clear_at hV] at hB
  refine enter (vs := [v]) Try.func45 rfl Try.ntmps45 rfl ?_
  repeat' first
    | ((with_reducible apply CS_seq))
    | ((with_reducible apply CS_block))
    | ((with_reducible apply CS_region))
    | ((with_reducible apply RR_end))
    | ((with_reducible apply LR_pure); exact rfl; exact rfl; exact rfl)
    | ((with_reducible apply post_seq))
  refine CS_loop (ι := Nat) (fun i => [(0, v), (3, .int .i64 (i : Int))]) (fun _ => Wd w []) (fun i => i ≤ l.length ∧ ∀ i' < i, ∀ k' < i', ∀ (x y : Ru), l[k']? = some x → l[i']? = some y → ¬ Cfl x y) (fun i => l.length - i) 0 ⟨by omega, fun i' h => by omega⟩ ⟨rfl, rfl, trivial⟩ (fun _ hw => hw) ?_
  rintro i ⟨i1, i2⟩
  by_cases hi : i < l.length
  · obtain ⟨y, hy⟩ : ∃ y, l[i]? = some y := ⟨_, List.getElem?_eq_getElem hi⟩
    repeat' first
      | ((with_reducible apply LR_len_sl); exact rfl; exact rfl; exact rfl; exact hs)
      | ((with_reducible apply CS_seq))
      | ((with_reducible apply CS_block))
      | ((with_reducible apply CS_region))
      | ((with_reducible apply RR_end))
      | ((with_reducible apply LR_pure); exact rfl; exact rfl; exact rfl)
      | ((with_reducible apply post_seq))
      | ((with_reducible apply CS_skip))
      | ((with_reducible apply CS_cond_d); exact rfl; all_goals intro hb; all_goals try (exfalso; omega))
    all_goals first | (exfalso; contradiction) | (exfalso; omega) | (exfalso; simp at hb <;> omega) | skip
    refine CS_loop (ι := Nat) (fun k => [(0, v), (3, .int .i64 (i : Int)), (4, .int .i64 (k : Int))]) (fun _ => Wd w []) (fun k => k ≤ i ∧ ∀ k' < k, ∀ (x : Ru), l[k']? = some x → ¬ Cfl x y) (fun k => i - k) 0 ⟨by omega, fun i' h => by omega⟩ ⟨rfl, rfl, rfl, trivial⟩ (fun _ hw => hw) ?_
    rintro k ⟨k1, k2⟩
    by_cases hk : k < i
    · obtain ⟨x, hx⟩ : ∃ y, l[k]? = some y := ⟨_, List.getElem?_eq_getElem (by omega)⟩
      have hxm := List.mem_of_getElem? hx
      have hym := List.mem_of_getElem? hy
      have hxg := hg x hxm
      have hyg := hg y hym
      have hxv := VRs_all hV x hxm
      have hyv := VRs_all hV y hym
      by_cases hC : Cfl x y
      · have hbf := bfalse hB (fun h => h k i x y hk hx hy hC)
        repeat' first
          | ((with_reducible apply CS_seq))
          | ((with_reducible apply CS_block))
          | ((with_reducible apply CS_region))
          | ((with_reducible apply RR_end))
          | ((with_reducible apply LR_pure); exact rfl; exact rfl; exact rfl)
          | ((with_reducible apply post_seq))
          | ((with_reducible apply CS_skip))
          | ((with_reducible apply CS_cond_d); exact rfl; all_goals intro hb; all_goals try (exfalso; omega))
        all_goals first | (exfalso; contradiction) | (exfalso; omega) | (exfalso; simp at hb <;> omega) | skip
        refine CS_regionHi (id := 7) 15 [] (fun _ : Unit => [(0, v), (3, .int .i64 (i : Int)), (4, .int .i64 (k : Int)), (6, .bool true)]) (fun _ => Wd w []) (fun _ => True) (by kernel_rfl) rfl (by rfl) ?_ ?_
        · skip
          repeat' first
            | ((with_reducible apply (RH_take 0)); exact rfl; kernel_rfl; decide +kernel; decide +kernel; (first | exact fun _ hw => hw | exact fun _ hw => hw.sub (by repeat (first | exact List.Sublist.refl _ | exact List.nil_sublist _ | apply List.Sublist.cons_cons | apply List.Sublist.cons)) | exact fun _ hw => (hw.perm (pull_perm 1 _ _ _ rfl)).sub (by repeat (first | exact List.Sublist.refl _ | exact List.nil_sublist _ | apply List.Sublist.cons_cons | apply List.Sublist.cons)) | exact fun _ hw => (hw.perm (pull_perm 2 _ _ _ rfl)).sub (by repeat (first | exact List.Sublist.refl _ | exact List.nil_sublist _ | apply List.Sublist.cons_cons | apply List.Sublist.cons)) | exact fun _ hw => (hw.perm (pull_perm 3 _ _ _ rfl)).sub (by repeat (first | exact List.Sublist.refl _ | exact List.nil_sublist _ | apply List.Sublist.cons_cons | apply List.Sublist.cons)) | exact fun _ hw => (hw.perm (pull_perm 4 _ _ _ rfl)).sub (by repeat (first | exact List.Sublist.refl _ | exact List.nil_sublist _ | apply List.Sublist.cons_cons | apply List.Sublist.cons))))
            | ((with_reducible apply (RH_take 1)); exact rfl; kernel_rfl; decide +kernel; decide +kernel; (first | exact fun _ hw => hw | exact fun _ hw => hw.sub (by repeat (first | exact List.Sublist.refl _ | exact List.nil_sublist _ | apply List.Sublist.cons_cons | apply List.Sublist.cons)) | exact fun _ hw => (hw.perm (pull_perm 1 _ _ _ rfl)).sub (by repeat (first | exact List.Sublist.refl _ | exact List.nil_sublist _ | apply List.Sublist.cons_cons | apply List.Sublist.cons)) | exact fun _ hw => (hw.perm (pull_perm 2 _ _ _ rfl)).sub (by repeat (first | exact List.Sublist.refl _ | exact List.nil_sublist _ | apply List.Sublist.cons_cons | apply List.Sublist.cons)) | exact fun _ hw => (hw.perm (pull_perm 3 _ _ _ rfl)).sub (by repeat (first | exact List.Sublist.refl _ | exact List.nil_sublist _ | apply List.Sublist.cons_cons | apply List.Sublist.cons)) | exact fun _ hw => (hw.perm (pull_perm 4 _ _ _ rfl)).sub (by repeat (first | exact List.Sublist.refl _ | exact List.nil_sublist _ | apply List.Sublist.cons_cons | apply List.Sublist.cons))))
            | ((with_reducible apply (RH_take 2)); exact rfl; kernel_rfl; decide +kernel; decide +kernel; (first | exact fun _ hw => hw | exact fun _ hw => hw.sub (by repeat (first | exact List.Sublist.refl _ | exact List.nil_sublist _ | apply List.Sublist.cons_cons | apply List.Sublist.cons)) | exact fun _ hw => (hw.perm (pull_perm 1 _ _ _ rfl)).sub (by repeat (first | exact List.Sublist.refl _ | exact List.nil_sublist _ | apply List.Sublist.cons_cons | apply List.Sublist.cons)) | exact fun _ hw => (hw.perm (pull_perm 2 _ _ _ rfl)).sub (by repeat (first | exact List.Sublist.refl _ | exact List.nil_sublist _ | apply List.Sublist.cons_cons | apply List.Sublist.cons)) | exact fun _ hw => (hw.perm (pull_perm 3 _ _ _ rfl)).sub (by repeat (first | exact List.Sublist.refl _ | exact List.nil_sublist _ | apply List.Sublist.cons_cons | apply List.Sublist.cons)) | exact fun _ hw => (hw.perm (pull_perm 4 _ _ _ rfl)).sub (by repeat (first | exact List.Sublist.refl _ | exact List.nil_sublist _ | apply List.Sublist.cons_cons | apply List.Sublist.cons))))
            | ((with_reducible apply (RH_take 3)); exact rfl; kernel_rfl; decide +kernel; decide +kernel; (first | exact fun _ hw => hw | exact fun _ hw => hw.sub (by repeat (first | exact List.Sublist.refl _ | exact List.nil_sublist _ | apply List.Sublist.cons_cons | apply List.Sublist.cons)) | exact fun _ hw => (hw.perm (pull_perm 1 _ _ _ rfl)).sub (by repeat (first | exact List.Sublist.refl _ | exact List.nil_sublist _ | apply List.Sublist.cons_cons | apply List.Sublist.cons)) | exact fun _ hw => (hw.perm (pull_perm 2 _ _ _ rfl)).sub (by repeat (first | exact List.Sublist.refl _ | exact List.nil_sublist _ | apply List.Sublist.cons_cons | apply List.Sublist.cons)) | exact fun _ hw => (hw.perm (pull_perm 3 _ _ _ rfl)).sub (by repeat (first | exact List.Sublist.refl _ | exact List.nil_sublist _ | apply List.Sublist.cons_cons | apply List.Sublist.cons)) | exact fun _ hw => (hw.perm (pull_perm 4 _ _ _ rfl)).sub (by repeat (first | exact List.Sublist.refl _ | exact List.nil_sublist _ | apply List.Sublist.cons_cons | apply List.Sublist.cons))))
            | ((with_reducible apply (RH_take 4)); exact rfl; kernel_rfl; decide +kernel; decide +kernel; (first | exact fun _ hw => hw | exact fun _ hw => hw.sub (by repeat (first | exact List.Sublist.refl _ | exact List.nil_sublist _ | apply List.Sublist.cons_cons | apply List.Sublist.cons)) | exact fun _ hw => (hw.perm (pull_perm 1 _ _ _ rfl)).sub (by repeat (first | exact List.Sublist.refl _ | exact List.nil_sublist _ | apply List.Sublist.cons_cons | apply List.Sublist.cons)) | exact fun _ hw => (hw.perm (pull_perm 2 _ _ _ rfl)).sub (by repeat (first | exact List.Sublist.refl _ | exact List.nil_sublist _ | apply List.Sublist.cons_cons | apply List.Sublist.cons)) | exact fun _ hw => (hw.perm (pull_perm 3 _ _ _ rfl)).sub (by repeat (first | exact List.Sublist.refl _ | exact List.nil_sublist _ | apply List.Sublist.cons_cons | apply List.Sublist.cons)) | exact fun _ hw => (hw.perm (pull_perm 4 _ _ _ rfl)).sub (by repeat (first | exact List.Sublist.refl _ | exact List.nil_sublist _ | apply List.Sublist.cons_cons | apply List.Sublist.cons))))
            | ((with_reducible apply (RH_take 5)); exact rfl; kernel_rfl; decide +kernel; decide +kernel; (first | exact fun _ hw => hw | exact fun _ hw => hw.sub (by repeat (first | exact List.Sublist.refl _ | exact List.nil_sublist _ | apply List.Sublist.cons_cons | apply List.Sublist.cons)) | exact fun _ hw => (hw.perm (pull_perm 1 _ _ _ rfl)).sub (by repeat (first | exact List.Sublist.refl _ | exact List.nil_sublist _ | apply List.Sublist.cons_cons | apply List.Sublist.cons)) | exact fun _ hw => (hw.perm (pull_perm 2 _ _ _ rfl)).sub (by repeat (first | exact List.Sublist.refl _ | exact List.nil_sublist _ | apply List.Sublist.cons_cons | apply List.Sublist.cons)) | exact fun _ hw => (hw.perm (pull_perm 3 _ _ _ rfl)).sub (by repeat (first | exact List.Sublist.refl _ | exact List.nil_sublist _ | apply List.Sublist.cons_cons | apply List.Sublist.cons)) | exact fun _ hw => (hw.perm (pull_perm 4 _ _ _ rfl)).sub (by repeat (first | exact List.Sublist.refl _ | exact List.nil_sublist _ | apply List.Sublist.cons_cons | apply List.Sublist.cons))))
            | ((with_reducible apply (RH_take 6)); exact rfl; kernel_rfl; decide +kernel; decide +kernel; (first | exact fun _ hw => hw | exact fun _ hw => hw.sub (by repeat (first | exact List.Sublist.refl _ | exact List.nil_sublist _ | apply List.Sublist.cons_cons | apply List.Sublist.cons)) | exact fun _ hw => (hw.perm (pull_perm 1 _ _ _ rfl)).sub (by repeat (first | exact List.Sublist.refl _ | exact List.nil_sublist _ | apply List.Sublist.cons_cons | apply List.Sublist.cons)) | exact fun _ hw => (hw.perm (pull_perm 2 _ _ _ rfl)).sub (by repeat (first | exact List.Sublist.refl _ | exact List.nil_sublist _ | apply List.Sublist.cons_cons | apply List.Sublist.cons)) | exact fun _ hw => (hw.perm (pull_perm 3 _ _ _ rfl)).sub (by repeat (first | exact List.Sublist.refl _ | exact List.nil_sublist _ | apply List.Sublist.cons_cons | apply List.Sublist.cons)) | exact fun _ hw => (hw.perm (pull_perm 4 _ _ _ rfl)).sub (by repeat (first | exact List.Sublist.refl _ | exact List.nil_sublist _ | apply List.Sublist.cons_cons | apply List.Sublist.cons))))
            | ((with_reducible apply (RH_take 7)); exact rfl; kernel_rfl; decide +kernel; decide +kernel; (first | exact fun _ hw => hw | exact fun _ hw => hw.sub (by repeat (first | exact List.Sublist.refl _ | exact List.nil_sublist _ | apply List.Sublist.cons_cons | apply List.Sublist.cons)) | exact fun _ hw => (hw.perm (pull_perm 1 _ _ _ rfl)).sub (by repeat (first | exact List.Sublist.refl _ | exact List.nil_sublist _ | apply List.Sublist.cons_cons | apply List.Sublist.cons)) | exact fun _ hw => (hw.perm (pull_perm 2 _ _ _ rfl)).sub (by repeat (first | exact List.Sublist.refl _ | exact List.nil_sublist _ | apply List.Sublist.cons_cons | apply List.Sublist.cons)) | exact fun _ hw => (hw.perm (pull_perm 3 _ _ _ rfl)).sub (by repeat (first | exact List.Sublist.refl _ | exact List.nil_sublist _ | apply List.Sublist.cons_cons | apply List.Sublist.cons)) | exact fun _ hw => (hw.perm (pull_perm 4 _ _ _ rfl)).sub (by repeat (first | exact List.Sublist.refl _ | exact List.nil_sublist _ | apply List.Sublist.cons_cons | apply List.Sublist.cons))))
            | ((with_reducible apply (RH_take 9)); exact rfl; kernel_rfl; decide +kernel; decide +kernel; (first | exact fun _ hw => hw | exact fun _ hw => hw.sub (by repeat (first | exact List.Sublist.refl _ | exact List.nil_sublist _ | apply List.Sublist.cons_cons | apply List.Sublist.cons)) | exact fun _ hw => (hw.perm (pull_perm 1 _ _ _ rfl)).sub (by repeat (first | exact List.Sublist.refl _ | exact List.nil_sublist _ | apply List.Sublist.cons_cons | apply List.Sublist.cons)) | exact fun _ hw => (hw.perm (pull_perm 2 _ _ _ rfl)).sub (by repeat (first | exact List.Sublist.refl _ | exact List.nil_sublist _ | apply List.Sublist.cons_cons | apply List.Sublist.cons)) | exact fun _ hw => (hw.perm (pull_perm 3 _ _ _ rfl)).sub (by repeat (first | exact List.Sublist.refl _ | exact List.nil_sublist _ | apply List.Sublist.cons_cons | apply List.Sublist.cons)) | exact fun _ hw => (hw.perm (pull_perm 4 _ _ _ rfl)).sub (by repeat (first | exact List.Sublist.refl _ | exact List.nil_sublist _ | apply List.Sublist.cons_cons | apply List.Sublist.cons))))
            | ((with_reducible apply (RH_take 10)); exact rfl; kernel_rfl; decide +kernel; decide +kernel; (first | exact fun _ hw => hw | exact fun _ hw => hw.sub (by repeat (first | exact List.Sublist.refl _ | exact List.nil_sublist _ | apply List.Sublist.cons_cons | apply List.Sublist.cons)) | exact fun _ hw => (hw.perm (pull_perm 1 _ _ _ rfl)).sub (by repeat (first | exact List.Sublist.refl _ | exact List.nil_sublist _ | apply List.Sublist.cons_cons | apply List.Sublist.cons)) | exact fun _ hw => (hw.perm (pull_perm 2 _ _ _ rfl)).sub (by repeat (first | exact List.Sublist.refl _ | exact List.nil_sublist _ | apply List.Sublist.cons_cons | apply List.Sublist.cons)) | exact fun _ hw => (hw.perm (pull_perm 3 _ _ _ rfl)).sub (by repeat (first | exact List.Sublist.refl _ | exact List.nil_sublist _ | apply List.Sublist.cons_cons | apply List.Sublist.cons)) | exact fun _ hw => (hw.perm (pull_perm 4 _ _ _ rfl)).sub (by repeat (first | exact List.Sublist.refl _ | exact List.nil_sublist _ | apply List.Sublist.cons_cons | apply List.Sublist.cons))))
            | ((with_reducible apply (RH_take 11)); exact rfl; kernel_rfl; decide +kernel; decide +kernel; (first | exact fun _ hw => hw | exact fun _ hw => hw.sub (by repeat (first | exact List.Sublist.refl _ | exact List.nil_sublist _ | apply List.Sublist.cons_cons | apply List.Sublist.cons)) | exact fun _ hw => (hw.perm (pull_perm 1 _ _ _ rfl)).sub (by repeat (first | exact List.Sublist.refl _ | exact List.nil_sublist _ | apply List.Sublist.cons_cons | apply List.Sublist.cons)) | exact fun _ hw => (hw.perm (pull_perm 2 _ _ _ rfl)).sub (by repeat (first | exact List.Sublist.refl _ | exact List.nil_sublist _ | apply List.Sublist.cons_cons | apply List.Sublist.cons)) | exact fun _ hw => (hw.perm (pull_perm 3 _ _ _ rfl)).sub (by repeat (first | exact List.Sublist.refl _ | exact List.nil_sublist _ | apply List.Sublist.cons_cons | apply List.Sublist.cons)) | exact fun _ hw => (hw.perm (pull_perm 4 _ _ _ rfl)).sub (by repeat (first | exact List.Sublist.refl _ | exact List.nil_sublist _ | apply List.Sublist.cons_cons | apply List.Sublist.cons))))
            | ((with_reducible apply (RH_take 14)); exact rfl; kernel_rfl; decide +kernel; decide +kernel; (first | exact fun _ hw => hw | exact fun _ hw => hw.sub (by repeat (first | exact List.Sublist.refl _ | exact List.nil_sublist _ | apply List.Sublist.cons_cons | apply List.Sublist.cons)) | exact fun _ hw => (hw.perm (pull_perm 1 _ _ _ rfl)).sub (by repeat (first | exact List.Sublist.refl _ | exact List.nil_sublist _ | apply List.Sublist.cons_cons | apply List.Sublist.cons)) | exact fun _ hw => (hw.perm (pull_perm 2 _ _ _ rfl)).sub (by repeat (first | exact List.Sublist.refl _ | exact List.nil_sublist _ | apply List.Sublist.cons_cons | apply List.Sublist.cons)) | exact fun _ hw => (hw.perm (pull_perm 3 _ _ _ rfl)).sub (by repeat (first | exact List.Sublist.refl _ | exact List.nil_sublist _ | apply List.Sublist.cons_cons | apply List.Sublist.cons)) | exact fun _ hw => (hw.perm (pull_perm 4 _ _ _ rfl)).sub (by repeat (first | exact List.Sublist.refl _ | exact List.nil_sublist _ | apply List.Sublist.cons_cons | apply List.Sublist.cons))))
            | ((with_reducible apply (RH_step 8)); decide +kernel; exact rfl)
            | ((with_reducible apply (RH_step 12)); decide +kernel; exact rfl)
            | ((with_reducible apply (RH_step 13)); decide +kernel; exact rfl)
            | ((with_reducible apply (RH_step2 8 12)); decide +kernel; exact rfl; exact rfl)
            | ((with_reducible apply RH_done); decide +kernel)
            | ((with_reducible apply post_take))
            | ((with_reducible apply post_step); (first | exact fun _ hw => hw | exact fun _ hw => hw.sub (by repeat (first | exact List.Sublist.refl _ | exact List.nil_sublist _ | apply List.Sublist.cons_cons | apply List.Sublist.cons)) | exact fun _ hw => (hw.perm (pull_perm 1 _ _ _ rfl)).sub (by repeat (first | exact List.Sublist.refl _ | exact List.nil_sublist _ | apply List.Sublist.cons_cons | apply List.Sublist.cons)) | exact fun _ hw => (hw.perm (pull_perm 2 _ _ _ rfl)).sub (by repeat (first | exact List.Sublist.refl _ | exact List.nil_sublist _ | apply List.Sublist.cons_cons | apply List.Sublist.cons)) | exact fun _ hw => (hw.perm (pull_perm 3 _ _ _ rfl)).sub (by repeat (first | exact List.Sublist.refl _ | exact List.nil_sublist _ | apply List.Sublist.cons_cons | apply List.Sublist.cons)) | exact fun _ hw => (hw.perm (pull_perm 4 _ _ _ rfl)).sub (by repeat (first | exact List.Sublist.refl _ | exact List.nil_sublist _ | apply List.Sublist.cons_cons | apply List.Sublist.cons))))
            | ((with_reducible apply (LR_index_old (i))); exact rfl; exact rfl; exact rfl; exact rfl; exact hs; omega; exact hy; exact rfl; intro _ _)
            | ((with_reducible apply (LR_index_old (k))); exact rfl; exact rfl; exact rfl; exact rfl; exact hs; omega; exact hx; exact rfl; intro _ _)
            | ((with_reducible apply (LS_callx (f := 67))); exact rfl; exact rfl; exact rfl; exact fun w hw => conflict_y (hxg.mono hw) (hyg.mono hw) hxv hyv hC; rintro ⟨q1, q2, q3, q4⟩ _; dsimp only [ptV] at *)
            | ((with_reducible apply RR_end))
            | ((with_reducible apply LR_pure); exact rfl; exact rfl; exact rfl)
            | ((with_reducible apply LR_load_old_agg); exact rfl; exact rfl; exact rfl; assumption; exact rfl)
            | ((with_reducible apply LS_alloc); exact rfl; exact rfl; exact rfl; intro _)
            | ((with_reducible apply LS_store_agg 0); exact rfl; exact rfl; exact rfl; exact rfl; exact rfl; exact rfl; exact rfl; exact rfl)
            | ((with_reducible apply LS_store_agg 2); exact rfl; exact rfl; exact rfl; exact rfl; exact rfl; exact rfl; exact rfl; exact rfl)
          all_goals exact post_cut () trivial ⟨rfl, rfl, rfl, rfl, trivial⟩ (fun _ hw => hw.nil)
        · rintro _ _
          repeat' first
            | ((with_reducible apply CS_seq))
            | ((with_reducible apply CS_region))
            | ((with_reducible apply RR_end))
            | ((with_reducible apply LR_pure); exact rfl; exact rfl; exact rfl)
            | ((with_reducible apply post_seq))
            | ((with_reducible apply post_then_ret))
            | ((with_reducible apply post_block_ret))
            | ((with_reducible apply CS_ret))
            | ((with_reducible apply CS_cond_t); exact rfl)
          all_goals first | (exfalso; contradiction) | (exfalso; omega) | (exfalso; simp at hb <;> omega) | skip
          apply ret_bool; exact rfl; exact rfl; exact hbf
      · skip
        repeat' first
          | ((with_reducible apply CS_seq))
          | ((with_reducible apply CS_block))
          | ((with_reducible apply CS_region))
          | ((with_reducible apply RR_end))
          | ((with_reducible apply LR_pure); exact rfl; exact rfl; exact rfl)
          | ((with_reducible apply post_seq))
          | ((with_reducible apply CS_skip))
          | ((with_reducible apply CS_cond_d); exact rfl; all_goals intro hb; all_goals try (exfalso; omega))
        all_goals first | (exfalso; contradiction) | (exfalso; omega) | (exfalso; simp at hb <;> omega) | skip
        refine CS_regionHi (id := 7) 15 [] (fun _ : Unit => [(0, v), (3, .int .i64 (i : Int)), (4, .int .i64 (k : Int)), (6, .bool false)]) (fun _ => Wd w []) (fun _ => True) (by kernel_rfl) rfl (by rfl) ?_ ?_
        · skip
          repeat' first
            | ((with_reducible apply (RH_take 0)); exact rfl; kernel_rfl; decide +kernel; decide +kernel; (first | exact fun _ hw => hw | exact fun _ hw => hw.sub (by repeat (first | exact List.Sublist.refl _ | exact List.nil_sublist _ | apply List.Sublist.cons_cons | apply List.Sublist.cons)) | exact fun _ hw => (hw.perm (pull_perm 1 _ _ _ rfl)).sub (by repeat (first | exact List.Sublist.refl _ | exact List.nil_sublist _ | apply List.Sublist.cons_cons | apply List.Sublist.cons)) | exact fun _ hw => (hw.perm (pull_perm 2 _ _ _ rfl)).sub (by repeat (first | exact List.Sublist.refl _ | exact List.nil_sublist _ | apply List.Sublist.cons_cons | apply List.Sublist.cons)) | exact fun _ hw => (hw.perm (pull_perm 3 _ _ _ rfl)).sub (by repeat (first | exact List.Sublist.refl _ | exact List.nil_sublist _ | apply List.Sublist.cons_cons | apply List.Sublist.cons)) | exact fun _ hw => (hw.perm (pull_perm 4 _ _ _ rfl)).sub (by repeat (first | exact List.Sublist.refl _ | exact List.nil_sublist _ | apply List.Sublist.cons_cons | apply List.Sublist.cons))))
            | ((with_reducible apply (RH_take 1)); exact rfl; kernel_rfl; decide +kernel; decide +kernel; (first | exact fun _ hw => hw | exact fun _ hw => hw.sub (by repeat (first | exact List.Sublist.refl _ | exact List.nil_sublist _ | apply List.Sublist.cons_cons | apply List.Sublist.cons)) | exact fun _ hw => (hw.perm (pull_perm 1 _ _ _ rfl)).sub (by repeat (first | exact List.Sublist.refl _ | exact List.nil_sublist _ | apply List.Sublist.cons_cons | apply List.Sublist.cons)) | exact fun _ hw => (hw.perm (pull_perm 2 _ _ _ rfl)).sub (by repeat (first | exact List.Sublist.refl _ | exact List.nil_sublist _ | apply List.Sublist.cons_cons | apply List.Sublist.cons)) | exact fun _ hw => (hw.perm (pull_perm 3 _ _ _ rfl)).sub (by repeat (first | exact List.Sublist.refl _ | exact List.nil_sublist _ | apply List.Sublist.cons_cons | apply List.Sublist.cons)) | exact fun _ hw => (hw.perm (pull_perm 4 _ _ _ rfl)).sub (by repeat (first | exact List.Sublist.refl _ | exact List.nil_sublist _ | apply List.Sublist.cons_cons | apply List.Sublist.cons))))
            | ((with_reducible apply (RH_take 2)); exact rfl; kernel_rfl; decide +kernel; decide +kernel; (first | exact fun _ hw => hw | exact fun _ hw => hw.sub (by repeat (first | exact List.Sublist.refl _ | exact List.nil_sublist _ | apply List.Sublist.cons_cons | apply List.Sublist.cons)) | exact fun _ hw => (hw.perm (pull_perm 1 _ _ _ rfl)).sub (by repeat (first | exact List.Sublist.refl _ | exact List.nil_sublist _ | apply List.Sublist.cons_cons | apply List.Sublist.cons)) | exact fun _ hw => (hw.perm (pull_perm 2 _ _ _ rfl)).sub (by repeat (first | exact List.Sublist.refl _ | exact List.nil_sublist _ | apply List.Sublist.cons_cons | apply List.Sublist.cons)) | exact fun _ hw => (hw.perm (pull_perm 3 _ _ _ rfl)).sub (by repeat (first | exact List.Sublist.refl _ | exact List.nil_sublist _ | apply List.Sublist.cons_cons | apply List.Sublist.cons)) | exact fun _ hw => (hw.perm (pull_perm 4 _ _ _ rfl)).sub (by repeat (first | exact List.Sublist.refl _ | exact List.nil_sublist _ | apply List.Sublist.cons_cons | apply List.Sublist.cons))))
            | ((with_reducible apply (RH_take 3)); exact rfl; kernel_rfl; decide +kernel; decide +kernel; (first | exact fun _ hw => hw | exact fun _ hw => hw.sub (by repeat (first | exact List.Sublist.refl _ | exact List.nil_sublist _ | apply List.Sublist.cons_cons | apply List.Sublist.cons)) | exact fun _ hw => (hw.perm (pull_perm 1 _ _ _ rfl)).sub (by repeat (first | exact List.Sublist.refl _ | exact List.nil_sublist _ | apply List.Sublist.cons_cons | apply List.Sublist.cons)) | exact fun _ hw => (hw.perm (pull_perm 2 _ _ _ rfl)).sub (by repeat (first | exact List.Sublist.refl _ | exact List.nil_sublist _ | apply List.Sublist.cons_cons | apply List.Sublist.cons)) | exact fun _ hw => (hw.perm (pull_perm 3 _ _ _ rfl)).sub (by repeat (first | exact List.Sublist.refl _ | exact List.nil_sublist _ | apply List.Sublist.cons_cons | apply List.Sublist.cons)) | exact fun _ hw => (hw.perm (pull_perm 4 _ _ _ rfl)).sub (by repeat (first | exact List.Sublist.refl _ | exact List.nil_sublist _ | apply List.Sublist.cons_cons | apply List.Sublist.cons))))
            | ((with_reducible apply (RH_take 4)); exact rfl; kernel_rfl; decide +kernel; decide +kernel; (first | exact fun _ hw => hw | exact fun _ hw => hw.sub (by repeat (first | exact List.Sublist.refl _ | exact List.nil_sublist _ | apply List.Sublist.cons_cons | apply List.Sublist.cons)) | exact fun _ hw => (hw.perm (pull_perm 1 _ _ _ rfl)).sub (by repeat (first | exact List.Sublist.refl _ | exact List.nil_sublist _ | apply List.Sublist.cons_cons | apply List.Sublist.cons)) | exact fun _ hw => (hw.perm (pull_perm 2 _ _ _ rfl)).sub (by repeat (first | exact List.Sublist.refl _ | exact List.nil_sublist _ | apply List.Sublist.cons_cons | apply List.Sublist.cons)) | exact fun _ hw => (hw.perm (pull_perm 3 _ _ _ rfl)).sub (by repeat (first | exact List.Sublist.refl _ | exact List.nil_sublist _ | apply List.Sublist.cons_cons | apply List.Sublist.cons)) | exact fun _ hw => (hw.perm (pull_perm 4 _ _ _ rfl)).sub (by repeat (first | exact List.Sublist.refl _ | exact List.nil_sublist _ | apply List.Sublist.cons_cons | apply List.Sublist.cons))))
            | ((with_reducible apply (RH_take 5)); exact rfl; kernel_rfl; decide +kernel; decide +kernel; (first | exact fun _ hw => hw | exact fun _ hw => hw.sub (by repeat (first | exact List.Sublist.refl _ | exact List.nil_sublist _ | apply List.Sublist.cons_cons | apply List.Sublist.cons)) | exact fun _ hw => (hw.perm (pull_perm 1 _ _ _ rfl)).sub (by repeat (first | exact List.Sublist.refl _ | exact List.nil_sublist _ | apply List.Sublist.cons_cons | apply List.Sublist.cons)) | exact fun _ hw => (hw.perm (pull_perm 2 _ _ _ rfl)).sub (by repeat (first | exact List.Sublist.refl _ | exact List.nil_sublist _ | apply List.Sublist.cons_cons | apply List.Sublist.cons)) | exact fun _ hw => (hw.perm (pull_perm 3 _ _ _ rfl)).sub (by repeat (first | exact List.Sublist.refl _ | exact List.nil_sublist _ | apply List.Sublist.cons_cons | apply List.Sublist.cons)) | exact fun _ hw => (hw.perm (pull_perm 4 _ _ _ rfl)).sub (by repeat (first | exact List.Sublist.refl _ | exact List.nil_sublist _ | apply List.Sublist.cons_cons | apply List.Sublist.cons))))
            | ((with_reducible apply (RH_take 6)); exact rfl; kernel_rfl; decide +kernel; decide +kernel; (first | exact fun _ hw => hw | exact fun _ hw => hw.sub (by repeat (first | exact List.Sublist.refl _ | exact List.nil_sublist _ | apply List.Sublist.cons_cons | apply List.Sublist.cons)) | exact fun _ hw => (hw.perm (pull_perm 1 _ _ _ rfl)).sub (by repeat (first | exact List.Sublist.refl _ | exact List.nil_sublist _ | apply List.Sublist.cons_cons | apply List.Sublist.cons)) | exact fun _ hw => (hw.perm (pull_perm 2 _ _ _ rfl)).sub (by repeat (first | exact List.Sublist.refl _ | exact List.nil_sublist _ | apply List.Sublist.cons_cons | apply List.Sublist.cons)) | exact fun _ hw => (hw.perm (pull_perm 3 _ _ _ rfl)).sub (by repeat (first | exact List.Sublist.refl _ | exact List.nil_sublist _ | apply List.Sublist.cons_cons | apply List.Sublist.cons)) | exact fun _ hw => (hw.perm (pull_perm 4 _ _ _ rfl)).sub (by repeat (first | exact List.Sublist.refl _ | exact List.nil_sublist _ | apply List.Sublist.cons_cons | apply List.Sublist.cons))))
            | ((with_reducible apply (RH_take 7)); exact rfl; kernel_rfl; decide +kernel; decide +kernel; (first | exact fun _ hw => hw | exact fun _ hw => hw.sub (by repeat (first | exact List.Sublist.refl _ | exact List.nil_sublist _ | apply List.Sublist.cons_cons | apply List.Sublist.cons)) | exact fun _ hw => (hw.perm (pull_perm 1 _ _ _ rfl)).sub (by repeat (first | exact List.Sublist.refl _ | exact List.nil_sublist _ | apply List.Sublist.cons_cons | apply List.Sublist.cons)) | exact fun _ hw => (hw.perm (pull_perm 2 _ _ _ rfl)).sub (by repeat (first | exact List.Sublist.refl _ | exact List.nil_sublist _ | apply List.Sublist.cons_cons | apply List.Sublist.cons)) | exact fun _ hw => (hw.perm (pull_perm 3 _ _ _ rfl)).sub (by repeat (first | exact List.Sublist.refl _ | exact List.nil_sublist _ | apply List.Sublist.cons_cons | apply List.Sublist.cons)) | exact fun _ hw => (hw.perm (pull_perm 4 _ _ _ rfl)).sub (by repeat (first | exact List.Sublist.refl _ | exact List.nil_sublist _ | apply List.Sublist.cons_cons | apply List.Sublist.cons))))
            | ((with_reducible apply (RH_take 9)); exact rfl; kernel_rfl; decide +kernel; decide +kernel; (first | exact fun _ hw => hw | exact fun _ hw => hw.sub (by repeat (first | exact List.Sublist.refl _ | exact List.nil_sublist _ | apply List.Sublist.cons_cons | apply List.Sublist.cons)) | exact fun _ hw => (hw.perm (pull_perm 1 _ _ _ rfl)).sub (by repeat (first | exact List.Sublist.refl _ | exact List.nil_sublist _ | apply List.Sublist.cons_cons | apply List.Sublist.cons)) | exact fun _ hw => (hw.perm (pull_perm 2 _ _ _ rfl)).sub (by repeat (first | exact List.Sublist.refl _ | exact List.nil_sublist _ | apply List.Sublist.cons_cons | apply List.Sublist.cons)) | exact fun _ hw => (hw.perm (pull_perm 3 _ _ _ rfl)).sub (by repeat (first | exact List.Sublist.refl _ | exact List.nil_sublist _ | apply List.Sublist.cons_cons | apply List.Sublist.cons)) | exact fun _ hw => (hw.perm (pull_perm 4 _ _ _ rfl)).sub (by repeat (first | exact List.Sublist.refl _ | exact List.nil_sublist _ | apply List.Sublist.cons_cons | apply List.Sublist.cons))))
            | ((with_reducible apply (RH_take 10)); exact rfl; kernel_rfl; decide +kernel; decide +kernel; (first | exact fun _ hw => hw | exact fun _ hw => hw.sub (by repeat (first | exact List.Sublist.refl _ | exact List.nil_sublist _ | apply List.Sublist.cons_cons | apply List.Sublist.cons)) | exact fun _ hw => (hw.perm (pull_perm 1 _ _ _ rfl)).sub (by repeat (first | exact List.Sublist.refl _ | exact List.nil_sublist _ | apply List.Sublist.cons_cons | apply List.Sublist.cons)) | exact fun _ hw => (hw.perm (pull_perm 2 _ _ _ rfl)).sub (by repeat (first | exact List.Sublist.refl _ | exact List.nil_sublist _ | apply List.Sublist.cons_cons | apply List.Sublist.cons)) | exact fun _ hw => (hw.perm (pull_perm 3 _ _ _ rfl)).sub (by repeat (first | exact List.Sublist.refl _ | exact List.nil_sublist _ | apply List.Sublist.cons_cons | apply List.Sublist.cons)) | exact fun _ hw => (hw.perm (pull_perm 4 _ _ _ rfl)).sub (by repeat (first | exact List.Sublist.refl _ | exact List.nil_sublist _ | apply List.Sublist.cons_cons | apply List.Sublist.cons))))
            | ((with_reducible apply (RH_take 11)); exact rfl; kernel_rfl; decide +kernel; decide +kernel; (first | exact fun _ hw => hw | exact fun _ hw => hw.sub (by repeat (first | exact List.Sublist.refl _ | exact List.nil_sublist _ | apply List.Sublist.cons_cons | apply List.Sublist.cons)) | exact fun _ hw => (hw.perm (pull_perm 1 _ _ _ rfl)).sub (by repeat (first | exact List.Sublist.refl _ | exact List.nil_sublist _ | apply List.Sublist.cons_cons | apply List.Sublist.cons)) | exact fun _ hw => (hw.perm (pull_perm 2 _ _ _ rfl)).sub (by repeat (first | exact List.Sublist.refl _ | exact List.nil_sublist _ | apply List.Sublist.cons_cons | apply List.Sublist.cons)) | exact fun _ hw => (hw.perm (pull_perm 3 _ _ _ rfl)).sub (by repeat (first | exact List.Sublist.refl _ | exact List.nil_sublist _ | apply List.Sublist.cons_cons | apply List.Sublist.cons)) | exact fun _ hw => (hw.perm (pull_perm 4 _ _ _ rfl)).sub (by repeat (first | exact List.Sublist.refl _ | exact List.nil_sublist _ | apply List.Sublist.cons_cons | apply List.Sublist.cons))))
            | ((with_reducible apply (RH_take 14)); exact rfl; kernel_rfl; decide +kernel; decide +kernel; (first | exact fun _ hw => hw | exact fun _ hw => hw.sub (by repeat (first | exact List.Sublist.refl _ | exact List.nil_sublist _ | apply List.Sublist.cons_cons | apply List.Sublist.cons)) | exact fun _ hw => (hw.perm (pull_perm 1 _ _ _ rfl)).sub (by repeat (first | exact List.Sublist.refl _ | exact List.nil_sublist _ | apply List.Sublist.cons_cons | apply List.Sublist.cons)) | exact fun _ hw => (hw.perm (pull_perm 2 _ _ _ rfl)).sub (by repeat (first | exact List.Sublist.refl _ | exact List.nil_sublist _ | apply List.Sublist.cons_cons | apply List.Sublist.cons)) | exact fun _ hw => (hw.perm (pull_perm 3 _ _ _ rfl)).sub (by repeat (first | exact List.Sublist.refl _ | exact List.nil_sublist _ | apply List.Sublist.cons_cons | apply List.Sublist.cons)) | exact fun _ hw => (hw.perm (pull_perm 4 _ _ _ rfl)).sub (by repeat (first | exact List.Sublist.refl _ | exact List.nil_sublist _ | apply List.Sublist.cons_cons | apply List.Sublist.cons))))
            | ((with_reducible apply (RH_step 8)); decide +kernel; exact rfl)
            | ((with_reducible apply (RH_step 12)); decide +kernel; exact rfl)
            | ((with_reducible apply (RH_step 13)); decide +kernel; exact rfl)
            | ((with_reducible apply (RH_step2 8 12)); decide +kernel; exact rfl; exact rfl)
            | ((with_reducible apply RH_done); decide +kernel)
            | ((with_reducible apply post_take))
            | ((with_reducible apply post_step); (first | exact fun _ hw => hw | exact fun _ hw => hw.sub (by repeat (first | exact List.Sublist.refl _ | exact List.nil_sublist _ | apply List.Sublist.cons_cons | apply List.Sublist.cons)) | exact fun _ hw => (hw.perm (pull_perm 1 _ _ _ rfl)).sub (by repeat (first | exact List.Sublist.refl _ | exact List.nil_sublist _ | apply List.Sublist.cons_cons | apply List.Sublist.cons)) | exact fun _ hw => (hw.perm (pull_perm 2 _ _ _ rfl)).sub (by repeat (first | exact List.Sublist.refl _ | exact List.nil_sublist _ | apply List.Sublist.cons_cons | apply List.Sublist.cons)) | exact fun _ hw => (hw.perm (pull_perm 3 _ _ _ rfl)).sub (by repeat (first | exact List.Sublist.refl _ | exact List.nil_sublist _ | apply List.Sublist.cons_cons | apply List.Sublist.cons)) | exact fun _ hw => (hw.perm (pull_perm 4 _ _ _ rfl)).sub (by repeat (first | exact List.Sublist.refl _ | exact List.nil_sublist _ | apply List.Sublist.cons_cons | apply List.Sublist.cons))))
            | ((with_reducible apply (LR_index_old (i))); exact rfl; exact rfl; exact rfl; exact rfl; exact hs; omega; exact hy; exact rfl; intro _ _)
            | ((with_reducible apply (LR_index_old (k))); exact rfl; exact rfl; exact rfl; exact rfl; exact hs; omega; exact hx; exact rfl; intro _ _)
            | ((with_reducible apply (LR_call (f := 67))); exact rfl; exact rfl; exact rfl; exact fun w hw => conflict_n (hxg.mono hw) (hyg.mono hw) hxv hyv hC)
            | ((with_reducible apply RR_end))
            | ((with_reducible apply LR_pure); exact rfl; exact rfl; exact rfl)
            | ((with_reducible apply LR_load_old_agg); exact rfl; exact rfl; exact rfl; assumption; exact rfl)
            | ((with_reducible apply LS_alloc); exact rfl; exact rfl; exact rfl; intro _)
            | ((with_reducible apply LS_store_agg 0); exact rfl; exact rfl; exact rfl; exact rfl; exact rfl; exact rfl; exact rfl; exact rfl)
          all_goals exact post_cut () trivial ⟨rfl, rfl, rfl, rfl, trivial⟩ (fun _ hw => hw.nil)
        · rintro _ _
          repeat' first
            | ((with_reducible apply CS_seq))
            | ((with_reducible apply CS_region))
            | ((with_reducible apply RR_end))
            | ((with_reducible apply LR_pure); exact rfl; exact rfl; exact rfl)
            | ((with_reducible apply LR_add); exact rfl; exact rfl; exact rfl; exact rfl; omega; omega)
            | ((with_reducible apply post_seq))
            | ((with_reducible apply post_block_n))
            | ((with_reducible apply CS_skip))
            | ((with_reducible apply CS_cond_f); exact rfl)
          all_goals first | (exfalso; contradiction) | (exfalso; omega) | (exfalso; simp at hb <;> omega) | skip
          exact post_round (i := k) (k + 1) ⟨by omega, fun k' h' z hz => by
            by_cases he : k' = k
            · subst he; rw [hx] at hz; cases hz; exact hC
            · exact k2 k' (by omega) z hz⟩ (by omega) ⟨rfl, rfl, rfl, trivial⟩ (fun _ hw => hw.nil)
    · skip
      repeat' first
        | ((with_reducible apply CS_seq))
        | ((with_reducible apply CS_region))
        | ((with_reducible apply RR_end))
        | ((with_reducible apply LR_pure); exact rfl; exact rfl; exact rfl)
        | ((with_reducible apply LR_add); exact rfl; exact rfl; exact rfl; exact rfl; omega; omega)
        | ((with_reducible apply post_seq))
        | ((with_reducible apply post_then_exit))
        | ((with_reducible apply post_block_n))
        | ((with_reducible apply post_block_eq))
        | ((with_reducible apply CS_exit))
        | ((with_reducible apply CS_cond_d); exact rfl; all_goals intro hb; all_goals try (exfalso; omega))
      all_goals first | (exfalso; contradiction) | (exfalso; omega) | (exfalso; simp at hb <;> omega) | skip
      exact post_round (i := i) (i + 1) ⟨by omega, fun i' h' k' hk' x' y' hx' hy' => by
        by_cases he : i' = i
        · subst he; rw [hy] at hy'; cases hy'
          exact k2 k' (by omega) x' hx'
        · exact i2 i' (by omega) k' hk' x' y' hx' hy'⟩ (by omega) ⟨rfl, rfl, trivial⟩ (fun _ hw => hw.nil)
  · have hbt := btrue hB (fun i' j' x y hij hx hy => i2 j' (by have := (List.getElem?_eq_some_iff.1 hy).1; omega) i' hij x y hx hy)
    repeat' first
      | ((with_reducible apply LR_len_sl); exact rfl; exact rfl; exact rfl; exact hs)
      | ((with_reducible apply CS_seq))
      | ((with_reducible apply CS_region))
      | ((with_reducible apply RR_end))
      | ((with_reducible apply LR_pure); exact rfl; exact rfl; exact rfl)
      | ((with_reducible apply post_seq))
      | ((with_reducible apply post_then_exit))
      | ((with_reducible apply post_block_eq))
      | ((with_reducible apply CS_ret))
      | ((with_reducible apply CS_exit))
      | ((with_reducible apply CS_cond_d); exact rfl; all_goals intro hb; all_goals try (exfalso; omega))
    all_goals first | (exfalso; contradiction) | (exfalso; omega) | (exfalso; simp at hb <;> omega) | skip
    apply ret_bool; exact rfl; exact rfl; exact hbt
/-- pairs in blocks of their own -/
structure PgG where
  g : Nat
  c : Nat
  ps : List Pp
set_option maxHeartbeats 4000000 in
theorem sAllConflicts_ok (v : Value) (l : List Ru) (w : World) (hs : Sl w v l) (hg : ROks w l) (hV : VRs l) : Calls Try.prog 34 #[v] w
    (fun x w' => ∃ i : PgG, (IsPairs l (i.ps.map pPr) ∧ i.ps.length ≤ 1000000 ∧ i.ps.length ≤ i.c ∧ i.c ≤ maxLen ∧ PpOk i.ps) ∧ x = .returned (.slice (some ⟨i.g, 0, none⟩) i.ps.length i.c) ∧ Wd w (ppE i.g i.c i.ps :: pEs i.ps) w') := by
  have hml : maxLen = 9223372036854775807 := rfl
  have hVb : VRs l ↔ true = true := by simp [hV]
  refine enter (vs := [v]) Try.func34 rfl Try.ntmps34 rfl ?_
  repeat' first
    | ((with_reducible apply (LR_call (f := 42))); exact rfl; exact rfl; exact rfl; exact fun w hw => svalidRules_ok v l w _ (hs.mono hw) (fun r hr => (hg r hr).mono hw) hVb)
    | ((with_reducible apply CS_seq))
    | ((with_reducible apply CS_block))
    | ((with_reducible apply CS_region))
    | ((with_reducible apply RR_end))
    | ((with_reducible apply LR_pure); exact rfl; exact rfl; exact rfl)
    | ((with_reducible apply LS_buildSlice); exact rfl; exact rfl; exact rfl; exact rfl; exact rfl; exact rfl; exact rfl; intro _)
    | ((with_reducible apply post_seq))
    | ((with_reducible apply CS_skip))
    | ((with_reducible apply CS_cond_f); exact rfl)
  all_goals first | (exfalso; contradiction) | (exfalso; omega) | (exfalso; simp at hb <;> omega) | skip
  rename_i g0
  refine CS_loop (ι := Int × PgG) (fun i => [(0, v), (3, .slice (some ⟨i.2.g, 0, none⟩) i.2.ps.length i.2.c), (4, .int .i64 i.1)]) (fun i => Wd w (ppE i.2.g i.2.c i.2.ps :: pEs i.2.ps)) (fun i => 1 ≤ i.1 ∧ i.1 ≤ 100 ∧ i.2.ps.length ≤ 200 * i.1 ∧ i.2.ps.length ≤ i.2.c ∧ i.2.c ≤ maxLen ∧ PpOk i.2.ps ∧ Gath l (i.2.ps.map pPr) i.1 (i.1 + 1)) (fun i => (100 - i.1).toNat) (1, ⟨g0, 0, []⟩) ⟨by dsimp only; omega, by dsimp only; omega, by simp, by simp, by simp, PpOk.nil, gath_start hV⟩ ⟨rfl, rfl, rfl, trivial⟩ (fun _ hw => hw) ?_
  rintro ⟨a, g1, c1, ps⟩ ⟨a1, a2, a3, a4, a5, a6, a7⟩
  dsimp only at a1 a2 a3 a4 a5 a6 a7 ⊢
  by_cases ha : a ≤ 99
  · skip
    repeat' first
      | ((with_reducible apply CS_seq))
      | ((with_reducible apply CS_block))
      | ((with_reducible apply CS_region))
      | ((with_reducible apply RR_end))
      | ((with_reducible apply LR_pure); exact rfl; exact rfl; exact rfl)
      | ((with_reducible apply LR_add); exact rfl; exact rfl; exact rfl; exact rfl; omega; omega)
      | ((with_reducible apply post_seq))
      | ((with_reducible apply CS_skip))
      | ((with_reducible apply CS_cond_d); exact rfl; all_goals intro hb; all_goals try (exfalso; omega))
    all_goals first | (exfalso; contradiction) | (exfalso; omega) | (exfalso; simp at hb <;> omega) | skip
    refine CS_loop (ι := Int × PgG) (fun i => [(0, v), (3, .slice (some ⟨i.2.g, 0, none⟩) i.2.ps.length i.2.c), (4, .int .i64 a), (5, .int .i64 i.1)]) (fun i => Wd w (ppE i.2.g i.2.c i.2.ps :: pEs i.2.ps)) (fun i => a + 1 ≤ i.1 ∧ i.1 ≤ 100 ∧ i.2.ps.length ≤ 200 * a + i.1 ∧ i.2.ps.length ≤ i.2.c ∧ i.2.c ≤ maxLen ∧ PpOk i.2.ps ∧ Gath l (i.2.ps.map pPr) a i.1) (fun i => (100 - i.1).toNat) (a + 1, ⟨g1, c1, ps⟩) ⟨by dsimp only; omega, by dsimp only; omega, by dsimp only; omega, a4, a5, a6, a7⟩ ⟨rfl, rfl, rfl, rfl, trivial⟩ (fun _ hw => hw) ?_
    clear a3 a4 a5 a6 a7
    rintro ⟨b, g2, c2, ps⟩ ⟨b1, b2, b3, b4, b5, b6, b7⟩
    dsimp only at b1 b2 b3 b4 b5 b6 b7 ⊢
    by_cases hb9 : b ≤ 99
    · by_cases hP : PrE l a b
      · have hPt : PrE l a b ↔ true = true := by simp [hP]
        have hst := gath_yes b7 ((Pr2_iff l a b).2 ⟨by omega, hP⟩)
        repeat' first
          | ((with_reducible apply (LR_call (f := 55))); exact rfl; exact rfl; exact rfl; exact fun w hw => pairAt_ok v l a b w true (hs.mono hw) (fun r hr => (hg r hr).mono hw) hV hPt)
          | ((with_reducible apply (LS_append_one 2 0 ps ⟨_, 2, a, b⟩)); exact rfl; exact rfl; exact rfl; exact rfl; exact rfl; exact rfl; exact rfl; exact rfl; exact rfl; exact rfl; exact rfl; omega; omega; omega; intro g4 c4 e1 e2)
          | ((with_reducible apply CS_seq))
          | ((with_reducible apply CS_block))
          | ((with_reducible apply CS_region))
          | ((with_reducible apply RR_end))
          | ((with_reducible apply LR_pure); exact rfl; exact rfl; exact rfl)
          | ((with_reducible apply LR_add); exact rfl; exact rfl; exact rfl; exact rfl; omega; omega)
          | ((with_reducible apply LS_buildSlice); exact rfl; exact rfl; exact rfl; exact rfl; exact rfl; exact rfl; exact rfl; intro _)
          | ((with_reducible apply post_seq))
          | ((with_reducible apply post_block_n))
          | ((with_reducible apply CS_skip))
          | ((with_reducible apply CS_cond_t); exact rfl)
          | ((with_reducible apply CS_cond_d); exact rfl; all_goals intro hb; all_goals try (exfalso; omega))
        all_goals first | (exfalso; contradiction) | (exfalso; omega) | (exfalso; simp at hb <;> omega) | skip
        rename_i gp _
        exact post_round (i := (b, ⟨g2, c2, ps⟩)) (b + 1, ⟨g4, c4, ps ++ [⟨gp, 2, a, b⟩]⟩) ⟨by dsimp only; omega, by dsimp only; omega, by simp only [List.length_append, List.length_singleton]; omega, by simpa using e1, e2, b6.snoc (by dsimp only; omega) (by dsimp only; omega), by dsimp only; rw [map_snoc]; exact hst⟩ (by dsimp only; omega) ⟨rfl, by dsimp only; rw [List.length_append]; rfl, rfl, rfl, trivial⟩ (fun _ hw => by dsimp only; rw [pEs_snoc]; exact (hw.reord [0, 1] rfl).sub (by repeat (first | exact List.Sublist.refl _ | exact List.nil_sublist _ | apply List.Sublist.cons_cons | apply List.Sublist.cons)))
      · have hPf : PrE l a b ↔ false = true := by simp [hP]
        have hst := gath_no b7 (fun h => hP ((Pr2_iff l a b).1 h).2)
        repeat' first
          | ((with_reducible apply (LR_call (f := 55))); exact rfl; exact rfl; exact rfl; exact fun w hw => pairAt_ok v l a b w false (hs.mono hw) (fun r hr => (hg r hr).mono hw) hV hPf)
          | ((with_reducible apply CS_seq))
          | ((with_reducible apply CS_block))
          | ((with_reducible apply CS_region))
          | ((with_reducible apply RR_end))
          | ((with_reducible apply LR_pure); exact rfl; exact rfl; exact rfl)
          | ((with_reducible apply LR_add); exact rfl; exact rfl; exact rfl; exact rfl; omega; omega)
          | ((with_reducible apply post_seq))
          | ((with_reducible apply post_block_n))
          | ((with_reducible apply CS_skip))
          | ((with_reducible apply CS_cond_f); exact rfl)
          | ((with_reducible apply CS_cond_d); exact rfl; all_goals intro hb; all_goals try (exfalso; omega))
        all_goals first | (exfalso; contradiction) | (exfalso; omega) | (exfalso; simp at hb <;> omega) | skip
        exact post_round (i := (b, ⟨g2, c2, ps⟩)) (b + 1, ⟨g2, c2, ps⟩) ⟨by dsimp only; omega, by dsimp only; omega, by dsimp only; omega, b4, b5, b6, hst⟩ (by dsimp only; omega) ⟨rfl, rfl, rfl, rfl, trivial⟩ (fun _ hw => hw)
    · have hb100 : b = 100 := by omega
      subst hb100
      have hst := gath_next hV b7
      repeat' first
        | ((with_reducible apply CS_seq))
        | ((with_reducible apply CS_region))
        | ((with_reducible apply RR_end))
        | ((with_reducible apply LR_pure); exact rfl; exact rfl; exact rfl)
        | ((with_reducible apply LR_add); exact rfl; exact rfl; exact rfl; exact rfl; omega; omega)
        | ((with_reducible apply post_seq))
        | ((with_reducible apply post_then_exit))
        | ((with_reducible apply post_block_n))
        | ((with_reducible apply post_block_eq))
        | ((with_reducible apply CS_exit))
        | ((with_reducible apply CS_cond_f); exact rfl)
      all_goals first | (exfalso; contradiction) | (exfalso; omega) | (exfalso; simp at hb <;> omega) | skip
      exact post_round (i := (a, (⟨g1, c1, ps⟩ : PgG))) (a + 1, ⟨g2, c2, ps⟩) ⟨by dsimp only; omega, by dsimp only; omega, by dsimp only; omega, b4, b5, b6, hst⟩ (by dsimp only; omega) ⟨rfl, rfl, rfl, trivial⟩ (fun _ hw => hw)
  · have ha100 : a = 100 := by omega
    subst ha100
    have hst := gath_end hV a7
    repeat' first
      | ((with_reducible apply CS_seq))
      | ((with_reducible apply CS_region))
      | ((with_reducible apply RR_end))
      | ((with_reducible apply LR_pure); exact rfl; exact rfl; exact rfl)
      | ((with_reducible apply post_seq))
      | ((with_reducible apply post_then_exit))
      | ((with_reducible apply post_block_eq))
      | ((with_reducible apply CS_ret))
      | ((with_reducible apply CS_exit))
      | ((with_reducible apply CS_cond_f); exact rfl)
    all_goals first | (exfalso; contradiction) | (exfalso; omega) | (exfalso; simp at hb <;> omega) | skip
    apply post_ret1; exact rfl; exact rfl; intro w' hw'; exact ⟨⟨g1, c1, ps⟩, ⟨hst, by dsimp only; omega, a4, a5, a6⟩, rfl, hw'⟩
theorem sAllConflicts_no (v : Value) (l : List Ru) (w : World) (hs : Sl w v l) (hg : ROks w l) (hV : ¬ VRs l) : Calls Try.prog 34 #[v] w (Gives (.slice none 0 0) w) := by
  have hB : VRs l ↔ false = true := by simp [hV]
  refine enter (vs := [v]) Try.func34 rfl Try.ntmps34 rfl ?_
  repeat' first
    | ((with_reducible apply (LR_call (f := 42))); exact rfl; exact rfl; exact rfl; exact fun w hw => svalidRules_ok v l w _ (hs.mono hw) (fun r hr => (hg r hr).mono hw) hB)
    | ((with_reducible apply CS_seq))
    | ((with_reducible apply CS_region))
    | ((with_reducible apply RR_end))
    | ((with_reducible apply LR_pure); exact rfl; exact rfl; exact rfl)
    | ((with_reducible apply LS_buildSlice); exact rfl; exact rfl; exact rfl; exact rfl; exact rfl; exact rfl; exact rfl; intro _)
    | ((with_reducible apply post_seq))
    | ((with_reducible apply post_then_ret))
    | ((with_reducible apply CS_ret))
    | ((with_reducible apply CS_cond_t); exact rfl)
  all_goals first | (exfalso; contradiction) | (exfalso; omega) | (exfalso; simp at hb <;> omega) | skip
  apply ret_val; exact rfl; exact rfl; rfl
end Go.Proofs.Ytpflkichnjfgkaa
