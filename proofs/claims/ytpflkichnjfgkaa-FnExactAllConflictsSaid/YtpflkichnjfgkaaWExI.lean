/- The walks of the exact laws on the order of rules and on clear lists. No condition beyond those that each theorem states. -/
import Derived.Test.YtpflkichnjfgkaaWExM
import Derived.Test.YtpflkichnjfgkaaWOr6
import Derived.Test.YtpflkichnjfgkaaWOr7
namespace Go.Proofs.Ytpflkichnjfgkaa
open Go.RowKit
attribute [local irreducible] Calls
theorem RR_weak {P : Program} {ops : Array Oper} {N : Nat} {e : Env} {C C' : World → Prop} {l : List Oper} {Q : Exit → Act → World → Prop} (hC : ∀ w, C w → C' w) (h : RR .sq P ops N e C' l Q) : RR .sq P ops N e C l Q := fun a w hf hc => h a w hf (hC w hc)
theorem Clear_iff_eq {l l' : List Ru} (h : EqL l l') : Clear l ↔ Clear l' := ⟨Clear_eq h, Clear_eq h.symm⟩
theorem FnExactIsClear_ok (v : Value) (l : List Ru) (w : World) (hs : Sl w v l) (hg : ROks w l) : Calls Try.prog 9 #[v] w (Gives (.bool true) w) := by
  obtain ⟨b, hB⟩ := bex (Clear l)
  have hml : maxLen = 9223372036854775807 := rfl
  refine enter (vs := [v]) Try.func9 rfl Try.ntmps9 rfl ?_
  repeat' first
    | ((with_reducible apply (LS_callx (f := 25))); exact rfl; exact rfl; exact rfl; exact fun w hw => szRuleS_ok v l _ w (hs.mono hw) (fun r hr => (hg r hr).mono hw) (by omega) (by omega); rintro n hn)
    | ((with_reducible apply CS_seq))
    | ((with_reducible apply CS_region))
    | ((with_reducible apply RR_end))
    | ((with_reducible apply LR_pure); exact rfl; exact rfl; exact rfl)
    | ((with_reducible apply post_seq))
    | ((with_reducible apply post_then_ret))
    | ((with_reducible apply CS_skip))
    | ((with_reducible apply CS_ret))
    | ((with_reducible apply CS_cond_d); exact rfl; all_goals intro hb; all_goals try (exfalso; omega))
  all_goals first | (exfalso; contradiction) | (exfalso; omega) | (exfalso; simp at hb <;> omega) | skip
  · apply ret_bool; exact rfl; exact rfl; rfl
  · have hl : l.length ≤ 1048576 := by omega
    have hl3 : ∀ r ∈ l, r.g.cs.length ≤ 1048576 := fun r hr => by
      rcases hn with h | h
      · omega
      · have := h.2.2.2 r hr; omega
    cases b
    all_goals
      repeat' first
        | ((have _t := w2); ((with_reducible apply (LS_callr (f := 26))); exact rfl; exact rfl; exact rfl; exact fun w hw => toRuleS_r v l w (((hs.mono k1).mono k2).mono hw) (fun r hr => (((hg r hr).mono k1).mono k2).mono hw) hl hl3; rintro ⟨v3, rs3⟩ w3 k3 ⟨z7, z8, z9⟩; dsimp only at z7 z8 z9 ⊢))
        | ((have _t := w1); ((with_reducible apply (LS_callr (f := 26))); exact rfl; exact rfl; exact rfl; exact fun w hw => toRuleS_r v l w ((hs.mono k1).mono hw) (fun r hr => ((hg r hr).mono k1).mono hw) hl hl3; rintro ⟨v2, rs2⟩ w2 k2 ⟨z4, z5, z6⟩; dsimp only at z4 z5 z6 ⊢))
        | ((with_reducible apply (LS_callr (f := 26))); exact rfl; exact rfl; exact rfl; exact fun w hw => toRuleS_r v l w (hs.mono hw) (fun r hr => (hg r hr).mono hw) hl hl3; rintro ⟨v1, rs1⟩ w1 k1 ⟨z1, z2, z3⟩; dsimp only at z1 z2 z3 ⊢)
        | ((with_reducible apply (LR_call (f := 23))); exact rfl; exact rfl; exact rfl; exact fun w hw => sIsClear_ok v1 rs1 w _ (z1.mono hw) (fun r hr => (z2 r hr).mono hw) ((Clear_iff_eq z3).symm.trans hB))
        | ((with_reducible apply (LR_call (f := 22))); exact rfl; exact rfl; exact rfl; exact fun w hw => iIsClear_ok v2 rs2 w _ (z4.mono hw) (fun r hr => (z5 r hr).mono hw) ((Clear_iff_eq z6).symm.trans hB))
        | ((with_reducible apply (LR_call (f := 27))); exact rfl; exact rfl; exact rfl; exact fun w hw => eqRuleS_ok v2 v3 rs2 rs3 w ((z4.mono k3).mono hw) (z7.mono hw) (fun r hr => ((z5 r hr).mono k3).mono hw) (fun r hr => (z8 r hr).mono hw) (z6.symm.trans z9))
        | ((with_reducible apply CS_seq))
        | ((with_reducible apply CS_region))
        | ((with_reducible apply RR_end))
        | ((with_reducible apply LR_pure); exact rfl; exact rfl; exact rfl)
        | ((with_reducible apply LR_neqb); exact rfl; exact rfl; exact rfl; exact rfl)
        | ((with_reducible apply post_seq))
        | ((with_reducible apply CS_skip))
        | ((with_reducible apply CS_ret))
        | ((with_reducible apply CS_cond_f); exact rfl)
      all_goals first | (exfalso; contradiction) | (exfalso; omega) | (exfalso; simp at hb <;> omega) | skip
      all_goals (apply ret_boolr ((k1.call k2).call k3); exact rfl; exact rfl; rfl)
theorem OrdX_eq {l rs : List Ru} {xs : List Int} (h : EqL l rs) (hx : OrdX rs xs) : OrdX l xs := by
  constructor
  · intro hV
    rw [hx.1 (VRs_eq h hV)]
    exact (srt_nums_eq h hV).symm
  · intro hV
    exact hx.2 (fun hV' => hV (VRs_eq h.symm hV'))
theorem OrdX_len {l : List Ru} {xs : List Int} (h : OrdX l xs) : xs.length ≤ l.length := by
  by_cases hV : VRs l
  · rw [h.1 hV, ordL_len]; exact Nat.le_refl _
  · rw [h.2 hV]; simp
theorem iRuleOrder_g (v : Value) (l rs : List Ru) (L : List Int) (w : World) (hs : Sl w v rs) (hg : ROks w rs) (he : EqL l rs) (hL : OrdX l L) : Calls Try.prog 16 #[v] w
    (fun x w' => ∃ i : Nat × Nat, (L.length ≤ i.2 ∧ i.2 ≤ maxLen) ∧ x = .returned (.slice (some ⟨i.1, 0, none⟩) L.length i.2) ∧ Wd w [intE i.1 i.2 L] w') := by
  by_cases hV : VRs rs
  · have e : L = ordL rs := by rw [hL.1 (VRs_eq he.symm hV)]; exact srt_nums_eq he (VRs_eq he.symm hV)
    subst e
    exact iRuleOrder_ok v rs w hs hg hV
  · have e : L = [] := hL.2 (fun h => hV (VRs_eq he h))
    subst e
    exact (iRuleOrder_no v rs w hs hg hV).mono fun x w' ⟨g, _, h1, h2⟩ => ⟨(g, 0), ⟨Nat.le_refl _, by simp [maxLen]⟩, h1, h2⟩
set_option maxHeartbeats 8000000 in
theorem FnExactRuleOrder_ok (v : Value) (l : List Ru) (w : World) (hs : Sl w v l) (hg : ROks w l) : Calls Try.prog 10 #[v] w (Gives (.bool true) w) := by
  have hml : maxLen = 9223372036854775807 := rfl
  refine enter (vs := [v]) Try.func10 rfl Try.ntmps10 rfl ?_
  repeat' first
    | ((with_reducible apply (LS_callx (f := 25))); exact rfl; exact rfl; exact rfl; exact fun w hw => szRuleS_ok v l _ w (hs.mono hw) (fun r hr => (hg r hr).mono hw) (by omega) (by omega); rintro n hn)
    | ((with_reducible apply CS_seq))
    | ((with_reducible apply CS_region))
    | ((with_reducible apply RR_end))
    | ((with_reducible apply LR_pure); exact rfl; exact rfl; exact rfl)
    | ((with_reducible apply post_seq))
    | ((with_reducible apply post_then_ret))
    | ((with_reducible apply CS_skip))
    | ((with_reducible apply CS_ret))
    | ((with_reducible apply CS_cond_d); exact rfl; all_goals intro hb; all_goals try (exfalso; omega))
  all_goals first | (exfalso; contradiction) | (exfalso; omega) | (exfalso; simp at hb <;> omega) | skip
  · apply ret_bool; exact rfl; exact rfl; rfl
  · have hl : l.length ≤ 1048576 := by omega
    have hl3 : ∀ r ∈ l, r.g.cs.length ≤ 1048576 := fun r hr => by
      rcases hn with h | h
      · omega
      · have := h.2.2.2 r hr; omega
    repeat' first
      | ((with_reducible apply (LS_callr (f := 18))); exact rfl; exact rfl; exact rfl; exact fun w hw => sRuleOrder_r v1 rs1 _ (z1.mono hw) (fun r hr => (z2 r hr).mono hw); rintro ⟨v0, L⟩ w2 k2 ⟨y1, y2⟩; dsimp only at y1 y2 ⊢; (have hs := (hs.mono k1).mono k2); (have hg : ROks w2 l := fun r hr => ((hg r hr).mono k1).mono k2); (have hL := OrdX_eq z3 y2); (have hLl := OrdX_len hL))
      | ((have _t := hP); ((have _t := g0); ((with_reducible apply (LS_callx (f := 16))); exact rfl; exact rfl; exact rfl; exact fun w hw => iRuleOrder_g _ l rs' L w (own_sl 0 hw rfl rfl rfl (Nat.le_refl _) (by rw [hP'.1]; omega)) ((hP'.rsok hl3).of hw (fun e he => by simp [he])) hP'.eql hL; rintro ⟨g5, c5⟩ ⟨d3, d4⟩; dsimp only at d3 d4 ⊢)))
      | ((with_reducible apply (LS_callx (f := 16))); exact rfl; exact rfl; exact rfl; exact fun w hw => iRuleOrder_g _ l rs L w (own_sl 0 hw rfl rfl rfl (Nat.le_refl _) (by rw [hP.1]; omega)) ((hP.rsok hl3).of hw (fun e he => by simp [he])) hP.eql hL; rintro ⟨g0, c0⟩ ⟨d1, d2⟩; dsimp only at d1 d2 ⊢)
      | ((have _t := hP); ((with_reducible apply (LS_callx (f := 26))); exact rfl; exact rfl; exact rfl; exact fun w hw => toRuleS_x v l w (hs.mono hw) (fun r hr => (hg r hr).mono hw) hl hl3; rintro ⟨g', rs', es'⟩ hP'; dsimp only at hP' ⊢))
      | ((have _t := hL); ((with_reducible apply (LS_callx (f := 26))); exact rfl; exact rfl; exact rfl; exact fun w hw => toRuleS_x v l w (hs.mono hw) (fun r hr => (hg r hr).mono hw) hl hl3; rintro ⟨g, rs, es⟩ hP; dsimp only at hP ⊢; (refine RR_weak (fun w hw => by rw [List.append_nil] at hw; exact hw) ?_)))
      | ((with_reducible apply (LS_callr (f := 26))); exact rfl; exact rfl; exact rfl; exact fun w hw => toRuleS_r v l w (hs.mono hw) (fun r hr => (hg r hr).mono hw) hl hl3; rintro ⟨v1, rs1⟩ w1 k1 ⟨z1, z2, z3⟩; dsimp only at z1 z2 z3 ⊢)
      | ((with_reducible apply (LR_call (f := 28))); exact rfl; exact rfl; exact rfl; exact fun w hw => eqIntS_ok _ v0 L w (by first | exact ((hw.at_ (intE g0 c0 L) (by simp)).2.sl rfl rfl (by omega) (by omega)) | exact ((hw.at_ (intE g5 c5 L) (by simp)).2.sl rfl rfl (by omega) (by omega))) (y1.mono hw))
      | (((with_reducible apply (LR_call (f := 27))); exact rfl; exact rfl; exact rfl; exact fun w hw => eqRuleS_ok _ _ rs rs' w ((hw.at_ (ruE g rs.length rs) (by simp)).2.sl rfl rfl (Nat.le_refl _) (by rw [hP.1]; omega)) (own_sl 0 hw rfl rfl rfl (Nat.le_refl _) (by rw [hP'.1]; omega)) ((hP.rsok hl3).of hw (fun e he => by simp [he])) ((hP'.rsok hl3).of hw (fun e he => by simp [he])) (hP.eql.symm.trans hP'.eql)); (refine RR_weak (fun w hw => hw.sub ((List.sublist_append_right _ _).cons _)) ?_))
      | (((with_reducible apply (LS_callf (f := 29))); exact rfl; exact rfl; exact rfl; exact fun w hw => markRuleS_ok _ _ w g l rs es _ _ rfl (hw.perm ((List.Perm.swap _ _ _).trans ((List.perm_append_singleton _ _).symm.cons _))) hP (by rw [hP.1]; omega) hl3 (by omega) (by omega); rintro ⟨km, ys, fs⟩ ⟨hk1, hk2⟩; dsimp only at hk1 hk2 ⊢; (refine RR_weak (fun w hw => hw.sub ((List.sublist_append_right _ _).cons _)) ?_)))
      | ((with_reducible apply (LS_callf (f := 30))); exact rfl; exact rfl; exact rfl; exact fun w hw => markIntS_ok _ _ w g0 c0 L _ hw (by omega) (by omega) (by omega) d1 d2; rintro _ _)
      | ((with_reducible apply (LR_call (f := 31))); exact rfl; exact rfl; exact rfl; exact fun w hw => heldIntS_ok _ L.length 1 w ((hw.at_ (intE g0 c0 (mk1 1 L.length)) (by simp)).2.sl rfl (mk1_len _ _).symm (by omega) (by omega)) (by omega) (by omega) (by omega))
      | ((with_reducible apply CS_seq))
      | ((with_reducible apply CS_region))
      | ((with_reducible apply RR_end))
      | ((with_reducible apply LR_pure); exact rfl; exact rfl; exact rfl)
      | ((with_reducible apply post_seq))
      | ((with_reducible apply CS_skip))
      | ((with_reducible apply CS_ret))
      | ((with_reducible apply CS_cond_f); exact rfl)
      | ((with_reducible apply CS_cond_nd); exact rfl; all_goals intro hb; all_goals try (exfalso; omega))
      | ((with_reducible apply LR_caseg_d); exact rfl; exact rfl; all_goals intro hb; all_goals try (exfalso; omega))
    all_goals first | (exfalso; contradiction) | (exfalso; omega) | (exfalso; simp at hb <;> omega) | skip
    all_goals (apply ret_boolr (k1.call k2); exact rfl; exact rfl; rfl)
end Go.Proofs.Ytpflkichnjfgkaa
