/- FnUsefulCouponsRule: for every input the call returns true, and each argument reads behind the call as it read before. No condition. -/
import Derived.Test.YtbgfkhliideegaaGreatLUb
import Derived.Test.YtbgfkhliideegaaGreatFin
import Derived.Test.YtbgfkhliideegaaGreatHead
import Derived.Test.YtbgfkhliideegaaGreatFinB
namespace Go.Proofs.YtbgfkhliideegaaGreat
namespace FnUsefulCouponsRule
open Go.ChangeShapes Go.WideShapes Go.ChangeAt Go.RowKit Go.Deep
theorem own : ownKnob Tryz.prog.godebug = none := by kernel_rfl
set_option maxRecDepth 100000 in
theorem lifted (os : Os) (started : os.Started) (H : Type) (enc : TypeId × Value → H) :
    ReturnsInHanded {} Tryz.checked os 20 .any (Rows.fnUsefulCouponsRuleSpec.pre6 enc Tryz.prog Tryz.f20 Rows.fnUsefulCouponsRuleRow.domain false) (Rows.fnUsefulCouponsRuleSpec.post enc Tryz.prog Tryz.f20 false true false false) := by
  refine returnsInHanded_of_change (C := Tryz.checked) own started (by kernel_rfl) Tryz.func20
    (ChangeSpec.witness6 (enc := enc) (C := Tryz.checked) false ⟨#[], #[.slice none 0 0], []⟩ 8 (by kernel_rfl) (by kernel_rfl) (by kernel_rfl) (by kernel_rfl)) ?_
  intro W base args ds gs before hval0 hW _ _
  have hval : ∀ (j : Nat) t v, Tryz.f20.params[j]? = some t → args[j]? = some v → Value.okWide Tryz.prog W .any base t v := hval0
  have hW' := hW
  obtain ⟨p, q, hA0, hV, rfl, _, _⟩ := hW
  have hA : DataW.TrodAll enc Tryz.prog W 0 (fun _ => true) true Tryz.f20.params.toList args.toList ds p := hA0
  have hkeep := hA
  rw [Tryz.params20] at hA hval
  obtain ⟨v0, vs0, d0, ds0, p0, q0, hargs, rfl, rfl, h0, r0⟩ := trodAll_cons hA
  obtain ⟨rfl, rfl, rfl⟩ := trodAll_nil r0
  obtain rfl : args = #[v0] := by cases args; simp_all
  obtain ⟨rfl, rfl⟩ := trodVars_none hV
  obtain ⟨l0, s0, k0⟩ := open_sl (α := By) (fun x => 0 ≤ x.n ∧ x.n ≤ 255) Tryz.underlying22 (by kernel_rfl) (hval 0 22 v0 rfl rfl) (open_by (by kernel_rfl)) h0
  refine (FnUsefulCouponsRule_ok _ _ W s0 k0).mono fun e W' ⟨he, hb, _⟩ => ?_
  subst he
  simp only [List.append_nil] at hW' hkeep
  exact ⟨_, rfl, post_of_below (pv := []) hW' (fun _ _ _ => trodAll_cons_mk (shut_bool Tryz.underlying4 _) trodAll_mk0)
    (fun sp hs => trodAll_below (by kernel_rfl) hb hkeep (by rw [Tryz.params20]; intro t ht; simp only [List.mem_cons, List.not_mem_nil, or_false] at ht; rcases ht with rfl <;> exact ⟨by kernel_rfl, of_decide_eq_true (by kernel_rfl)⟩) (fun x hx => by simpa using hW'.lt x hx) sp hs)
    (fun _ _ => rfl) (by simp) hb (ok_one (by kernel_rfl) rfl (okWide_bool_mk Tryz.underlying4 _))⟩
set_option maxRecDepth 100000 in
theorem closed : joinedFacts Tryz.pinned.checked.prog 20 Tryz.f20 Rows.fnUsefulCouponsRuleSpec Rows.fnUsefulCouponsRuleRow = true := by
  have e1 : Tryz.pinned.checked.prog.mayEnter = true := head_enter
  have e2 : Tryz.pinned.checked.prog.liftsFinal = false := head_final
  have e3 : Tryz.pinned.checked.prog.make = some .cut := head_make
  unfold joinedFacts
  rw [e1, e2, e3]
  exact (show _ = true by kernel_rfl)
theorem over : Rows.fnUsefulCouponsRuleRow.holds Tryz.pinned (OpenSpec.ofChange Rows.fnUsefulCouponsRuleSpec) :=
  OpenClaim.holds_of_wide 20 Tryz.f20 rfl rfl rfl rfl rfl rfl rfl ⟨rfl, rfl, rfl, rfl, rfl⟩ rfl rfl rfl rfl rfl (by kernel_rfl) Tryz.func20 closed
    (of_decide_eq_true (by kernel_rfl)) (by unfold Func.isWrapper; first | (rw [if_pos (by decide +kernel)]; kernel_rfl) | (rw [if_neg (by decide +kernel)]; exact ⟨rfl, rfl⟩))
    (fun os started H enc _ => lifted os started H enc)
/-- The statement. -/
theorem proved : Rows.FnUsefulCouponsRuleSaid := over
end FnUsefulCouponsRule
end Go.Proofs.YtbgfkhliideegaaGreat
