/- FnExactReceiptOf: for every input the call returns true, and each argument reads behind the call as it read before. No condition. -/
import Derived.Test.YtbgfkhliideegaaGreatWExV
import Derived.Test.YtbgfkhliideegaaGreatFin
import Derived.Test.YtbgfkhliideegaaGreatHead
import Derived.Test.YtbgfkhliideegaaGreatFinA
import Derived.Test.YtbgfkhliideegaaGreatFinS
import Derived.Test.YtbgfkhliideegaaGreatFinR
namespace Go.Proofs.YtbgfkhliideegaaGreat
namespace FnExactReceiptOf
open Go.ChangeShapes Go.WideShapes Go.ChangeAt Go.RowKit Go.Deep
theorem own : ownKnob Tryz.prog.godebug = none := by kernel_rfl
set_option maxRecDepth 100000 in
theorem lifted (os : Os) (started : os.Started) (H : Type) (enc : TypeId × Value → H) :
    ReturnsInHanded {} Tryz.checked os 5 .any (Rows.fnExactReceiptOfSpec.pre6 enc Tryz.prog Tryz.f5 Rows.fnExactReceiptOfRow.domain false) (Rows.fnExactReceiptOfSpec.post enc Tryz.prog Tryz.f5 false true false false) := by
  refine returnsInHanded_of_change (C := Tryz.checked) own started (by kernel_rfl) Tryz.func5
    (ChangeSpec.witness6 (enc := enc) (C := Tryz.checked) false ⟨#[], #[.slice none 0 0, .slice none 0 0, .slice none 0 0, .slice none 0 0], []⟩ 8 (by kernel_rfl) (by kernel_rfl) (by kernel_rfl) (by kernel_rfl)) ?_
  intro W base args ds gs before hval0 hW _ _
  have hval : ∀ (j : Nat) t v, Tryz.f5.params[j]? = some t → args[j]? = some v → Value.okWide Tryz.prog W .any base t v := hval0
  have hW' := hW
  obtain ⟨p, q, hA0, hV, rfl, _, _⟩ := hW
  have hA : DataW.TrodAll enc Tryz.prog W 0 (fun _ => true) true Tryz.f5.params.toList args.toList ds p := hA0
  have hkeep := hA
  rw [Tryz.params5] at hA hval
  obtain ⟨v0, vs0, d0, ds0, p0, q0, hargs, rfl, rfl, h0, r0⟩ := trodAll_cons hA
  obtain ⟨v1, vs1, d1, ds1, p1, q1, rfl, rfl, rfl, h1, r1⟩ := trodAll_cons r0
  obtain ⟨v2, vs2, d2, ds2, p2, q2, rfl, rfl, rfl, h2, r2⟩ := trodAll_cons r1
  obtain ⟨v3, vs3, d3, ds3, p3, q3, rfl, rfl, rfl, h3, r3⟩ := trodAll_cons r2
  obtain ⟨rfl, rfl, rfl⟩ := trodAll_nil r3
  obtain rfl : args = #[v0, v1, v2, v3] := by cases args; simp_all
  obtain ⟨rfl, rfl⟩ := trodVars_none hV
  obtain ⟨l0, s0, k0⟩ := open_sl (α := Ar) (fun _ => True) Tryz.underlying34 (by kernel_rfl) (hval 0 34 v0 rfl rfl) (open_ar (ti := 3) (by kernel_rfl) (by kernel_rfl)) h0
  obtain ⟨l1, s1, k1⟩ := open_sl (α := Ln) (fun _ => True) Tryz.underlying35 (by kernel_rfl) (hval 1 35 v1 rfl rfl) (open_ln (ti := 3) (by kernel_rfl) (by kernel_rfl)) h1
  obtain ⟨l2, s2, k2⟩ := open_sl (α := Int) (fun _ => True) Tryz.underlying25 (by kernel_rfl) (hval 2 25 v2 rfl rfl) (open_i (by kernel_rfl)) h2
  obtain ⟨l3, s3, k3⟩ := open_sl (α := Ru) (fun r => ROk W r) Tryz.underlying36 (by kernel_rfl) (hval 3 36 v3 rfl rfl) (open_ru ruTy) h3
  refine (FnExactReceiptOf_ok _ _ _ _ _ _ _ _ W ⟨s0, s1, s2, s3, k3⟩).mono fun e W' ⟨he, hb, _⟩ => ?_
  subst he
  simp only [List.append_nil] at hW' hkeep
  exact ⟨_, rfl, post_of_below (pv := []) hW' (fun _ _ _ => trodAll_cons_mk (shut_bool Tryz.underlying4 _) trodAll_mk0)
    (fun sp hs => trodAll_below (by kernel_rfl) hb hkeep (by rw [Tryz.params5]; intro t ht; simp only [List.mem_cons, List.not_mem_nil, or_false] at ht; rcases ht with rfl | rfl | rfl | rfl <;> exact ⟨by kernel_rfl, of_decide_eq_true (by kernel_rfl)⟩) (fun x hx => by simpa using hW'.lt x hx) sp hs)
    (fun _ _ => rfl) (by simp) hb (ok_one (by kernel_rfl) rfl (okWide_bool_mk Tryz.underlying4 _))⟩
set_option maxRecDepth 100000 in
theorem closed : joinedFacts Tryz.pinned.checked.prog 5 Tryz.f5 Rows.fnExactReceiptOfSpec Rows.fnExactReceiptOfRow = true := by
  have e1 : Tryz.pinned.checked.prog.mayEnter = true := head_enter
  have e2 : Tryz.pinned.checked.prog.liftsFinal = false := head_final
  have e3 : Tryz.pinned.checked.prog.make = some .cut := head_make
  unfold joinedFacts
  rw [e1, e2, e3]
  exact (show _ = true by kernel_rfl)
theorem over : Rows.fnExactReceiptOfRow.holds Tryz.pinned (OpenSpec.ofChange Rows.fnExactReceiptOfSpec) :=
  OpenClaim.holds_of_wide 5 Tryz.f5 rfl rfl rfl rfl rfl rfl rfl ⟨rfl, rfl, rfl, rfl, rfl⟩ rfl rfl rfl rfl rfl (by kernel_rfl) Tryz.func5 closed
    (of_decide_eq_true (by kernel_rfl)) (by unfold Func.isWrapper; first | (rw [if_pos (by decide +kernel)]; kernel_rfl) | (rw [if_neg (by decide +kernel)]; exact ⟨rfl, rfl⟩))
    (fun os started H enc _ => lifted os started H enc)
/-- The statement. -/
theorem proved : Rows.FnExactReceiptOfSaid := over
end FnExactReceiptOf
end Go.Proofs.YtbgfkhliideegaaGreat
