/- The walks of the sort of no pairs, and of the conflicts of rules. No condition beyond those that each theorem states. -/
import Derived.Test.YtbgfkhliideegaaGreatWOr2
import Derived.Test.YtbgfkhliideegaaGreatWRu2
import Derived.Test.YtbgfkhliideegaaGreatWRu5
namespace Go.Proofs.YtbgfkhliideegaaGreat
open Go.RowKit Go.Shelf
attribute [local irreducible] Calls
section
variable {P : Program} {ops : Array Oper} {N : Nat} {e : Env} {Q : Exit → Act → World → Prop} {q : QM} {l : List Oper} {d : Nat} {C : World → Prop} {ty : TypeId} {ps : String} {af : Array Edge} {gu : Option (Nat × Bool)}
class U64Ty (P : Program) (t : TypeId) : Prop where
  und : P.underlying t = some (.int .u64)
theorem LR_convu {s t : TypeId} {x : Operand} {m : Int} (hg : gd ops e gu = some true) (hN : Nat.blt d N = true) (hx : evO e x = some (.int .i64 m)) [hs : I64Ty P s] [ht : U64Ty P t] (h1 : 0 ≤ m) (h2 : m ≤ 9223372036854775807)
    (hr : RR q P ops N ((d, .int .u64 m) :: e) C l Q) : RR q P ops N e C (⟨(some d), (.convert s t x), ty, ps, af, gu⟩ :: l) Q :=
  RR_val rfl hg hN (fun a w hf _ => by
    have hw : IntKind.u64.wrap m = m := by simp [IntKind.wrap, IntKind.bits, IntKind.signed]; omega
    simp [execOp, hf.ev hx, convert, run_underlying hs.und, run_underlying ht.und, Conv.intToInt, hw]) hr
end
instance : U64Ty Tryz.prog 159 := ⟨by kernel_rfl⟩
instance : FnOk Tryz.prog 152 := ⟨fun _ _ => by kernel_rfl⟩
theorem bitsLen_ok (n : Nat) (hn : n ≤ 1000000) (w : World) : Calls Tryz.prog 152 #[.int .u64 (n : Int)] w (Gives (.int .i64 (Lib.bitLen n : Nat)) w) := by
  have h := Any.bits_Len (SlLaysF0.n15.bits (P := Tryz.prog) (ρ := sortPrL_ren) { sortPrL with }) (n : Int) w (by omega) (by omega)
  rw [Int.toNat_natCast] at h
  change Calls Tryz.prog 152 _ _ _ at h
  refine Calls.mono h fun e w' ⟨he, hw⟩ => ⟨he, ?_⟩
  rw [hw]
  exact Bl.refl _ _
theorem insSort_nil (A : Option Addr) (c : Nat) (fv : Value) (w : World) : Calls Tryz.prog 176 #[.slice A 0 c, .int .i64 0, .int .i64 0, fv] w (Gives (.tuple #[]) w) := by
  refine enter (vs := [.slice A 0 c, .int .i64 0, .int .i64 0, fv]) Tryz.func176 rfl Tryz.ntmps176 rfl ?_
  repeat' first | ((with_reducible apply CS_seq)) | ((with_reducible apply CS_block)) | ((with_reducible apply CS_region)) | ((with_reducible apply RR_end)) | ((with_reducible apply LR_pure); exact rfl; exact rfl; exact rfl) | ((with_reducible apply LR_add); exact rfl; exact rfl; exact rfl; exact rfl; omega; omega) | ((with_reducible apply post_seq))
  refine CS_loop (ι := Unit) (fun _ => [(0, .slice A 0 c), (1, .int .i64 0), (2, .int .i64 0), (3, fv), (8, .int .i64 1)]) (fun _ => Wd w []) (fun _ => True) (fun _ => 0) () trivial ⟨rfl, rfl, rfl, rfl, rfl, trivial⟩ (fun _ hw => hw) ?_
  rintro _ _
  repeat' first | ((with_reducible apply CS_seq)) | ((with_reducible apply CS_region)) | ((with_reducible apply RR_end)) | ((with_reducible apply LR_pure); exact rfl; exact rfl; exact rfl) | ((with_reducible apply post_seq)) | ((with_reducible apply post_then_exit)) | ((with_reducible apply post_block_eq)) | ((with_reducible apply CS_exit)) | ((with_reducible apply CS_cond_f); exact rfl)
  all_goals first | (exfalso; contradiction) | (exfalso; omega) | (exfalso; simp at hb <;> omega) | skip
  exact post_end rfl fun w' hw' => ⟨rfl, hw'.below⟩
theorem pdq_nil (A : Option Addr) (c : Nat) (lim : Int) (fv : Value) (w : World) : Calls Tryz.prog 161 #[.slice A 0 c, .int .i64 0, .int .i64 0, .int .i64 lim, fv] w (Gives (.tuple #[]) w) := by
  refine enter (vs := [.slice A 0 c, .int .i64 0, .int .i64 0, .int .i64 lim, fv]) Tryz.func161 rfl Tryz.ntmps161 rfl ?_
  repeat' first | ((with_reducible apply CS_seq)) | ((with_reducible apply CS_block)) | ((with_reducible apply CS_region)) | ((with_reducible apply RR_end)) | ((with_reducible apply LR_pure); exact rfl; exact rfl; exact rfl) | ((with_reducible apply post_seq))
  refine CS_loop (ι := Unit) (fun _ => [(0, .slice A 0 c), (1, .int .i64 0), (2, .int .i64 0), (3, .int .i64 lim), (4, fv), (10, .bool true), (11, .bool true)]) (fun _ => Wd w []) (fun _ => True) (fun _ => 0) () trivial ⟨rfl, rfl, rfl, rfl, rfl, rfl, rfl, trivial⟩ (fun _ hw => hw) ?_
  rintro _ _
  repeat' first | ((with_reducible apply (LR_call (f := 176))); exact rfl; exact rfl; exact rfl; exact fun w hw => insSort_nil A c fv w) | ((with_reducible apply CS_seq)) | ((with_reducible apply CS_block)) | ((with_reducible apply CS_region)) | ((with_reducible apply RR_end)) | ((with_reducible apply LR_pure); exact rfl; exact rfl; exact rfl) | ((with_reducible apply LR_sub); exact rfl; exact rfl; exact rfl; exact rfl; omega; omega) | ((with_reducible apply post_seq)) | ((with_reducible apply post_then_ret)) | ((with_reducible apply post_block_ret)) | ((with_reducible apply CS_ret)) | ((with_reducible apply CS_cond_t); exact rfl)
  all_goals first | (exfalso; contradiction) | (exfalso; omega) | (exfalso; simp at hb <;> omega) | skip
  all_goals exact post_end_ret rfl fun w' hw' => ⟨rfl, hw'.below⟩
theorem sortPp_nil (A : Option Addr) (c : Nat) (fv : Value) (w : World) : Calls Tryz.prog 149 #[.slice A 0 c, fv] w (Gives (.tuple #[]) w) := by
  refine enter (vs := [.slice A 0 c, fv]) Tryz.func149 rfl Tryz.ntmps149 rfl ?_
  repeat' first | ((with_reducible apply LR_convu); exact rfl; exact rfl; exact rfl; omega; omega) | ((with_reducible apply (LR_call (f := 152))); exact rfl; exact rfl; exact rfl; exact fun w hw => bitsLen_ok 0 (by omega) w) | ((with_reducible apply (LR_call (f := 161))); exact rfl; exact rfl; exact rfl; exact fun w hw => pdq_nil A c _ fv w) | ((with_reducible apply CS_seq)) | ((with_reducible apply CS_region)) | ((with_reducible apply RR_end)) | ((with_reducible apply LR_pure); exact rfl; exact rfl; exact rfl) | ((with_reducible apply LR_len); exact rfl; exact rfl; exact rfl) | ((with_reducible apply post_seq))
  exact post_end rfl fun w' hw' => ⟨rfl, hw'.below⟩
/-! ## conflicts -/
def PrE (l : List Ru) (a b : Int) : Prop := ∃ x ∈ l, ∃ y ∈ l, x.num = a ∧ y.num = b ∧ Cfl x y
theorem Pr2_iff (l : List Ru) (a b : Int) : Pr2 l a b ↔ a < b ∧ PrE l a b := by
  constructor
  · rintro ⟨x, hx, y, hy, h1, h2, h3, h4⟩; exact ⟨h3, x, hx, y, hy, h1, h2, h4⟩
  · rintro ⟨h3, x, hx, y, hy, h1, h2, h4⟩; exact ⟨x, hx, y, hy, h1, h2, h3, h4⟩
theorem num_inj {l : List Ru} (hn : Nums l) {i j : Nat} {x y : Ru} (hi : l[i]? = some x) (hj : l[j]? = some y) (h : x.num = y.num) : i = j := by
  rcases Nat.lt_trichotomy i j with hij | hij | hij
  · have h5 := List.pairwise_iff_getElem.1 hn i j (List.getElem?_eq_some_iff.1 hi).1 (List.getElem?_eq_some_iff.1 hj).1 hij
    rw [(List.getElem?_eq_some_iff.1 hi).2, (List.getElem?_eq_some_iff.1 hj).2] at h5
    exact absurd h h5
  · exact hij
  · have h5 := List.pairwise_iff_getElem.1 hn j i (List.getElem?_eq_some_iff.1 hj).1 (List.getElem?_eq_some_iff.1 hi).1 hij
    rw [(List.getElem?_eq_some_iff.1 hi).2, (List.getElem?_eq_some_iff.1 hj).2] at h5
    exact absurd h.symm h5
theorem PrE_at {l : List Ru} (hn : Nums l) {i k : Nat} {x y : Ru} (hi : l[i]? = some x) (hk : l[k]? = some y) {a b : Int} (ha : x.num = a) (hb : y.num = b) : PrE l a b ↔ Cfl x y := by
  constructor
  · rintro ⟨x', hx', y', hy', h1, h2, h3⟩
    obtain ⟨i', hi'⟩ := List.mem_iff_getElem?.1 hx'
    obtain ⟨k', hk'⟩ := List.mem_iff_getElem?.1 hy'
    have e1 := num_inj hn hi hi' (by rw [ha, h1])
    have e2 := num_inj hn hk hk' (by rw [hb, h2])
    subst e1 e2
    rw [hi] at hi'; rw [hk] at hk'
    cases hi'; cases hk'
    exact h3
  · intro h; exact ⟨x, List.mem_of_getElem? hi, y, List.mem_of_getElem? hk, ha, hb, h⟩
/-- the conflict of two valid rules, as a bool in a slot -/
theorem conflict_b (a b : Ru) (w : World) (ha : ROk w a) (hb' : ROk w b) (va : VR a) (vb : VR b) (bb : Bool) (hB : Cfl a b ↔ bb = true) : Calls Tryz.prog 110 #[ruV a, ruV b] w
    (fun x w' => ∃ i : Value × Value × Value, True ∧ x = .returned (.tuple #[.agg #[i.1, i.2.1, i.2.2], .bool bb]) ∧ Wd w [] w') := by
  cases bb
  · refine Calls.mono (conflict_no a b w ha hb' va.2.2.2.2.2.1.2.1 vb.2.2.2.2.2.1.2.1 (fun h => absurd (hB.1 h) (by simp))) fun e w' ⟨he, hw⟩ => ⟨(_, _, _), trivial, he, ⟨hw, fun _ h => (by cases h), List.Pairwise.nil⟩⟩
  · have h := hB.2 rfl
    refine Calls.mono (conflict_yes a b w ha hb' va.2.2.2.2.2.1.2.1 vb.2.2.2.2.2.1.2.1 h.1 h.2.1 h.2.2.1 h.2.2.2) fun e w' ⟨i, hi, he, hw⟩ => ⟨(_, _, _), trivial, he, hw.nil⟩
theorem iConflict_b (a b : Ru) (w : World) (ha : ROk w a) (hb' : ROk w b) (bb : Bool) (hB : Cf a b ↔ bb = true) : Calls Tryz.prog 148 #[ruV a, ruV b] w
    (fun x w' => ∃ i : Value × Value × Value, True ∧ x = .returned (.tuple #[.agg #[i.1, i.2.1, i.2.2], .bool bb]) ∧ Wd w [] w') := by
  cases bb
  · refine Calls.mono (iCf_no a b w ha hb' (fun h => absurd (hB.1 h) (by simp))) fun e w' ⟨he, hw⟩ => ⟨(_, _, _), trivial, he, ⟨hw, fun _ h => (by cases h), List.Pairwise.nil⟩⟩
  · refine Calls.mono (iCf_yes a b w ha hb' (hB.2 rfl)) fun e w' ⟨i, hi, he, hw⟩ => ⟨(_, _, _), trivial, he, hw.nil⟩
end Go.Proofs.YtbgfkhliideegaaGreat
