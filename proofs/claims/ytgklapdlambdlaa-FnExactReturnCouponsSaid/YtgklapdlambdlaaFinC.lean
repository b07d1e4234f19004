/- A slice of structs of ints that came in, opened to a list. No condition beyond those that each theorem states. -/
import Derived.Test.YtgklapdlambdlaaPCp
import Derived.Test.YtgklapdlambdlaaFin
namespace Go.Proofs.Ytgklapdlambdlaa
open Go.RowKit Go.Deep
def intFields (P : Program) (e : TypeId) (k : Nat) : Bool := match P.underlying e with
  | some (.struct fs) => (List.range k).all fun i => match fs[i]? with
    | some f => Nat.beq f.offset i && Nat.beq (P.cellsOf f.type) 1 && (match P.underlying f.type with | some (.int .i64) => true | _ => false)
    | none => false
  | _ => false
theorem open_intFields {H : Type} {enc : TypeId × Value → H} {P : Program} {W : World} {e : TypeId} {k : Nat} (h : intFields P e k = true) {n : Nat} {cs : List Value} {y : DataW H × List MemPlace} (hl : cs.length = k)
    (ht : DataW.trod enc P W 0 (fun _ => true) true n e cs = some y) (i : Nat) (hi : i < k) : ∃ m, cs[i]? = some (.int .i64 m) := by
  unfold intFields at h
  split at h
  · rename_i fs hu
    have h1 := List.all_eq_true.1 h i (List.mem_range.2 hi)
    split at h1
    · rename_i f hf
      simp only [Bool.and_eq_true, Nat.beq_eq_true_eq] at h1
      obtain ⟨⟨ho, hc⟩, hm⟩ := h1
      have ho := Nat.eq_of_beq_eq_true ho
      have hc := Nat.eq_of_beq_eq_true hc
      obtain ⟨xs, m, _, _, _, hlen, hh⟩ := DataW.trod_struct hu ht
      have g := hh i f hf
      rw [ho, hc, take1_drop cs i undef (by omega)] at g
      split at hm
      · rename_i hk
        have hlt : i < fs.size := (Array.getElem?_eq_some_iff.1 hf).1
        rw [List.getElem?_eq_getElem (show i < xs.length by omega)] at g
        obtain ⟨z, hz, _, _⟩ := DataW.trod_int hk g
        simp only [List.cons.injEq, and_true] at hz
        refine ⟨z, ?_⟩
        rw [List.getElem?_eq_getElem (by omega), ← hz]
        simp [List.getD, List.getElem?_eq_getElem (show i < cs.length by omega)]
      · cases hm
    · cases h1
  · cases h
theorem open_cp {H : Type} {enc : TypeId × Value → H} {P : Program} {W : World} {e : TypeId} (h : intFields P e 3 = true) :
    ∀ n cs y, cs.length = Enc.k Cp → DataW.trod enc P W 0 (fun _ => true) true n e cs = some y → ∃ r : Cp, cs = Enc.enc r ∧ True := by
  intro n cs y hl ht
  have hl3 : cs.length = 3 := hl
  obtain ⟨a, ha⟩ := open_intFields h hl3 ht 0 (by omega)
  obtain ⟨b, hb⟩ := open_intFields h hl3 ht 1 (by omega)
  obtain ⟨c, hc⟩ := open_intFields h hl3 ht 2 (by omega)
  refine ⟨⟨a, b, c⟩, ?_, trivial⟩
  match cs, hl3, ha, hb, hc with
  | [x, y, z], _, ha, hb, hc =>
    simp at ha hb hc
    subst ha hb hc
    rfl
theorem open_i {H : Type} {enc : TypeId × Value → H} {P : Program} {W : World} {e : TypeId} (ht : P.underlying e = some (.int .i64)) :
    ∀ n cs y, cs.length = Enc.k Int → DataW.trod enc P W 0 (fun _ => true) true n e cs = some y → ∃ r : Int, cs = Enc.enc r ∧ True := by
  intro n cs y _ h
  obtain ⟨z, rfl, _, _⟩ := DataW.trod_int ht h
  exact ⟨z, rfl, trivial⟩
end Go.Proofs.Ytgklapdlambdlaa
