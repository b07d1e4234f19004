/- Slices of articles and of lines that came in, opened to lists. No condition beyond those that each theorem states. -/
import Derived.Test.YtbgfkhliideegaaGreatPCa
import Derived.Test.YtbgfkhliideegaaGreatFinS
namespace Go.Proofs.YtbgfkhliideegaaGreat
open Go.RowKit Go.Deep
def arB4 (P : Program) (e ti : TypeId) : Bool := fieldAtB P e 0 0 1 ti && (fieldAtB P e 1 1 1 ti && (fieldAtB P e 2 2 1 ti && fieldAtB P e 3 3 1 ti))
def lnB2 (P : Program) (e ti : TypeId) : Bool := fieldAtB P e 0 0 1 ti && fieldAtB P e 1 1 1 ti
theorem open_ar {H : Type} {enc : TypeId × Value → H} {P : Program} {W : World} {e ti : TypeId} (hi : P.underlying ti = some (.int .i64)) (h : arB4 P e ti = true) :
    ∀ n cs y, cs.length = Enc.k Ar → DataW.trod enc P W 0 (fun _ => true) true n e cs = some y → ∃ r : Ar, cs = Enc.enc r ∧ True := by
  intro n cs y hl ht
  simp only [arB4, Bool.and_eq_true] at h
  have hl2 : cs.length = 4 := hl
  obtain ⟨a, ha⟩ := open_fint h.1 hi ht (by omega)
  obtain ⟨b, hb⟩ := open_fint h.2.1 hi ht (by omega)
  obtain ⟨c, hc⟩ := open_fint h.2.2.1 hi ht (by omega)
  obtain ⟨d, hd⟩ := open_fint h.2.2.2 hi ht (by omega)
  refine ⟨⟨a, b, c, d⟩, ?_, trivial⟩
  match cs, hl2, ha, hb, hc, hd with
  | [x, y, z, u], _, ha, hb, hc, hd =>
    simp at ha hb hc hd
    subst ha hb hc hd
    rfl
theorem open_ln {H : Type} {enc : TypeId × Value → H} {P : Program} {W : World} {e ti : TypeId} (hi : P.underlying ti = some (.int .i64)) (h : lnB2 P e ti = true) :
    ∀ n cs y, cs.length = Enc.k Ln → DataW.trod enc P W 0 (fun _ => true) true n e cs = some y → ∃ r : Ln, cs = Enc.enc r ∧ True := by
  intro n cs y hl ht
  simp only [lnB2, Bool.and_eq_true] at h
  have hl2 : cs.length = 2 := hl
  obtain ⟨a, ha⟩ := open_fint h.1 hi ht (by omega)
  obtain ⟨b, hb⟩ := open_fint h.2 hi ht (by omega)
  refine ⟨⟨a, b⟩, ?_, trivial⟩
  match cs, hl2, ha, hb with
  | [x, y], _, ha, hb =>
    simp at ha hb
    subst ha hb
    rfl
end Go.Proofs.YtbgfkhliideegaaGreat
