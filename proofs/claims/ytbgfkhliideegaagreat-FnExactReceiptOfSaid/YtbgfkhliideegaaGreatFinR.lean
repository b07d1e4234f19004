/- Arguments that are rules, or slices of rules, opened. No condition beyond those that each theorem states. -/
import Derived.Test.YtbgfkhliideegaaGreatPRu
import Derived.Test.YtbgfkhliideegaaGreatFinS
namespace Go.Proofs.YtbgfkhliideegaaGreat
open Go.RowKit Go.Deep
def spanB (P : Program) (e ti : TypeId) : Bool := fieldAtB P e 0 0 1 ti && fieldAtB P e 1 1 1 ti
theorem open_sp {H : Type} {enc : TypeId × Value → H} {P : Program} {W : World} {e ti : TypeId} (hi : P.underlying ti = some (.int .i64)) (h : spanB P e ti = true) :
    ∀ n cs y, cs.length = Enc.k Sp → DataW.trod enc P W 0 (fun _ => true) true n e cs = some y → ∃ r : Sp, cs = Enc.enc r ∧ True := by
  intro n cs y hl ht
  simp only [spanB, Bool.and_eq_true] at h
  have hl2 : cs.length = 2 := hl
  obtain ⟨a, ha⟩ := open_fint h.1 hi ht (by omega)
  obtain ⟨b, hb⟩ := open_fint h.2 hi ht (by omega)
  refine ⟨⟨a, b⟩, ?_, trivial⟩
  match cs, hl2, ha, hb with
  | [x, y], _, ha, hb =>
    simp at ha hb
    subst ha hb
    rfl
/-- the types that a rule is made of -/
structure RuTy (P : Program) (er eg es esl ti : TypeId) : Prop where
  int : P.underlying ti = some (.int .i64)
  n0 : fieldAtB P er 0 0 1 ti = true
  n1 : fieldAtB P er 1 1 1 ti = true
  n2 : fieldAtB P er 2 2 1 ti = true
  n3 : fieldAtB P er 3 3 1 ti = true
  n4 : fieldAtB P er 4 4 1 ti = true
  n5 : fieldAtB P er 5 5 1 ti = true
  n6 : fieldAtB P er 6 6 1 ti = true
  w : fieldAtB P er 7 7 4 eg = true
  t : fieldAtB P eg 0 0 2 es = true
  c : fieldAtB P eg 1 2 1 esl = true
  p : fieldAtB P eg 2 3 1 ti = true
  sp : spanB P es ti = true
  sl : P.underlying esl = some (.slice es)
  ce : P.cellsOf es = 2
theorem open_ru {H : Type} {enc : TypeId × Value → H} {P : Program} {W : World} {er eg es esl ti : TypeId} (h : RuTy P er eg es esl ti) :
    ∀ n cs y, cs.length = Enc.k Ru → DataW.trod enc P W 0 (fun _ => true) true n er cs = some y → ∃ r : Ru, cs = Enc.enc r ∧ ROk W r := by
  intro n cs y hl ht
  have hl2 : cs.length = 11 := hl
  obtain ⟨a0, h0⟩ := open_fint h.n0 h.int ht (by omega)
  obtain ⟨a1, h1⟩ := open_fint h.n1 h.int ht (by omega)
  obtain ⟨a2, h2⟩ := open_fint h.n2 h.int ht (by omega)
  obtain ⟨a3, h3⟩ := open_fint h.n3 h.int ht (by omega)
  obtain ⟨a4, h4⟩ := open_fint h.n4 h.int ht (by omega)
  obtain ⟨a5, h5⟩ := open_fint h.n5 h.int ht (by omega)
  obtain ⟨a6, h6⟩ := open_fint h.n6 h.int ht (by omega)
  obtain ⟨m, z, hw⟩ := open_field h.w ht
  have hlw : ((cs.drop 7).take 4).length = 4 := by simp [hl2]
  obtain ⟨m1, z1, ht1⟩ := open_field h.t hw
  obtain ⟨tot, htot, _⟩ := open_sp (W := W) h.int h.sp m1 _ z1 (show _ = 2 by simp [hl2]) ht1
  obtain ⟨m2, z2, ht2⟩ := open_field h.c hw
  obtain ⟨A, nn, c, l, hsl, hS, _⟩ := open_slc (α := Sp) (fun _ => True) h.sl h.ce (open_sp h.int h.sp) ht2
  obtain ⟨cp, hcp⟩ := open_fint h.p h.int hw (by omega)
  refine ⟨⟨a0, a1, a2, a3, a4, a5, a6, ⟨tot, A, nn, c, l, cp⟩⟩, ?_, hS⟩
  obtain ⟨tl, th⟩ := tot
  match cs, hl2, h0, h1, h2, h3, h4, h5, h6, htot, hsl, hcp with
  | [x0, x1, x2, x3, x4, x5, x6, x7, x8, x9, x10], _, h0, h1, h2, h3, h4, h5, h6, htot, hsl, hcp =>
    simp only [List.getElem?_cons_zero, List.getElem?_cons_succ, Option.some.injEq, List.drop_succ_cons, List.drop_zero, List.take_succ_cons, List.take_zero, List.cons.injEq, and_true, Enc.enc] at h0 h1 h2 h3 h4 h5 h6 htot hsl hcp
    obtain ⟨e1, e2⟩ := htot
    subst h0 h1 h2 h3 h4 h5 h6 hsl hcp e1 e2
    rfl
/-- an argument that is a rule -/
theorem open_ruArg {H : Type} {enc : TypeId × Value → H} {P : Program} {W : World} {base : Nat} {er eg es esl ti : TypeId} {v : Value} {d : DataW H} {p : List MemPlace} (h : RuTy P er eg es esl ti) (hc : P.cellsOf er = 11) (hs : ∃ fs, P.underlying er = some (.struct fs)) (hv : Value.okWide P W .any base er v)
    (ht : DataW.Trod enc P W 0 (fun _ => true) true er v d p) : ∃ r : Ru, v = ruV r ∧ ROk W r := by
  obtain ⟨fs, hs⟩ := hs
  unfold Value.okWide at hv
  simp only [hs] at hv
  obtain ⟨cs, rfl, hsz, _⟩ := hv
  obtain ⟨fuel, hf⟩ := ht
  obtain ⟨r, hr, hok⟩ := open_ru (W := W) h fuel _ _ (show _ = 11 by rw [← hc, ← hsz]; simp [Value.cells]) hf
  refine ⟨r, ?_, hok⟩
  have : cs.toList = Enc.enc r := by simpa [Value.cells] using hr
  have e : cs = (Enc.enc r).toArray := by apply Array.ext'; simpa using this
  rw [e]; rfl
theorem ruTy : RuTy Tryz.prog 92 90 87 88 3 :=
  ⟨by kernel_rfl, by kernel_rfl, by kernel_rfl, by kernel_rfl, by kernel_rfl, by kernel_rfl, by kernel_rfl, by kernel_rfl, by kernel_rfl, by kernel_rfl, by kernel_rfl, by kernel_rfl, by kernel_rfl, by kernel_rfl, by kernel_rfl⟩
end Go.Proofs.YtbgfkhliideegaaGreat
