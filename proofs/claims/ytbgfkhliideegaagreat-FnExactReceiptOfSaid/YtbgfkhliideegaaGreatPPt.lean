/- How points and guards lie in cells. No condition. -/
import Derived.Test.YtbgfkhliideegaaGreatPRu
namespace Go.Proofs.YtbgfkhliideegaaGreat
open Go.RowKit
/-- a point: its total, and two slices of ints -/
structure PtG where
  g1 : Nat
  c1 : Nat
  g2 : Nat
  c2 : Nat
abbrev ptV (tot : Int) (n m : Nat) (i : PtG) : Value := .agg #[.int .i64 tot, .slice (some ⟨i.g1, 0, none⟩) n i.c1, .slice (some ⟨i.g2, 0, none⟩) m i.c2]
abbrev ptV0 : Value := .agg #[.int .i64 0, .slice none 0 0, .slice none 0 0]
abbrev gdE (g : Nat) (x : Gd) : Ent := ⟨g, 69, 4, [.int .i64 x.tot.lo, .int .i64 x.tot.hi, .slice x.A x.n x.c, .int .i64 x.cp]⟩
abbrev ptE (g : Nat) (a b c : Value) : Ent := ⟨g, 61, 3, [a, b, c]⟩
/-- a point by its parts -/
abbrev ptW (t : Int) (v1 v2 : Value) : Value := .agg #[.int .i64 t, v1, v2]
end Go.Proofs.YtbgfkhliideegaaGreat
