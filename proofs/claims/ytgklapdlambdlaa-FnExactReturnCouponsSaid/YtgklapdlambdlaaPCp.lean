/- Plain facts on books of coupons. No condition beyond those that each theorem states. -/
import Derived.Test.YtgklapdlambdlaaWTax
namespace Go.Proofs.Ytgklapdlambdlaa
open Go.RowKit
structure Cp where
  num : Int
  uses : Int
  til : Int
  deriving DecidableEq
instance : Enc Cp := ⟨3, fun x => [.int .i64 x.num, .int .i64 x.uses, .int .i64 x.til], fun _ => rfl, by omega, fun _ v hv => by simp at hv; rcases hv with rfl | rfl | rfl <;> rfl⟩
def okAt (l : List Cp) (j : Nat) : Prop := ∀ c, l[j]? = some c → (1 ≤ c.num ∧ c.num ≤ 9) ∧ (0 ≤ c.uses ∧ c.uses ≤ 100) ∧ (0 ≤ c.til ∧ c.til ≤ 999) ∧ ∀ c', 0 < j → l[j-1]? = some c' → c'.num < c.num
def VB (l : List Cp) : Prop := ∀ j, j < l.length → okAt l j
def Asc (l : List Int) : Prop := ∀ j, 0 < j → j < l.length → ∀ a b, l[j-1]? = some a → l[j]? = some b → a < b
def AllIn (l : List Int) (lo hi : Int) : Prop := ∀ j : Nat, j < l.length → ∀ a, l[j]? = some a → lo ≤ a ∧ a ≤ hi
def CO (l : List Int) : Prop := l.length ≤ 3 ∧ Asc l ∧ AllIn l 1 9
theorem bfalse {p : Prop} {b : Bool} (hb : p ↔ b = true) (h : ¬ p) : false = b := by
  cases b
  · rfl
  · exact absurd (hb.2 rfl) h
theorem btrue {p : Prop} {b : Bool} (hb : p ↔ b = true) (h : p) : true = b := (hb.1 h).symm
end Go.Proofs.Ytgklapdlambdlaa
