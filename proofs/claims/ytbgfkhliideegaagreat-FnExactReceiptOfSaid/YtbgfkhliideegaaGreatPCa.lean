/- Plain facts on sums, shops, carts and points. No condition beyond those that each theorem states. -/
import Derived.Test.YtbgfkhliideegaaGreatPInt
namespace Go.Proofs.YtbgfkhliideegaaGreat
open Go.RowKit
/-! ## sums -/
theorem sum_app : ∀ (l m : List Int), (l ++ m).sum = l.sum + m.sum
  | [], m => by simp
  | a :: l, m => by simp only [List.cons_append, List.sum_cons, sum_app l m]; omega
theorem sum_take {l : List Int} {k : Nat} {x : Int} (h : l[k]? = some x) : (l.take (k + 1)).sum = (l.take k).sum + x := by
  rw [List.take_add_one, h, sum_app]; simp
theorem sum_bd : ∀ (l : List Int) (lo hi : Int), (∀ x ∈ l, lo ≤ x ∧ x ≤ hi) → lo * l.length ≤ l.sum ∧ l.sum ≤ hi * l.length
  | [], lo, hi, _ => by simp
  | a :: l, lo, hi, h => by
    have h1 := h a (List.mem_cons_self)
    have h2 := sum_bd l lo hi fun x hx => h x (List.mem_cons_of_mem _ hx)
    simp only [List.sum_cons, List.length_cons, Int.natCast_add, Int.mul_add, Int.natCast_one, Int.mul_one]
    omega
theorem sum_take_bd {l : List Int} {lo hi : Int} (h : ∀ x ∈ l, lo ≤ x ∧ x ≤ hi) (k : Nat) : lo * (l.take k).length ≤ (l.take k).sum ∧ (l.take k).sum ≤ hi * (l.take k).length :=
  sum_bd _ lo hi fun x hx => h x (List.mem_of_mem_take hx)
theorem sum_set : ∀ (l : List Int) (k : Nat) (x y : Int), l[k]? = some x → (l.set k y).sum = l.sum - x + y
  | [], k, x, y, h => by simp at h
  | a :: l, 0, x, y, h => by simp at h; subst h; simp only [List.set_cons_zero, List.sum_cons]; omega
  | a :: l, k + 1, x, y, h => by
    have := sum_set l k x y (by simpa using h)
    simp only [List.set_cons_succ, List.sum_cons, this]; omega
theorem sum_pos : ∀ (l : List Int), 0 < l.sum → ∃ (k : Nat) (x : Int), l[k]? = some x ∧ 0 < x
  | [], h => by simp at h
  | a :: l, h => by
    by_cases ha : 0 < a
    · exact ⟨0, a, rfl, ha⟩
    · obtain ⟨k, x, h1, h2⟩ := sum_pos l (by simp only [List.sum_cons] at h; omega)
      exact ⟨k + 1, x, by simpa using h1, h2⟩
theorem sum_zero (n : Nat) : (List.replicate n (0 : Int)).sum = 0 := by
  induction n with
  | zero => rfl
  | succ n ih => rw [List.replicate_succ, List.sum_cons, ih]; rfl
theorem sum_le : ∀ (l m : List Int), l.length = m.length → (∀ (k : Nat) (x y : Int), l[k]? = some x → m[k]? = some y → x ≤ y) → l.sum ≤ m.sum
  | [], [], _, _ => by simp
  | a :: l, b :: m, hl, h => by
    have h1 := h 0 a b rfl rfl
    have h2 := sum_le l m (by simpa using hl) fun k x y hx hy => h (k + 1) x y (by simpa using hx) (by simpa using hy)
    simp only [List.sum_cons]; omega
theorem at_mem {α : Type} {l : List α} {p : α → Prop} (h : ∀ x ∈ l, p x) {k : Nat} {x : α} (hx : l[k]? = some x) : p x := h x (List.mem_of_getElem? hx)
theorem at_all {α : Type} {l : List α} {p : α → Prop} (h : ∀ (k : Nat) x, l[k]? = some x → p x) : ∀ x ∈ l, p x := fun x hx => by
  obtain ⟨k, hk⟩ := List.mem_iff_getElem?.1 hx; exact h k x hk
/-! ## shops and carts -/
structure Ar where
  price : Int
  grp : Int
  rate : Int
  wgt : Int
  deriving DecidableEq
instance : Enc Ar := ⟨4, fun a => [.int .i64 a.price, .int .i64 a.grp, .int .i64 a.rate, .int .i64 a.wgt], fun _ => rfl, by omega, fun _ v hv => by simp at hv; rcases hv with rfl | rfl | rfl | rfl <;> rfl⟩
structure Ln where
  art : Int
  cnt : Int
  deriving DecidableEq
instance : Enc Ln := ⟨2, fun x => [.int .i64 x.art, .int .i64 x.cnt], fun _ => rfl, by omega, fun _ v hv => by simp at hv; rcases hv with rfl | rfl <;> rfl⟩
abbrev arV (a : Ar) : Value := .agg #[.int .i64 a.price, .int .i64 a.grp, .int .i64 a.rate, .int .i64 a.wgt]
abbrev lnV (a : Ln) : Value := .agg #[.int .i64 a.art, .int .i64 a.cnt]
abbrev arE (g c : Nat) (xs : List Ar) : Ent := ⟨g, 94, c * Enc.k Ar, flat xs⟩
abbrev lnE (g c : Nat) (xs : List Ln) : Ent := ⟨g, 98, c * Enc.k Ln, flat xs⟩
def arOk (a : Ar) : Prop := (1 ≤ a.price ∧ a.price ≤ 5000) ∧ (0 ≤ a.grp ∧ a.grp ≤ 2) ∧ (0 ≤ a.rate ∧ a.rate ≤ 300) ∧ (0 ≤ a.wgt ∧ a.wgt ≤ 5000)
def VShop (s : List Ar) : Prop := (1 ≤ s.length ∧ s.length ≤ 10) ∧ ∀ j, j < s.length → ∀ a, s[j]? = some a → arOk a
def lnAt (n : Int) (c : List Ln) (k : Nat) : Prop := ∀ l, c[k]? = some l → (0 ≤ l.art ∧ l.art ≤ n - 1) ∧ (1 ≤ l.cnt ∧ l.cnt ≤ 20) ∧ ∀ l', 0 < k → c[k-1]? = some l' → l'.art < l.art
def VCart (n : Int) (c : List Ln) : Prop := c.length ≤ 8 ∧ ∀ k, k < c.length → lnAt n c k
def VSC (s : List Ar) (c : List Ln) : Prop := VShop s ∧ VCart s.length c
def arOf (s : List Ar) (i : Int) : Ar := (s[i.toNat]?).getD ⟨0, 0, 0, 0⟩
theorem arOf_at {s : List Ar} {k : Nat} (h : k < s.length) : s[k]? = some (arOf s k) := by
  simp [arOf, h]
theorem arOf_eq {s : List Ar} {k : Nat} {a : Ar} (h : s[k]? = some a) : arOf s k = a := by simp [arOf, h]
def amts (s : List Ar) (c : List Ln) : List Int := c.map fun l => (arOf s l.art).price * l.cnt
theorem amts_len (s : List Ar) (c : List Ln) : (amts s c).length = c.length := by simp [amts]
theorem amts_at {s : List Ar} {c : List Ln} {k : Nat} {l : Ln} (h : c[k]? = some l) : (amts s c)[k]? = some ((arOf s l.art).price * l.cnt) := by simp [amts, h]
theorem amts_nil (s : List Ar) : amts s [] = [] := rfl
theorem mul_bd {a r A R : Int} (h1 : 0 ≤ a) (h2 : a ≤ A) (h3 : 0 ≤ r) (h4 : r ≤ R) : 0 ≤ a * r ∧ a * r ≤ A * R :=
  ⟨Int.mul_nonneg h1 h3, Int.mul_le_mul h2 h4 h3 (by omega)⟩
/-- a line of a valid cart: its article -/
theorem line_ok {s : List Ar} {c : List Ln} (h : VSC s c) {k : Nat} {l : Ln} (hl : c[k]? = some l) :
    ∃ j : Nat, l.art = j ∧ j < s.length ∧ s[j]? = some (arOf s l.art) ∧ arOk (arOf s l.art) ∧ 1 ≤ l.cnt ∧ l.cnt ≤ 20 := by
  have hk := (List.getElem?_eq_some_iff.1 hl).1
  obtain ⟨h1, h2, _⟩ := h.2.2 k hk l hl
  have hj : l.art.toNat < s.length := by omega
  have e : l.art = (l.art.toNat : Int) := by omega
  have hs := arOf_at hj
  rw [← e] at hs
  exact ⟨l.art.toNat, e, hj, hs, h.1.2 _ hj _ hs, h2⟩
theorem amt_bd {s : List Ar} {c : List Ln} (h : VSC s c) {k : Nat} {l : Ln} (hl : c[k]? = some l) : 1 ≤ (arOf s l.art).price * l.cnt ∧ (arOf s l.art).price * l.cnt ≤ 100000 := by
  obtain ⟨j, _, _, _, ⟨⟨h1, h2⟩, _⟩, h3, h4⟩ := line_ok h hl
  have h5 : (arOf s l.art).price * l.cnt ≤ 5000 * 20 := Int.mul_le_mul h2 h4 (by omega) (by omega)
  have h6 : 1 * 1 ≤ (arOf s l.art).price * l.cnt := Int.mul_le_mul h1 h3 (by omega) (by omega)
  omega
theorem amts_bd {s : List Ar} {c : List Ln} (h : VSC s c) : ∀ x ∈ amts s c, 0 ≤ x ∧ x ≤ 100000 := fun x hx => by
  obtain ⟨l, hl, rfl⟩ := List.mem_map.1 hx
  obtain ⟨k, hk⟩ := List.mem_iff_getElem?.1 hl
  have := amt_bd h hk
  omega
theorem amts_sum {s : List Ar} {c : List Ln} (h : VSC s c) : 0 ≤ (amts s c).sum ∧ (amts s c).sum ≤ 800000 := by
  have h1 := sum_bd _ 0 100000 (amts_bd h)
  have h2 := h.2.1
  rw [amts_len] at h1
  omega
theorem amts_take {s : List Ar} {c : List Ln} {k : Nat} {l : Ln} (h : c[k]? = some l) : amts s (c.take (k + 1)) = amts s (c.take k) ++ [(arOf s l.art).price * l.cnt] := by
  simp [amts, List.take_add_one, h]
/-- the pieces of a group -/
def gcOf (s : List Ar) (c : List Ln) (g : Int) : Int := (c.map fun l => if (arOf s l.art).grp = g then l.cnt else 0).sum
def gcs (s : List Ar) (c : List Ln) : List Int := [gcOf s c 0, gcOf s c 1, gcOf s c 2]
theorem gcs_len (s : List Ar) (c : List Ln) : (gcs s c).length = 3 := rfl
theorem gcs_zero (s : List Ar) : gcs s [] = [0, 0, 0] := rfl
theorem gcOf_take {s : List Ar} {c : List Ln} {k : Nat} {l : Ln} (h : c[k]? = some l) (g : Int) : gcOf s (c.take (k + 1)) g = gcOf s (c.take k) g + if (arOf s l.art).grp = g then l.cnt else 0 := by
  simp only [gcOf, List.take_add_one, h, List.map_append, sum_app]; simp
theorem gcOf_bd {s : List Ar} {c : List Ln} (h : VSC s c) (k : Nat) (g : Int) : 0 ≤ gcOf s (c.take k) g ∧ gcOf s (c.take k) g ≤ 160 := by
  have h1 : ∀ x ∈ (c.take k).map (fun l => if (arOf s l.art).grp = g then l.cnt else 0), 0 ≤ x ∧ x ≤ 20 := fun x hx => by
    obtain ⟨l, hl, rfl⟩ := List.mem_map.1 hx
    obtain ⟨j, hj⟩ := List.mem_iff_getElem?.1 (List.mem_of_mem_take hl)
    obtain ⟨_, _, _, _, _, h3, h4⟩ := line_ok h hj
    split <;> omega
  have h2 := sum_bd _ 0 20 h1
  have h3 : (c.take k).length ≤ 8 := by have := h.2.1; simp; omega
  simp only [List.length_map] at h2
  unfold gcOf
  omega
theorem gcs_set {s : List Ar} {c : List Ln} {k : Nat} {l : Ln} {n : Nat} (h : c[k]? = some l) (hn : (arOf s l.art).grp = n) (hn3 : n < 3) :
    ∃ x, (gcs s (c.take k))[n]? = some x ∧ x = gcOf s (c.take k) n ∧ (gcs s (c.take k)).set n (x + l.cnt) = gcs s (c.take (k + 1)) := by
  refine ⟨gcOf s (c.take k) n, ?_, rfl, ?_⟩
  · rcases n with _ | _ | _ | n
    · rfl
    · rfl
    · rfl
    · omega
  · simp only [gcs, gcOf_take h, hn]
    rcases n with _ | _ | _ | n
    · simp
    · simp
    · simp
    · omega
theorem gcs_bd {s : List Ar} {c : List Ln} (h : VSC s c) : ∀ x ∈ gcs s c, 0 ≤ x ∧ x ≤ 160 := fun x hx => by
  have h1 := fun g => gcOf_bd h c.length g
  simp only [List.take_length] at h1
  simp only [gcs, List.mem_cons, List.not_mem_nil, or_false] at hx
  rcases hx with rfl | rfl | rfl <;> exact h1 _
end Go.Proofs.YtbgfkhliideegaaGreat
