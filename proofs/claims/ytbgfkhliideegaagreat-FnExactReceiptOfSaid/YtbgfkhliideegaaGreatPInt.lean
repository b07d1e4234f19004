/- Plain facts on ranges of ints and lists of ints. No condition beyond those that each theorem states. -/
import Derived.Test.YtbgfkhliideegaaGreatLst
namespace Go.Proofs.YtbgfkhliideegaaGreat
open Go.RowKit
def wi (n a b : Int) : Bool := decide (a ≤ n) && decide (n ≤ b)
theorem wi_true {n a b : Int} : wi n a b = true ↔ a ≤ n ∧ n ≤ b := by simp [wi]
theorem wi_false {n a b : Int} : wi n a b = false ↔ ¬ (a ≤ n ∧ n ≤ b) := by rw [← wi_true]; simp
def Asc (l : List Int) : Prop := ∀ j, 0 < j → j < l.length → ∀ a b, l[j-1]? = some a → l[j]? = some b → a < b
def AllIn (l : List Int) (lo hi : Int) : Prop := ∀ j : Nat, j < l.length → ∀ a, l[j]? = some a → lo ≤ a ∧ a ≤ hi
def CO (l : List Int) : Prop := l.length ≤ 3 ∧ Asc l ∧ AllIn l 1 9
theorem bfalse {p : Prop} {b : Bool} (hb : p ↔ b = true) (h : ¬ p) : false = b := by
  cases b
  · rfl
  · exact absurd (hb.2 rfl) h
theorem btrue {p : Prop} {b : Bool} (hb : p ↔ b = true) (h : p) : true = b := (hb.1 h).symm
theorem bex (p : Prop) : ∃ b : Bool, p ↔ b = true := by
  by_cases h : p
  · exact ⟨true, by simp [h]⟩
  · exact ⟨false, by simp [h]⟩
abbrev Up1 (l : List Int) : Prop := l.Pairwise fun a b => a < b
theorem Asc_lt {l : List Int} (h : Asc l) : ∀ (j i : Nat) (a b : Int), i < j → l[i]? = some a → l[j]? = some b → a < b
  | 0, i, a, b, hij, _, _ => by omega
  | j + 1, i, a, b, hij, ha, hb => by
    have hj : j + 1 < l.length := (List.getElem?_eq_some_iff.1 hb).1
    have hp : l[j]? = some l[j] := List.getElem?_eq_getElem (by omega)
    have h1 := h (j + 1) (by omega) hj l[j] b hp hb
    by_cases hij' : i = j
    · subst hij'; rw [hp] at ha; cases ha; exact h1
    · have := Asc_lt h j i a l[j] (by omega) ha hp
      omega
theorem Asc_iff (l : List Int) : Asc l ↔ Up1 l := by
  constructor
  · intro h
    exact List.pairwise_iff_getElem.2 fun i j hi hj hij => Asc_lt h j i _ _ hij (List.getElem?_eq_getElem hi) (List.getElem?_eq_getElem hj)
  · intro h j h0 hj a b ha hb
    have h3 := List.pairwise_iff_getElem.1 h (j - 1) j (by omega) hj (by omega)
    rw [(List.getElem?_eq_some_iff.1 hb).2, (List.getElem?_eq_some_iff.1 ha).2] at h3
    exact h3
theorem AllIn_iff (l : List Int) (lo hi : Int) : AllIn l lo hi ↔ ∀ a ∈ l, lo ≤ a ∧ a ≤ hi := by
  constructor
  · intro h a ha
    obtain ⟨j, hj⟩ := List.mem_iff_getElem?.1 ha
    exact h j (List.getElem?_eq_some_iff.1 hj).1 a hj
  · intro h j _ a ha
    exact h a (List.mem_of_getElem? ha)
/-- A place of a list of numbers of coupons is as it should be. -/
def coAt (l : List Int) (j : Nat) : Prop := ∀ c, l[j]? = some c → (1 ≤ c ∧ c ≤ 9) ∧ ∀ c', 0 < j → l[j-1]? = some c' → c' < c
theorem CO_at (l : List Int) : CO l ↔ l.length ≤ 3 ∧ ∀ j, j < l.length → coAt l j := by
  constructor
  · rintro ⟨h1, h2, h3⟩
    exact ⟨h1, fun j hj c hc => ⟨h3 j hj c hc, fun c' h0 hc' => h2 j h0 hj c' c hc' hc⟩⟩
  · rintro ⟨h1, h2⟩
    exact ⟨h1, fun j h0 hj a b ha hb => (h2 j hj b hb).2 a h0 ha, fun j hj a ha => (h2 j hj a ha).1⟩
/-- A list that ascends and is part of another one that ascends is taken out of it in order. -/
theorem up_sub : ∀ {B A : List Int}, Up1 A → Up1 B → (∀ x ∈ A, x ∈ B) → A.Sublist B
  | [], A, _, _, h => by
    cases A with
    | nil => exact List.Sublist.refl _
    | cons a A => exact absurd (h a (List.mem_cons_self)) (by simp)
  | b :: B, [], _, _, _ => List.nil_sublist _
  | b :: B, a :: A, hA, hB, h => by
    have hA' := List.pairwise_cons.1 hA
    have hB' := List.pairwise_cons.1 hB
    by_cases hab : a = b
    · subst hab
      refine (up_sub hA'.2 hB'.2 fun x hx => ?_).cons_cons _
      rcases List.mem_cons.1 (h x (List.mem_cons_of_mem _ hx)) with e | e
      · have := hA'.1 x hx; omega
      · exact e
    · refine (up_sub hA hB'.2 fun x hx => ?_).cons _
      have ha : a ∈ B := (List.mem_cons.1 (h a (List.mem_cons_self))).resolve_left hab
      have hba := hB'.1 a ha
      rcases List.mem_cons.1 (h x hx) with e | e
      · rcases List.mem_cons.1 hx with e2 | e2
        · omega
        · have := hA'.1 x e2; omega
      · exact e
theorem take_not_mem {ns : List Int} (hn : Up1 ns) {i : Nat} {n : Int} (h : ns[i]? = some n) : n ∉ ns.take i := fun hm => by
  obtain ⟨j, hj⟩ := List.mem_iff_getElem?.1 hm
  rw [List.getElem?_take] at hj
  split at hj
  · obtain ⟨i1, i2⟩ := List.getElem?_eq_some_iff.1 h
    obtain ⟨j1, j2⟩ := List.getElem?_eq_some_iff.1 hj
    have := List.pairwise_iff_getElem.1 hn j i j1 i1 (by omega)
    omega
  · cases hj
theorem CO_up {ns : List Int} (h : CO ns) : Up1 ns := (Asc_iff ns).1 h.2.1
theorem take_all {α : Type} {p : α → Prop} {l : List α} {k : Nat} {n : α} (hk : l[k]? = some n) (h : ∀ x ∈ l.take k, p x) (hn : p n) : ∀ x ∈ l.take (k + 1), p x := fun x hx => by
  rw [List.take_add_one, hk] at hx
  rcases List.mem_append.1 hx with hx | hx
  · exact h x hx
  · simp at hx; rw [hx]; exact hn
/-- marks: the numbers from k on -/
def mk1 (k : Int) (n : Nat) : List Int := (List.range n).map fun j : Nat => k + (j : Int)
theorem mk1_len (k : Int) (n : Nat) : (mk1 k n).length = n := by simp [mk1]
theorem mk1_at {k : Int} {n j : Nat} (h : j < n) : (mk1 k n)[j]? = some (k + (j : Int)) := by simp [mk1, h]
/-- a list whose first places are taken from another one -/
def mix {α : Type} (m l : List α) (j : Nat) : List α := m.take j ++ l.drop j
theorem mix_len {α : Type} {m l : List α} (h : m.length = l.length) (j : Nat) : (mix m l j).length = l.length := by simp [mix]; omega
theorem mix_zero {α : Type} (m l : List α) : mix m l 0 = l := by simp [mix]
theorem mix_end {α : Type} {m l : List α} (h : m.length = l.length) : mix m l l.length = m := by
  simp [mix, ← h]
theorem mix_set {α : Type} {m l : List α} (h : m.length = l.length) {j : Nat} {x : α} (hx : m[j]? = some x) : (mix m l j).set j x = mix m l (j + 1) := by
  have hlt := (List.getElem?_eq_some_iff.1 hx).1
  have h1 : (m.take j).length = j := by simp; omega
  have h2 : l.drop j = l[j] :: l.drop (j + 1) := List.drop_eq_getElem_cons (by omega)
  rw [mix, List.set_append_right _ _ (by omega), h1, h2, Nat.sub_self, List.set_cons_zero]
  simp [mix, List.take_add_one, hx]
theorem takeF_some : ∀ (l : List Value) (n : Nat), n ≤ l.length → takeF l n = some (l.take n)
  | l, 0, _ => by simp [takeF]
  | [], n + 1, h => by simp at h
  | x :: l, n + 1, h => by
    have := takeF_some l n (by simpa using h)
    simp only [takeF, this, List.take_succ_cons]
theorem take_row {α : Type} [Enc α] (xs : List α) (k : Nat) (u : α) (n : Nat) (hk : xs[k]? = some u) (hn : n = Enc.k α) : takeF (dropN (flat xs) (k * Enc.k α)) n = some (Enc.enc u) := by
  have hlt := (List.getElem?_eq_some_iff.1 hk).1
  have h1 : k * Enc.k α + Enc.k α ≤ xs.length * Enc.k α := by
    rw [← Nat.succ_mul]; exact Nat.mul_le_mul_right _ hlt
  subst hn
  rw [dropN_eq, takeF_some _ _ (by rw [List.length_drop, flat_length]; omega), flat_at hk]
theorem nth_fld {α : Type} [Enc α] (xs : List α) (k : Nat) (u : α) (o : Nat) (v : Value) (hk : xs[k]? = some u) (hv : nth (Enc.enc u) o = some v) : nth (flat xs) (k * Enc.k α + o) = some v := by
  rw [nth_eq] at *
  have h1 := flat_at hk
  have ho : o < Enc.k α := by
    have := (List.getElem?_eq_some_iff.1 hv).1
    rwa [Enc.len] at this
  rw [← h1, List.getElem?_take, if_pos ho, List.getElem?_drop] at hv
  exact hv
theorem cut_one {α : Type} {l : List α} {k : Nat} {n : α} (h : l[k]? = some n) : (l.take (k + 1)).drop k = [n] := by
  have hlt := (List.getElem?_eq_some_iff.1 h).1
  rw [List.take_add_one, h, List.drop_append_of_le_length (by rw [List.length_take]; omega), List.drop_eq_nil_of_le (by rw [List.length_take]; omega)]
  rfl
abbrev intE (g c : Nat) (xs : List Int) : Ent := ⟨g, 3, c * Enc.k Int, flat xs⟩
end Go.Proofs.YtbgfkhliideegaaGreat
