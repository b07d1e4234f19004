/- Plain facts on books of coupons and their uses. No condition beyond those that each theorem states. -/
import Derived.Test.YtgklapdlambdlaaPCp
namespace Go.Proofs.Ytgklapdlambdlaa
open Go.RowKit
def Bd (c : Cp) : Prop := (1 ≤ c.num ∧ c.num ≤ 9) ∧ (0 ≤ c.uses ∧ c.uses ≤ 100) ∧ (0 ≤ c.til ∧ c.til ≤ 999)
abbrev Up (l : List Cp) : Prop := l.Pairwise fun a b => a.num < b.num
abbrev Up1 (l : List Int) : Prop := l.Pairwise fun a b => a < b
theorem VB_lt {l : List Cp} (h : VB l) : ∀ (j i : Nat) (a b : Cp), i < j → l[i]? = some a → l[j]? = some b → a.num < b.num
  | 0, i, a, b, hij, _, _ => by omega
  | j + 1, i, a, b, hij, ha, hb => by
    have hj : j + 1 < l.length := (List.getElem?_eq_some_iff.1 hb).1
    have hp : l[j]? = some l[j] := List.getElem?_eq_getElem (by omega)
    have h1 := (h (j + 1) hj b hb).2.2.2 l[j] (by omega) hp
    by_cases hij' : i = j
    · subst hij'; rw [hp] at ha; cases ha; exact h1
    · have := VB_lt h j i a l[j] (by omega) ha hp
      omega
theorem VB_iff (l : List Cp) : VB l ↔ (∀ c ∈ l, Bd c) ∧ Up l := by
  constructor
  · intro h
    refine ⟨fun c hc => ?_, List.pairwise_iff_getElem.2 fun i j hi hj hij => VB_lt h j i _ _ hij (List.getElem?_eq_getElem hi) (List.getElem?_eq_getElem hj)⟩
    obtain ⟨j, hj⟩ := List.mem_iff_getElem?.1 hc
    have := h j (List.getElem?_eq_some_iff.1 hj).1 c hj
    exact ⟨this.1, this.2.1, this.2.2.1⟩
  · rintro ⟨h1, h2⟩ j hj c hc
    have := h1 c (List.mem_of_getElem? hc)
    refine ⟨this.1, this.2.1, this.2.2, fun c' h0 hc' => ?_⟩
    have h3 := List.pairwise_iff_getElem.1 h2 (j - 1) j (by omega) hj (by omega)
    rw [(List.getElem?_eq_some_iff.1 hc).2, (List.getElem?_eq_some_iff.1 hc').2] at h3
    exact h3
theorem VB_ge {l : List Cp} (h : VB l) : ∀ (j : Nat) (a : Cp), l[j]? = some a → (j : Int) + 1 ≤ a.num
  | 0, a, ha => by
    have := (h 0 (List.getElem?_eq_some_iff.1 ha).1 a ha).1
    omega
  | j + 1, a, ha => by
    have hj : j + 1 < l.length := (List.getElem?_eq_some_iff.1 ha).1
    have hp : l[j]? = some l[j] := List.getElem?_eq_getElem (by omega)
    have h1 := (h (j + 1) hj a ha).2.2.2 l[j] (by omega) hp
    have h2 := VB_ge h j l[j] hp
    omega
theorem VB_len {l : List Cp} (h : VB l) : l.length ≤ 9 := by
  by_cases h0 : l.length = 0
  · omega
  · have hp : l[l.length - 1]? = some (l[l.length - 1]'(by omega)) := List.getElem?_eq_getElem (by omega)
    have h1 := VB_ge h _ _ hp
    have h2 := (h (l.length - 1) (by omega) _ hp).1
    omega
theorem Asc_lt {l : List Int} (h : Asc l) : ∀ (j i : Nat) (a b : Int), i < j → l[i]? = some a → l[j]? = some b → a < b
  | 0, i, a, b, hij, _, _ => by omega
  | j + 1, i, a, b, hij, ha, hb => by
    have hj : j + 1 < l.length := (List.getElem?_eq_some_iff.1 hb).1
    have hp : l[j]? = some l[j] := List.getElem?_eq_getElem (by omega)
    have h1 := h (j + 1) (by omega) hj l[j] b hp hb
    by_cases hij' : i = j
    · subst hij'; rw [hp] at ha; cases ha; exact h1
    · have := Asc_lt h j i a l[j] (by omega) ha hp
      omega
theorem Asc_iff (l : List Int) : Asc l ↔ Up1 l := by
  constructor
  · intro h
    exact List.pairwise_iff_getElem.2 fun i j hi hj hij => Asc_lt h j i _ _ hij (List.getElem?_eq_getElem hi) (List.getElem?_eq_getElem hj)
  · intro h j h0 hj a b ha hb
    have h3 := List.pairwise_iff_getElem.1 h (j - 1) j (by omega) hj (by omega)
    rw [(List.getElem?_eq_some_iff.1 hb).2, (List.getElem?_eq_some_iff.1 ha).2] at h3
    exact h3
theorem AllIn_iff (l : List Int) (lo hi : Int) : AllIn l lo hi ↔ ∀ a ∈ l, lo ≤ a ∧ a ≤ hi := by
  constructor
  · intro h a ha
    obtain ⟨j, hj⟩ := List.mem_iff_getElem?.1 ha
    exact h j (List.getElem?_eq_some_iff.1 hj).1 a hj
  · intro h j _ a ha
    exact h a (List.mem_of_getElem? ha)
/-- A place of a list of numbers of coupons is as it should be. -/
def coAt (l : List Int) (j : Nat) : Prop := ∀ c, l[j]? = some c → (1 ≤ c ∧ c ≤ 9) ∧ ∀ c', 0 < j → l[j-1]? = some c' → c' < c
theorem CO_at (l : List Int) : CO l ↔ l.length ≤ 3 ∧ ∀ j, j < l.length → coAt l j := by
  constructor
  · rintro ⟨h1, h2, h3⟩
    exact ⟨h1, fun j hj c hc => ⟨h3 j hj c hc, fun c' h0 hc' => h2 j h0 hj c' c hc' hc⟩⟩
  · rintro ⟨h1, h2⟩
    exact ⟨h1, fun j h0 hj a b ha hb => (h2 j hj b hb).2 a h0 ha, fun j hj a ha => (h2 j hj a ha).1⟩
/-- A list that ascends and is part of another one that ascends is taken out of it in order. -/
theorem up_sub : ∀ {B A : List Int}, Up1 A → Up1 B → (∀ x ∈ A, x ∈ B) → A.Sublist B
  | [], A, _, _, h => by
    cases A with
    | nil => exact List.Sublist.refl _
    | cons a A => exact absurd (h a (List.mem_cons_self)) (by simp)
  | b :: B, [], _, _, _ => List.nil_sublist _
  | b :: B, a :: A, hA, hB, h => by
    have hA' := List.pairwise_cons.1 hA
    have hB' := List.pairwise_cons.1 hB
    by_cases hab : a = b
    · subst hab
      refine (up_sub hA'.2 hB'.2 fun x hx => ?_).cons_cons _
      rcases List.mem_cons.1 (h x (List.mem_cons_of_mem _ hx)) with e | e
      · have := hA'.1 x hx; omega
      · exact e
    · refine (up_sub hA hB'.2 fun x hx => ?_).cons _
      have ha : a ∈ B := (List.mem_cons.1 (h a (List.mem_cons_self))).resolve_left hab
      have hba := hB'.1 a ha
      rcases List.mem_cons.1 (h x hx) with e | e
      · rcases List.mem_cons.1 hx with e2 | e2
        · omega
        · have := hA'.1 x e2; omega
      · exact e
def usab (day : Int) (c : Cp) : Bool := decide (0 < c.uses) && decide (day ≤ c.til)
def UN (l : List Cp) (day : Int) : List Int := (l.filter (usab day)).map (·.num)
theorem usab_true {day : Int} {c : Cp} : usab day c = true ↔ 0 < c.uses ∧ day ≤ c.til := by simp [usab]
theorem UN_yes {l : List Cp} {k : Nat} {c : Cp} {day : Int} (hc : l[k]? = some c) (h : 0 < c.uses ∧ day ≤ c.til) : UN (l.take (k + 1)) day = UN (l.take k) day ++ [c.num] := by
  simp [UN, List.take_add_one, hc, List.filter_append, usab_true.2 h]
theorem UN_no {l : List Cp} {k : Nat} {c : Cp} {day : Int} (hc : l[k]? = some c) (h : ¬ (0 < c.uses ∧ day ≤ c.til)) : UN (l.take (k + 1)) day = UN (l.take k) day := by
  have h' : ¬ usab day c = true := fun e => h (usab_true.1 e)
  simp [UN, List.take_add_one, hc, List.filter_append, h']
theorem UN_len (l : List Cp) (day : Int) : (UN l day).length ≤ l.length := by
  simp only [UN, List.length_map]; exact List.length_filter_le _ _
theorem mem_UN {l : List Cp} {day n : Int} : n ∈ UN l day ↔ ∃ c ∈ l, c.num = n ∧ (0 < c.uses ∧ day ≤ c.til) := by
  simp only [UN, List.mem_map, List.mem_filter, usab_true]
  constructor
  · rintro ⟨c, ⟨h1, h2⟩, h3⟩; exact ⟨c, h1, h3, h2⟩
  · rintro ⟨c, h1, h3, h2⟩; exact ⟨c, ⟨h1, h2⟩, h3⟩
theorem up_inj {l : List Cp} (h : Up l) {a b : Cp} (ha : a ∈ l) (hb : b ∈ l) (e : a.num = b.num) : a = b := by
  obtain ⟨i, hi⟩ := List.mem_iff_getElem?.1 ha
  obtain ⟨j, hj⟩ := List.mem_iff_getElem?.1 hb
  obtain ⟨i1, i2⟩ := List.getElem?_eq_some_iff.1 hi
  obtain ⟨j1, j2⟩ := List.getElem?_eq_some_iff.1 hj
  have h1 := List.pairwise_iff_getElem.1 h
  by_cases hij : i = j
  · subst hij; rw [← i2, ← j2]
  · by_cases hlt : i < j
    · have := h1 i j i1 j1 hlt
      rw [i2, j2] at this; omega
    · have := h1 j i j1 i1 (by omega)
      rw [i2, j2] at this; omega
theorem up_at {l : List Cp} (h : Up l) {i j : Nat} {a b : Cp} (ha : l[i]? = some a) (hb : l[j]? = some b) (e : a.num = b.num) : i = j := by
  obtain ⟨i1, i2⟩ := List.getElem?_eq_some_iff.1 ha
  obtain ⟨j1, j2⟩ := List.getElem?_eq_some_iff.1 hb
  have h1 := List.pairwise_iff_getElem.1 h
  by_cases hij : i = j
  · exact hij
  · by_cases hlt : i < j
    · have := h1 i j i1 j1 hlt
      rw [i2, j2] at this; omega
    · have := h1 j i j1 i1 (by omega)
      rw [i2, j2] at this; omega
theorem mem_UN_num {l : List Cp} {day : Int} (hV : VB l) {c : Cp} (hc : c ∈ l) : c.num ∈ UN l day ↔ (0 < c.uses ∧ day ≤ c.til) := by
  rw [mem_UN]
  constructor
  · rintro ⟨c', h1, h2, h3⟩
    have := up_inj ((VB_iff l).1 hV).2 h1 hc h2
    rwa [this] at h3
  · exact fun h => ⟨c, hc, rfl, h⟩
theorem UN_later {l : List Cp} {day n : Int} (h : n ∈ UN l (day + 20)) : n ∈ UN l day := by
  rw [mem_UN] at *
  obtain ⟨c, h1, h2, h3, h4⟩ := h
  exact ⟨c, h1, h2, h3, by omega⟩
/-! ### uses changed -/
def bump (ns : List Int) (ch : Int) (c : Cp) : Cp := if c.num ∈ ns then ⟨c.num, c.uses + ch, c.til⟩ else c
def chg (l : List Cp) (ns : List Int) (ch : Int) : List Cp := l.map (bump ns ch)
def fnd (l : List Cp) (ns : List Int) : Nat := (l.filter fun c => decide (c.num ∈ ns)).length
def Has (l : List Cp) (ns : List Int) : Prop := ∀ n ∈ ns, ∃ c ∈ l, c.num = n
theorem bump_num (ns : List Int) (ch : Int) (c : Cp) : (bump ns ch c).num = c.num := by unfold bump; split <;> rfl
theorem bump_til (ns : List Int) (ch : Int) (c : Cp) : (bump ns ch c).til = c.til := by unfold bump; split <;> rfl
theorem bump_in {ns : List Int} {ch : Int} {c : Cp} (h : c.num ∈ ns) : bump ns ch c = ⟨c.num, c.uses + ch, c.til⟩ := if_pos h
theorem bump_out {ns : List Int} {ch : Int} {c : Cp} (h : c.num ∉ ns) : bump ns ch c = c := if_neg h
theorem chg_len (l : List Cp) (ns : List Int) (ch : Int) : (chg l ns ch).length = l.length := by simp [chg]
theorem chg_at {l : List Cp} {ns : List Int} {ch : Int} {k : Nat} {c : Cp} (h : l[k]? = some c) : (chg l ns ch)[k]? = some (bump ns ch c) := by simp [chg, h]
theorem chg_back (l : List Cp) (ns : List Int) (a b : Int) (h : a + b = 0) : chg (chg l ns a) ns b = l := by
  unfold chg
  rw [List.map_map]
  conv => rhs; rw [← List.map_id l]
  apply List.map_congr_left
  intro c _
  show bump ns b (bump ns a c) = c
  by_cases hc : c.num ∈ ns
  · rw [bump_in hc]
    rw [bump_in (by exact hc)]
    show (⟨c.num, c.uses + a + b, c.til⟩ : Cp) = c
    have : c.uses + a + b = c.uses := by omega
    rw [this]
  · rw [bump_out hc, bump_out hc]
theorem Up_chg {l : List Cp} {ns : List Int} {ch : Int} (h : Up l) : Up (chg l ns ch) := by
  unfold Up chg
  rw [List.pairwise_map]
  simpa only [bump_num] using h
theorem VB_chg {l : List Cp} {ns : List Int} {ch : Int} (h : VB l) : VB (chg l ns ch) ↔ ∀ c ∈ l, c.num ∈ ns → 0 ≤ c.uses + ch ∧ c.uses + ch ≤ 100 := by
  have h' := (VB_iff l).1 h
  rw [VB_iff]
  constructor
  · rintro ⟨h1, _⟩ c hc hn
    have := h1 (bump ns ch c) (List.mem_map.2 ⟨c, hc, rfl⟩)
    rw [bump_in hn] at this
    exact this.2.1
  · intro h2
    refine ⟨fun c hc => ?_, Up_chg h'.2⟩
    obtain ⟨c', h3, rfl⟩ := List.mem_map.1 hc
    have hb := h'.1 c' h3
    by_cases hn : c'.num ∈ ns
    · rw [bump_in hn]; exact ⟨hb.1, h2 c' h3 hn, hb.2.2⟩
    · rw [bump_out hn]; exact hb
theorem fnd_has {l : List Cp} {ns : List Int} (h : Up l) (hn : Up1 ns) : fnd l ns = ns.length ↔ Has l ns := by
  have hA : Up1 ((l.filter fun c => decide (c.num ∈ ns)).map (·.num)) := by
    unfold Up1
    rw [List.pairwise_map]
    exact h.sublist List.filter_sublist
  have hs : ((l.filter fun c => decide (c.num ∈ ns)).map (·.num)).Sublist ns := up_sub hA hn fun x hx => by
    obtain ⟨c, hc, rfl⟩ := List.mem_map.1 hx
    simpa using (List.mem_filter.1 hc).2
  constructor
  · intro e n hnn
    have := hs.eq_of_length (by rw [List.length_map]; exact e)
    rw [← this] at hnn
    obtain ⟨c, hc, e2⟩ := List.mem_map.1 hnn
    exact ⟨c, (List.mem_filter.1 hc).1, e2⟩
  · intro hh
    have h2 := up_sub hn hA fun x hx => by
      obtain ⟨c, hc, e⟩ := hh x hx
      exact List.mem_map.2 ⟨c, List.mem_filter.2 ⟨hc, by simpa [e] using hx⟩, e⟩
    have h3 := h2.length_le
    have h4 := hs.length_le
    rw [List.length_map] at h3 h4
    unfold fnd
    omega
theorem Has_chg {l : List Cp} {ns : List Int} {ch : Int} : Has (chg l ns ch) ns ↔ Has l ns := by
  constructor
  · intro h n hn
    obtain ⟨c, hc, e⟩ := h n hn
    obtain ⟨c', h3, rfl⟩ := List.mem_map.1 hc
    exact ⟨c', h3, by rw [← e, bump_num]⟩
  · intro h n hn
    obtain ⟨c, hc, e⟩ := h n hn
    exact ⟨bump ns ch c, List.mem_map.2 ⟨c, hc, rfl⟩, by rw [bump_num, e]⟩
/-- the use of numbers goes -/
def UC (l : List Cp) (ns : List Int) (day : Int) : Prop := VB l ∧ CO ns ∧ (0 ≤ day ∧ day ≤ 999) ∧ ∀ n ∈ ns, n ∈ UN l day
/-- the return of numbers goes -/
def RC (l : List Cp) (ns : List Int) : Prop := VB l ∧ CO ns ∧ Has l ns ∧ VB (chg l ns 1)
theorem CO_up {ns : List Int} (h : CO ns) : Up1 ns := (Asc_iff ns).1 h.2.1
theorem UC_has {l : List Cp} {ns : List Int} {day : Int} (h : UC l ns day) : Has l ns := fun n hn => by
  obtain ⟨c, h1, h2, _⟩ := mem_UN.1 (h.2.2.2 n hn)
  exact ⟨c, h1, h2⟩
theorem UC_uses {l : List Cp} {ns : List Int} {day : Int} (h : UC l ns day) {c : Cp} (hc : c ∈ l) (hn : c.num ∈ ns) : 0 < c.uses ∧ day ≤ c.til := (mem_UN_num h.1 hc).1 (h.2.2.2 _ hn)
theorem UC_VB {l : List Cp} {ns : List Int} {day : Int} (h : UC l ns day) : VB (chg l ns (-1)) := (VB_chg h.1).2 fun c hc hn => by
  have h1 := UC_uses h hc hn
  have h2 := (((VB_iff l).1 h.1).1 c hc).2.1
  omega
theorem UC_RC {l : List Cp} {ns : List Int} {day : Int} (h : UC l ns day) : RC (chg l ns (-1)) ns :=
  ⟨UC_VB h, h.2.1, Has_chg.2 (UC_has h), by rw [chg_back l ns (-1) 1 (by omega)]; exact h.1⟩
theorem RC_UC {l : List Cp} {ns : List Int} (h : RC l ns) : UC (chg l ns 1) ns 0 := by
  refine ⟨h.2.2.2, h.2.1, ⟨by omega, by omega⟩, fun n hn => ?_⟩
  obtain ⟨c, hc, e⟩ := h.2.2.1 n hn
  rw [mem_UN]
  have hb := ((VB_iff l).1 h.1).1 c hc
  have hn' : c.num ∈ ns := by rw [e]; exact hn
  refine ⟨bump ns 1 c, List.mem_map.2 ⟨c, hc, rfl⟩, by rw [bump_num, e], ?_⟩
  rw [bump_in hn']
  exact ⟨by have := hb.2.1; show 0 < c.uses + 1; omega, hb.2.2.1⟩
theorem RC_iff {l : List Cp} {ns : List Int} : RC l ns ↔ VB l ∧ CO ns ∧ ∀ n ∈ ns, ∃ c ∈ l, c.num = n ∧ c.uses ≠ 100 := by
  constructor
  · rintro ⟨h1, h2, h3, h4⟩
    refine ⟨h1, h2, fun n hn => ?_⟩
    obtain ⟨c, hc, e⟩ := h3 n hn
    have := (VB_chg h1).1 h4 c hc (by rw [e]; exact hn)
    exact ⟨c, hc, e, by omega⟩
  · rintro ⟨h1, h2, h3⟩
    refine ⟨h1, h2, fun n hn => by obtain ⟨c, hc, e, _⟩ := h3 n hn; exact ⟨c, hc, e⟩, (VB_chg h1).2 fun c hc hn => ?_⟩
    obtain ⟨c', hc', e, h5⟩ := h3 _ hn
    have := up_inj ((VB_iff l).1 h1).2 hc' hc e
    subst this
    have := (((VB_iff l).1 h1).1 c' hc').2.1
    omega
def sumU (l : List Cp) : Int := (l.map (·.uses)).sum
theorem sumU_take {l : List Cp} {k : Nat} {c : Cp} (h : l[k]? = some c) : sumU (l.take (k + 1)) = sumU (l.take k) + c.uses := by
  simp [sumU, List.take_add_one, h]
theorem sumU_chg (ns : List Int) (ch : Int) : ∀ l : List Cp, sumU (chg l ns ch) = sumU l + ch * fnd l ns
  | [] => by simp [sumU, chg, fnd]
  | c :: l => by
    have ih := sumU_chg ns ch l
    unfold sumU chg fnd at *
    by_cases hn : c.num ∈ ns
    · simp only [List.map_cons, List.sum_cons, List.filter_cons, decide_eq_true hn, if_true, List.length_cons, ih, bump_in hn]
      have : ch * ((((l.filter fun c => decide (c.num ∈ ns)).length + 1 : Nat)) : Int) = ch * ((l.filter fun c => decide (c.num ∈ ns)).length : Int) + ch := by
        rw [Int.natCast_add, Int.mul_add]; simp
      rw [this]; omega
    · simp only [List.map_cons, List.sum_cons, List.filter_cons, decide_eq_false hn, ih, bump_out hn]
      simp only [Bool.false_eq_true, if_false]
      omega
/-! ### steps of loops -/
/-- the book after the first coupons are changed -/
def chgTo (l : List Cp) (ns : List Int) (ch : Int) (k : Nat) : List Cp := chg (l.take k) ns ch ++ l.drop k
theorem chgTo_len (l : List Cp) (ns : List Int) (ch : Int) (k : Nat) : (chgTo l ns ch k).length = l.length := by
  simp [chgTo, chg]; omega
theorem chgTo_zero (l : List Cp) (ns : List Int) (ch : Int) : chgTo l ns ch 0 = l := by simp [chgTo, chg]
theorem chgTo_end (l : List Cp) (ns : List Int) (ch : Int) : chgTo l ns ch l.length = chg l ns ch := by simp [chgTo]
theorem chgTo_at {l : List Cp} {ns : List Int} {ch : Int} {k : Nat} {c : Cp} (h : l[k]? = some c) : (chgTo l ns ch k)[k]? = some c := by
  have hlt := (List.getElem?_eq_some_iff.1 h).1
  have h1 : (chg (l.take k) ns ch).length = k := by simp [chg]; omega
  rw [chgTo, List.getElem?_append_right (by omega), h1, List.getElem?_drop]
  simpa using h
theorem chgTo_set {l : List Cp} {ns : List Int} {ch : Int} {k : Nat} {c : Cp} (h : l[k]? = some c) : (chgTo l ns ch k).set k (bump ns ch c) = chgTo l ns ch (k + 1) := by
  have hlt := (List.getElem?_eq_some_iff.1 h).1
  have h1 : (chg (l.take k) ns ch).length = k := by simp [chg]; omega
  have h2 : l.drop k = c :: l.drop (k + 1) := by rw [List.drop_eq_getElem_cons hlt, (List.getElem?_eq_some_iff.1 h).2]
  rw [chgTo, List.set_append_right _ _ (by omega), h1, h2]
  simp [chgTo, chg, List.take_add_one, h]
theorem chgTo_skip {l : List Cp} {ns : List Int} {ch : Int} {k : Nat} {c : Cp} (h : l[k]? = some c) (hn : c.num ∉ ns) : chgTo l ns ch (k + 1) = chgTo l ns ch k := by
  rw [← chgTo_set h, bump_out hn]
  have := chgTo_at (ns := ns) (ch := ch) h
  apply List.ext_getElem?; intro j; rw [List.getElem?_set]; by_cases hkj : k = j
  · subst hkj; rw [if_pos rfl, if_pos (List.getElem?_eq_some_iff.1 this).1, this]
  · rw [if_neg hkj]
theorem fnd_yes {l : List Cp} {ns : List Int} {k : Nat} {c : Cp} (h : l[k]? = some c) (hn : c.num ∈ ns) : fnd (l.take (k + 1)) ns = fnd (l.take k) ns + 1 := by
  simp [fnd, List.take_add_one, h, List.filter_append, hn]
theorem fnd_no {l : List Cp} {ns : List Int} {k : Nat} {c : Cp} (h : l[k]? = some c) (hn : c.num ∉ ns) : fnd (l.take (k + 1)) ns = fnd (l.take k) ns := by
  simp [fnd, List.take_add_one, h, List.filter_append, hn]
theorem fnd_le (l : List Cp) (ns : List Int) : fnd l ns ≤ l.length := List.length_filter_le _ _
theorem take_not_mem {ns : List Int} (hn : Up1 ns) {i : Nat} {n : Int} (h : ns[i]? = some n) : n ∉ ns.take i := fun hm => by
  obtain ⟨j, hj⟩ := List.mem_iff_getElem?.1 hm
  rw [List.getElem?_take] at hj
  split at hj
  · obtain ⟨i1, i2⟩ := List.getElem?_eq_some_iff.1 h
    obtain ⟨j1, j2⟩ := List.getElem?_eq_some_iff.1 hj
    have := List.pairwise_iff_getElem.1 hn j i j1 i1 (by omega)
    omega
  · cases hj
theorem chg_step {l : List Cp} {ns : List Int} {ch : Int} {i k : Nat} {n : Int} {c : Cp} (h : Up l) (hn : Up1 ns) (hi : ns[i]? = some n) (hk : l[k]? = some c) (hc : c.num = n) :
    (chg l (ns.take i) ch)[k]? = some c ∧ (chg l (ns.take i) ch).set k ⟨c.num, c.uses + ch, c.til⟩ = chg l (ns.take (i + 1)) ch := by
  have hnot := take_not_mem hn hi
  have h1 : bump (ns.take i) ch c = c := bump_out (by rw [hc]; exact hnot)
  have hat : (chg l (ns.take i) ch)[k]? = some c := by rw [chg_at hk, h1]
  refine ⟨hat, ?_⟩
  apply List.ext_getElem?
  intro j
  rw [List.getElem?_set]
  have hlk := (List.getElem?_eq_some_iff.1 hk).1
  have hmem : ∀ x, x ∈ ns.take (i + 1) ↔ x ∈ ns.take i ∨ x = n := fun x => by simp [List.take_add_one, hi]
  by_cases hkj : k = j
  · subst hkj
    rw [if_pos rfl, if_pos (by rw [chg_len]; exact hlk), chg_at hk, bump_in ((hmem _).2 (.inr hc))]
  · rw [if_neg hkj]
    cases hj : l[j]? with
    | none => simp [chg, hj]
    | some c' =>
      rw [chg_at hj, chg_at hj]
      have hne : c'.num ≠ n := fun e => hkj (up_at h hk hj (by rw [hc, e]))
      congr 1
      unfold bump
      by_cases hm : c'.num ∈ ns.take i
      · rw [if_pos hm, if_pos ((hmem _).2 (.inl hm))]
      · rw [if_neg hm, if_neg (fun e => ((hmem _).1 e).elim hm hne)]
end Go.Proofs.Ytgklapdlambdlaa
