/- Plain facts on the discounts of a rule. No condition beyond those that each theorem states. -/
import Derived.Test.YtbgfkhliideegaaGreatPAp
import Derived.Test.YtbgfkhliideegaaGreatPRu
namespace Go.Proofs.YtbgfkhliideegaaGreat
/-- a rule is meant for a line -/
def mnt (s : List Ar) (r : Ru) (l : Ln) : Prop := r.grp < 0 ∨ (arOf s l.art).grp = r.grp
instance (s : List Ar) (r : Ru) (l : Ln) : Decidable (mnt s r l) := by unfold mnt; infer_instance
def mtF (s : List Ar) (r : Ru) (l : Ln) (x : Int) : Int := if mnt s r l then x else 0
/-- what is left on the lines for which a rule is meant -/
def mts (s : List Ar) (c : List Ln) (r : Ru) (f : List Int) : List Int := List.zipWith (mtF s r) c f
/-- the wish of a rule for a line, of which x are left -/
def wsF (s : List Ar) (r : Ru) (l : Ln) (x : Int) : Int :=
  if mnt s r l then (if r.kind = 1 then x * r.val / 1000 else if r.kind = 3 then min x (l.cnt / r.val * (arOf s l.art).price) else 0) else 0
def wsZ (s : List Ar) (c : List Ln) (r : Ru) (f : List Int) : List Int := List.zipWith (wsF s r) c f
def wish (s : List Ar) (c : List Ln) (r : Ru) (f : List Int) : List Int :=
  if r.kind = 2 then apL (min r.val (mts s c r f).sum) (mts s c r f) else wsZ s c r f
def effL (s : List Ar) (c : List Ln) (r : Ru) (f : List Int) : List Int :=
  if 0 < r.cap ∧ r.cap < (wish s c r f).sum then apL r.cap (wish s c r f) else wish s c r f
/-- amounts that are left of a cart's lines -/
def VL (s : List Ar) (c : List Ln) (f : List Int) : Prop := f.length = c.length ∧ ∀ (k : Nat), k < f.length → ∀ x m, f[k]? = some x → (amts s c)[k]? = some m → 0 ≤ x ∧ x ≤ m
/-- the arguments of EffectOf as they should be -/
structure EfOk (s : List Ar) (c : List Ln) (r : Ru) (f : List Int) : Prop where
  sc : VSC s c
  ne : 1 ≤ c.length
  rule : VR r
  left : VL s c f
section
variable {s : List Ar} {c : List Ln} {r : Ru} {f : List Int}
theorem mts_len (h : f.length = c.length) : (mts s c r f).length = c.length := by simp [mts, h]
theorem wsZ_len (h : f.length = c.length) : (wsZ s c r f).length = c.length := by simp [wsZ, h]
theorem mts_at {k : Nat} {l : Ln} {x : Int} (hl : c[k]? = some l) (hx : f[k]? = some x) : (mts s c r f)[k]? = some (mtF s r l x) := by simp [mts, List.getElem?_zipWith, hl, hx]
theorem wsZ_at {k : Nat} {l : Ln} {x : Int} (hl : c[k]? = some l) (hx : f[k]? = some x) : (wsZ s c r f)[k]? = some (wsF s r l x) := by simp [wsZ, List.getElem?_zipWith, hl, hx]
/-- what is left of a line -/
theorem EfOk.at_ (h : EfOk s c r f) {k : Nat} {x : Int} (hx : f[k]? = some x) : ∃ l, c[k]? = some l ∧ 0 ≤ x ∧ x ≤ (arOf s l.art).price * l.cnt ∧ (arOf s l.art).price * l.cnt ≤ 100000 := by
  have hk := (List.getElem?_eq_some_iff.1 hx).1
  obtain ⟨l, hl⟩ : ∃ l, c[k]? = some l := ⟨_, List.getElem?_eq_getElem (by rw [← h.left.1]; exact hk)⟩
  have h1 := h.left.2 k hk x _ hx (amts_at hl)
  have h2 := amt_bd h.sc hl
  exact ⟨l, hl, h1.1, h1.2, h2.2⟩
theorem EfOk.at_x (h : EfOk s c r f) {k : Nat} {x : Int} (hx : f[k]? = some x) : 0 ≤ x ∧ x ≤ 100000 := by
  obtain ⟨_, _, h1, h2, h3⟩ := h.at_ hx
  omega
theorem mtF_bd {l : Ln} {x : Int} (h0 : 0 ≤ x) : 0 ≤ mtF s r l x ∧ mtF s r l x ≤ x := by
  unfold mtF; split <;> omega
theorem wsF_bd (h : EfOk s c r f) {k : Nat} {l : Ln} {x : Int} (hl : c[k]? = some l) (hx : f[k]? = some x) : 0 ≤ wsF s r l x ∧ wsF s r l x ≤ x ∧ (¬ mnt s r l → wsF s r l x = 0) := by
  have h1 := h.at_x hx
  obtain ⟨_, _, _, _, hok, hc1, hc2⟩ := line_ok h.sc hl
  obtain ⟨_, _, _, _, _, _, hk⟩ := h.rule
  unfold arOk at hok
  unfold kindOk at hk
  unfold wsF
  split
  · refine ⟨?_, ?_, fun h' => absurd ‹_› h'⟩
    all_goals split
    · exact Int.ediv_nonneg (Int.mul_nonneg h1.1 (by omega)) (by omega)
    · split
      · have h2 : 0 ≤ l.cnt / r.val := Int.ediv_nonneg (by omega) (by omega)
        have h3 : 0 ≤ l.cnt / r.val * (arOf s l.art).price := Int.mul_nonneg h2 (by omega)
        omega
      · omega
    · have h2 : x * r.val ≤ x * 1000 := Int.mul_le_mul_of_nonneg_left (by omega) h1.1
      have h3 := Int.ediv_le_ediv (show (0:Int) < 1000 by omega) h2
      rw [Int.mul_ediv_cancel _ (by omega)] at h3
      exact h3
    · split
      · omega
      · omega
  · exact ⟨by omega, by omega, fun _ => rfl⟩
theorem pair_at (hlen : f.length = c.length) {k : Nat} (hk : k < c.length) : ∃ l x, c[k]? = some l ∧ f[k]? = some x :=
  ⟨c[k], f[k]'(by omega), List.getElem?_eq_getElem hk, List.getElem?_eq_getElem (by omega)⟩
theorem mts_bd (h : EfOk s c r f) {k : Nat} {y : Int} (hy : (mts s c r f)[k]? = some y) : 0 ≤ y ∧ y ≤ 100000 := by
  have hk := (List.getElem?_eq_some_iff.1 hy).1
  rw [mts_len h.left.1] at hk
  obtain ⟨l, x, hl, hx⟩ := pair_at h.left.1 hk
  rw [mts_at hl hx] at hy
  cases hy
  have h1 := h.at_x hx
  have h2 := mtF_bd (s := s) (r := r) (l := l) h1.1
  omega
theorem wsZ_bd (h : EfOk s c r f) {k : Nat} {y : Int} (hy : (wsZ s c r f)[k]? = some y) : 0 ≤ y ∧ y ≤ 100000 := by
  have hk := (List.getElem?_eq_some_iff.1 hy).1
  rw [wsZ_len h.left.1] at hk
  obtain ⟨l, x, hl, hx⟩ := pair_at h.left.1 hk
  rw [wsZ_at hl hx] at hy
  cases hy
  have h1 := h.at_x hx
  have h2 := wsF_bd h hl hx
  omega
theorem EfOk.len (h : EfOk s c r f) : c.length ≤ 8 := h.sc.2.1
theorem mts_sum (h : EfOk s c r f) : 0 ≤ (mts s c r f).sum ∧ (mts s c r f).sum ≤ 800000 := by
  have h1 := sum_bd _ 0 100000 (at_all (p := fun x => 0 ≤ x ∧ x ≤ 100000) fun k y hy => mts_bd h hy)
  have h2 := h.len
  rw [mts_len h.left.1] at h1
  omega
/-- what an amount rule splits, and by what -/
theorem apIn_mts (h : EfOk s c r f) (hk : r.kind = 2) : ApIn (min r.val (mts s c r f).sum) (mts s c r f) := by
  have h1 := mts_sum h
  have h2 := h.len
  have h3 := h.ne
  obtain ⟨_, _, _, _, _, _, hv⟩ := h.rule
  unfold kindOk at hv
  exact ⟨by omega, by omega, by rw [mts_len h.left.1]; exact h3, by rw [mts_len h.left.1]; exact h2, fun k x hx => by have := mts_bd h hx; omega⟩
theorem wish_len (h : EfOk s c r f) : (wish s c r f).length = c.length := by
  unfold wish
  split
  · rw [apL_len (apIn_mts h ‹_›), mts_len h.left.1]
  · exact wsZ_len h.left.1
/-- a wish: at most what is left, and none where the rule is not meant -/
theorem wish_at (h : EfOk s c r f) {k : Nat} {l : Ln} {x y : Int} (hl : c[k]? = some l) (hx : f[k]? = some x) (hy : (wish s c r f)[k]? = some y) : 0 ≤ y ∧ y ≤ x ∧ (¬ mnt s r l → y = 0) := by
  unfold wish at hy
  split at hy
  · have h1 := apL_at (apIn_mts h ‹_›) (mts_at hl hx) hy
    have h2 := mtF_bd (s := s) (r := r) (l := l) (h.at_x hx).1
    have h3 := h1.2.2.2 (by omega)
    refine ⟨h1.1, by omega, fun hm => h1.2.2.1 ?_⟩
    unfold mtF; rw [if_neg hm]
  · rw [wsZ_at hl hx] at hy
    cases hy
    exact wsF_bd h hl hx
theorem wish_bd (h : EfOk s c r f) {k : Nat} {y : Int} (hy : (wish s c r f)[k]? = some y) : 0 ≤ y ∧ y ≤ 100000 := by
  have hk := (List.getElem?_eq_some_iff.1 hy).1
  rw [wish_len h] at hk
  obtain ⟨l, x, hl, hx⟩ := pair_at h.left.1 hk
  have h1 := h.at_x hx
  have h2 := wish_at h hl hx hy
  omega
theorem wish_sum (h : EfOk s c r f) : 0 ≤ (wish s c r f).sum ∧ (wish s c r f).sum ≤ 800000 := by
  have h1 := sum_bd _ 0 100000 (at_all (p := fun x => 0 ≤ x ∧ x ≤ 100000) fun k y hy => wish_bd h hy)
  have h2 := h.len
  rw [wish_len h] at h1
  omega
theorem apIn_wish (h : EfOk s c r f) : ApIn r.cap (wish s c r f) := by
  have h2 := h.len
  have h3 := h.ne
  obtain ⟨_, _, _, _, hc, _, _⟩ := h.rule
  exact ⟨hc.1, hc.2, by rw [wish_len h]; exact h3, by rw [wish_len h]; exact h2, fun k x hx => by have := wish_bd h hx; omega⟩
theorem effL_len (h : EfOk s c r f) : (effL s c r f).length = c.length := by
  unfold effL
  split
  · rw [apL_len (apIn_wish h), wish_len h]
  · exact wish_len h
theorem effL_at (h : EfOk s c r f) {k : Nat} {l : Ln} {x y : Int} (hl : c[k]? = some l) (hx : f[k]? = some x) (hy : (effL s c r f)[k]? = some y) : 0 ≤ y ∧ y ≤ x ∧ (¬ mnt s r l → y = 0) := by
  unfold effL at hy
  split at hy
  · have hk := (List.getElem?_eq_some_iff.1 hl).1
    obtain ⟨z, hz⟩ : ∃ z, (wish s c r f)[k]? = some z := ⟨_, List.getElem?_eq_getElem (by rw [wish_len h]; exact hk)⟩
    have h1 := apL_at (apIn_wish h) hz hy
    have h2 := wish_at h hl hx hz
    have h3 := h1.2.2.2 (by omega)
    exact ⟨h1.1, by omega, fun hm => h1.2.2.1 (h2.2.2 hm)⟩
  · exact wish_at h hl hx hy
theorem effL_bd (h : EfOk s c r f) {k : Nat} {y : Int} (hy : (effL s c r f)[k]? = some y) : 0 ≤ y ∧ y ≤ 100000 := by
  have hk := (List.getElem?_eq_some_iff.1 hy).1
  rw [effL_len h] at hk
  obtain ⟨l, x, hl, hx⟩ := pair_at h.left.1 hk
  have h1 := h.at_x hx
  have h2 := effL_at h hl hx hy
  omega
theorem effL_sum (h : EfOk s c r f) : 0 ≤ (effL s c r f).sum ∧ (effL s c r f).sum ≤ 800000 := by
  have h1 := sum_bd _ 0 100000 (at_all (p := fun x => 0 ≤ x ∧ x ≤ 100000) fun k y hy => effL_bd h hy)
  have h2 := h.len
  rw [effL_len h] at h1
  omega
/-- a cap is kept -/
theorem effL_cap (h : EfOk s c r f) : (r.cap = 0 ∨ (effL s c r f).sum ≤ r.cap) := by
  by_cases h0 : r.cap = 0
  · exact .inl h0
  · refine .inr ?_
    obtain ⟨_, _, _, _, hc, _, _⟩ := h.rule
    unfold effL
    split
    · rw [apL_sum (apIn_wish h)]; split <;> omega
    · omega
/-- rules that differ in their caps alone -/
def capR (r : Ru) (n : Int) : Ru := { r with cap := n }
theorem wish_capR (n : Int) : wish s c (capR r n) f = wish s c r f := rfl
theorem effL_same (h : EfOk s c r f) (h0 : (effL s c r f).sum ≠ 0) : effL s c (capR r (effL s c r f).sum) f = effL s c r f := by
  have hn : (effL s c (capR r (effL s c r f).sum) f) = if 0 < (effL s c r f).sum ∧ (effL s c r f).sum < (wish s c r f).sum then apL (effL s c r f).sum (wish s c r f) else wish s c r f := rfl
  rw [hn]
  have hs := effL_sum h
  by_cases hc : 0 < r.cap ∧ r.cap < (wish s c r f).sum
  · have e : effL s c r f = apL r.cap (wish s c r f) := by unfold effL; rw [if_pos hc]
    have e2 : (effL s c r f).sum = r.cap := by
      rw [e, apL_sum (apIn_wish h), if_neg (by omega)]
    rw [e2, if_pos hc, e]
  · have e : effL s c r f = wish s c r f := by unfold effL; rw [if_neg hc]
    rw [e, if_neg (by omega)]
theorem VR_capR {n : Int} (h : VR r) (h0 : 0 ≤ n) (h1 : n ≤ 1000000) : VR (capR r n) := by
  obtain ⟨a1, a2, a3, a4, _, a6, a7⟩ := h
  exact ⟨a1, a2, a3, a4, ⟨h0, h1⟩, a6, a7⟩
theorem EfOk.capR (h : EfOk s c r f) {n : Int} (h0 : 0 ≤ n) (h1 : n ≤ 1000000) : EfOk s c (capR r n) f := ⟨h.sc, h.ne, VR_capR h.rule h0 h1, h.left⟩
/-- of nothing nothing is taken -/
theorem VL_zero (h : EfOk s c r f) : VL s c (List.replicate f.length 0) := by
  refine ⟨by simp [h.left.1], fun k hk x m hx hm => ?_⟩
  have h1 := (List.getElem?_eq_some_iff.1 hx).2
  simp at h1
  have h2 := amts_bd h.sc m (List.mem_of_getElem? hm)
  omega
theorem EfOk.zero (h : EfOk s c r f) : EfOk s c r (List.replicate f.length 0) := ⟨h.sc, h.ne, h.rule, VL_zero h⟩
theorem effL_zero (h : EfOk s c r f) : (effL s c r (List.replicate f.length 0)).sum = 0 := by
  have h' := h.zero
  have : (effL s c r (List.replicate f.length 0)).sum ≤ (List.replicate f.length (0 : Int)).sum := by
    refine sum_le _ _ (by rw [effL_len h']; simp [h.left.1]) fun k y x hy hx => ?_
    have hk := (List.getElem?_eq_some_iff.1 hy).1
    rw [effL_len h'] at hk
    exact (effL_at h' (List.getElem?_eq_getElem hk) hx hy).2.1
  rw [sum_zero] at this
  have := (effL_sum h').1
  omega
/-- rules that differ in their groups and caps alone -/
def grpR (r : Ru) (g : Int) : Ru := { r with grp := g, cap := 0 }
theorem VR_grpR {g : Int} (h : VR r) (h0 : -1 ≤ g) (h1 : g ≤ 2) : VR (grpR r g) := by
  obtain ⟨a1, a2, a3, _, _, a6, a7⟩ := h
  exact ⟨a1, a2, a3, ⟨h0, h1⟩, ⟨by simp [grpR], by simp [grpR]⟩, a6, a7⟩
theorem EfOk.grpR (h : EfOk s c r f) {g : Int} (h0 : -1 ≤ g) (h1 : g ≤ 2) : EfOk s c (grpR r g) f := ⟨h.sc, h.ne, VR_grpR h.rule h0 h1, h.left⟩
theorem effL_grp {g : Int} (hk : r.kind ≠ 2) : effL s c (grpR r g) f = wsZ s c (grpR r g) f := by
  unfold effL
  rw [if_neg (by simp [grpR])]
  unfold wish
  rw [if_neg (by simpa [grpR] using hk)]
theorem grp_sums : ∀ (c : List Ln) (f : List Int), (∀ l ∈ c, (arOf s l.art).grp = 0 ∨ (arOf s l.art).grp = 1 ∨ (arOf s l.art).grp = 2) →
    (wsZ s c (grpR r 0) f).sum + (wsZ s c (grpR r 1) f).sum + (wsZ s c (grpR r 2) f).sum = (wsZ s c (grpR r (-1)) f).sum
  | [], f, _ => by simp [wsZ]
  | _ :: _, [], _ => by simp [wsZ]
  | l :: c, x :: f, h => by
    have ih := grp_sums c f fun y hy => h y (List.mem_cons_of_mem _ hy)
    have hl := h l (List.mem_cons_self)
    have e : ∀ g, (wsZ s (l :: c) (grpR r g) (x :: f)).sum = wsF s (grpR r g) l x + (wsZ s c (grpR r g) f).sum := fun g => by simp [wsZ]
    rw [e, e, e, e]
    have e2 : wsF s (grpR r 0) l x + wsF s (grpR r 1) l x + wsF s (grpR r 2) l x = wsF s (grpR r (-1)) l x := by
      simp only [wsF, mnt, grpR]
      rcases hl with hl | hl | hl <;> simp [hl] <;> rfl
    omega
theorem EfOk.groups (h : EfOk s c r f) : ∀ l ∈ c, (arOf s l.art).grp = 0 ∨ (arOf s l.art).grp = 1 ∨ (arOf s l.art).grp = 2 := fun l hl => by
  obtain ⟨k, hk⟩ := List.mem_iff_getElem?.1 hl
  obtain ⟨_, _, _, _, hok, _⟩ := line_ok h.sc hk
  unfold arOk at hok
  omega
/-- an amount rule without a cap takes its value, or what is left -/
theorem effL_amount (h : EfOk s c r f) (hk : r.kind = 2) (h0 : ¬ 0 < r.cap) : (effL s c r f).sum = min (mts s c r f).sum r.val := by
  unfold effL
  rw [if_neg (by omega)]
  unfold wish
  rw [if_pos hk, apL_sum (apIn_mts h hk)]
  have h1 := mts_sum h
  obtain ⟨_, _, _, _, _, _, hv⟩ := h.rule
  unfold kindOk at hv
  split <;> omega
/-- the others without a cap go line by line -/
theorem effL_line (hk : r.kind ≠ 2) (h0 : ¬ 0 < r.cap) : effL s c r f = wsZ s c r f := by
  unfold effL
  rw [if_neg (by omega)]
  unfold wish
  rw [if_neg hk]
end
end Go.Proofs.YtbgfkhliideegaaGreat
