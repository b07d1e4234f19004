/- Plain facts on receipts. No condition beyond those that each theorem states. -/
import Derived.Test.YtbgfkhliideegaaGreatPEf
import Derived.Test.YtbgfkhliideegaaGreatPOr
namespace Go.Proofs.YtbgfkhliideegaaGreat
structure Nt where
  line : Int
  rule : Int
  amt : Int
instance : Enc Nt := ⟨3, fun x => [.int .i64 x.line, .int .i64 x.rule, .int .i64 x.amt], fun _ => rfl, by omega, fun _ v hv => by simp at hv; rcases hv with rfl | rfl | rfl <;> rfl⟩
/-- amounts without discounts -/
def subL (f e : List Int) : List Int := List.zipWith (fun x y => x - y) f e
/-- the notes of discounts, the first one on line i -/
def nts (num : Int) : Nat → List Int → List Nt
  | _, [] => []
  | i, x :: xs => if 0 < x then ⟨(i : Int), num, x⟩ :: nts num (i + 1) xs else nts num (i + 1) xs
theorem nts_app (num : Int) : ∀ (a b : List Int) (i : Nat), nts num i (a ++ b) = nts num i a ++ nts num (i + a.length) b
  | [], b, i => by simp [nts]
  | x :: a, b, i => by
    have ih := nts_app num a b (i + 1)
    simp only [List.cons_append, nts, List.length_cons]
    rw [ih, show i + 1 + a.length = i + (a.length + 1) by omega]
    split <;> rfl
theorem nts_take_yes (num : Int) {e : List Int} {k : Nat} {x : Int} (h : e[k]? = some x) (hx : 0 < x) : nts num 0 (e.take (k + 1)) = nts num 0 (e.take k) ++ [⟨(k : Int), num, x⟩] := by
  have hk := (List.getElem?_eq_some_iff.1 h).1
  have h1 : e.take (k + 1) = e.take k ++ [x] := by rw [List.take_add_one, h]; rfl
  rw [h1, nts_app, List.length_take, show 0 + min k e.length = k by omega]
  simp [nts, hx]
theorem nts_take_no (num : Int) {e : List Int} {k : Nat} {x : Int} (h : e[k]? = some x) (hx : ¬ 0 < x) : nts num 0 (e.take (k + 1)) = nts num 0 (e.take k) := by
  have hk := (List.getElem?_eq_some_iff.1 h).1
  have h1 : e.take (k + 1) = e.take k ++ [x] := by rw [List.take_add_one, h]; rfl
  rw [h1, nts_app, List.length_take, show 0 + min k e.length = k by omega]
  simp [nts, hx]
theorem nts_len (num : Int) : ∀ (e : List Int) (i : Nat), (nts num i e).length ≤ e.length
  | [], i => by simp [nts]
  | x :: e, i => by
    have ih := nts_len num e (i + 1)
    simp only [nts, List.length_cons]
    split
    · simp only [List.length_cons]; omega
    · omega
theorem nts_mem (num : Int) : ∀ (e : List Int) (i : Nat) (n : Nt), n ∈ nts num i e → n.rule = num ∧ 0 < n.amt ∧ ∃ k : Nat, n.line = ((i + k : Nat) : Int) ∧ e[k]? = some n.amt
  | [], i, n, h => by simp [nts] at h
  | x :: e, i, n, h => by
    simp only [nts] at h
    have ih := nts_mem num e (i + 1) n
    split at h
    · rcases List.mem_cons.1 h with rfl | h
      · exact ⟨rfl, by assumption, 0, rfl, rfl⟩
      · obtain ⟨h1, h2, k, h3, h4⟩ := ih h
        exact ⟨h1, h2, k + 1, by rw [h3]; congr 1; omega, h4⟩
    · obtain ⟨h1, h2, k, h3, h4⟩ := ih h
      exact ⟨h1, h2, k + 1, by rw [h3]; congr 1; omega, h4⟩
/-- a guard holds at a point -/
def holdB (g : Gd) (t : Int) (l1 l2 : List Int) : Bool := decide (g.tot.lo ≤ t ∧ t ≤ g.tot.hi) && (List.zipWith (fun (s : Sp) x => decide (s.lo ≤ x ∧ x ≤ s.hi)) g.cs l1).all id && (decide (g.cp = 0) || decide (g.cp ∈ l2))
theorem zip_all : ∀ (cs : List Sp) (l : List Int), (List.zipWith (fun (s : Sp) x => decide (s.lo ≤ x ∧ x ≤ s.hi)) cs l).all id = true ↔ ∀ (j : Nat) (s : Sp) (x : Int), cs[j]? = some s → l[j]? = some x → s.lo ≤ x ∧ x ≤ s.hi
  | [], l => by simp
  | s :: cs, [] => by simp
  | s :: cs, y :: l => by
    have ih := zip_all cs l
    simp only [List.zipWith_cons_cons, List.all_cons, Bool.and_eq_true, id_eq, decide_eq_true_eq]
    rw [ih]
    constructor
    · rintro ⟨h1, h2⟩ j s' x' hs hx
      cases j with
      | zero => simp at hs hx; subst hs hx; exact h1
      | succ j => exact h2 j s' x' (by simpa using hs) (by simpa using hx)
    · intro h
      exact ⟨h 0 s y rfl rfl, fun j s' x' hs hx => h (j + 1) s' x' (by simpa using hs) (by simpa using hx)⟩
def Holds1 (g : Gd) (t : Int) (l1 l2 : List Int) : Prop := (g.tot.lo ≤ t ∧ t ≤ g.tot.hi) ∧ (∀ (j : Nat) (s : Sp) (x : Int), g.cs[j]? = some s → l1[j]? = some x → s.lo ≤ x ∧ x ≤ s.hi) ∧ (g.cp = 0 ∨ g.cp ∈ l2)
theorem holdB_iff (g : Gd) (t : Int) (l1 l2 : List Int) : Holds1 g t l1 l2 ↔ holdB g t l1 l2 = true := by
  unfold holdB Holds1
  simp only [Bool.and_eq_true, Bool.or_eq_true, decide_eq_true_eq]
  rw [zip_all]
  exact ⟨fun ⟨h1, h2, h3⟩ => ⟨⟨h1, h2⟩, h3⟩, fun ⟨⟨h1, h2⟩, h3⟩ => ⟨h1, h2, h3⟩⟩
/-! ## a receipt, rule by rule -/
abbrev RcS := List Int × List Nt
def rcStep (s : List Ar) (c : List Ln) (cp : List Int) (st : RcS) (r : Ru) : RcS :=
  if holdB r.g (amts s c).sum (gcs s c) cp then (subL st.1 (effL s c r st.1), st.2 ++ nts r.num 0 (effL s c r st.1)) else st
def rcp (s : List Ar) (c : List Ln) (cp : List Int) (l : List Ru) : RcS := l.foldl (rcStep s c cp) (amts s c, [])
def RcOk (s : List Ar) (c : List Ln) (cp : List Int) (rs : List Ru) : Prop := VSC s c ∧ CO cp ∧ Clear rs
theorem rcp_take {s : List Ar} {c : List Ln} {cp : List Int} {l : List Ru} {k : Nat} {r : Ru} (h : l[k]? = some r) : rcp s c cp (l.take (k + 1)) = rcStep s c cp (rcp s c cp (l.take k)) r := by
  have h1 : l.take (k + 1) = l.take k ++ [r] := by rw [List.take_add_one, h]; rfl
  unfold rcp
  rw [h1, List.foldl_append]; rfl
theorem effL_nil (s : List Ar) (r : Ru) (f : List Int) : effL s [] r f = [] := by
  have h1 : mts s [] r f = [] := by simp [mts]
  have h2 : wsZ s [] r f = [] := by simp [wsZ]
  have h3 : wish s [] r f = [] := by
    unfold wish
    rw [h1, h2]
    split
    · simp [apL]
    · rfl
  unfold effL
  rw [h3]
  split
  · simp [apL]
  · rfl
theorem subL_len {f e : List Int} (h : e.length = f.length) : (subL f e).length = f.length := by simp [subL, h]
theorem subL_at {f e : List Int} {k : Nat} {x y : Int} (hx : f[k]? = some x) (hy : e[k]? = some y) : (subL f e)[k]? = some (x - y) := by simp [subL, List.getElem?_zipWith, hx, hy]
theorem VL_amts {s : List Ar} {c : List Ln} (h : VSC s c) : VL s c (amts s c) := ⟨amts_len s c, fun k hk x m hx hm => by
  rw [hx] at hm; cases hm
  exact ⟨(amts_bd h x (List.mem_of_getElem? hx)).1, Int.le_refl _⟩⟩
/-- what a rule takes off leaves amounts that are as they should be -/
theorem VL_step {s : List Ar} {c : List Ln} {r : Ru} {f : List Int} (hs : VSC s c) (hr : VR r) (h : VL s c f) : VL s c (subL f (effL s c r f)) ∧ (effL s c r f).length = c.length := by
  by_cases hc : c = []
  · subst hc
    have hf : f = [] := List.length_eq_zero_iff.1 h.1
    subst hf
    rw [effL_nil]
    exact ⟨h, rfl⟩
  · have hne : 1 ≤ c.length := by
      rcases c with _ | ⟨a, c⟩
      · exact absurd rfl hc
      · simp
    have hE : EfOk s c r f := ⟨hs, hne, hr, h⟩
    have hel := effL_len hE
    refine ⟨⟨by rw [subL_len (by rw [hel, h.1]), h.1], fun k hk x m hx hm => ?_⟩, hel⟩
    rw [subL_len (by rw [hel, h.1])] at hk
    obtain ⟨y, hy⟩ : ∃ y, f[k]? = some y := ⟨_, List.getElem?_eq_getElem hk⟩
    obtain ⟨z, hz⟩ : ∃ y, (effL s c r f)[k]? = some y := ⟨_, List.getElem?_eq_getElem (by rw [hel, ← h.1]; exact hk)⟩
    obtain ⟨l, hl⟩ : ∃ y, c[k]? = some y := ⟨_, List.getElem?_eq_getElem (by rw [← h.1]; exact hk)⟩
    rw [subL_at hy hz] at hx
    cases hx
    have h1 := effL_at hE hl hy hz
    have h2 := h.2 k hk y m hy hm
    omega
theorem VL_rcp {s : List Ar} {c : List Ln} {cp : List Int} (hs : VSC s c) : ∀ (l : List Ru) (st : RcS), (∀ r ∈ l, VR r) → VL s c st.1 → VL s c (l.foldl (rcStep s c cp) st).1
  | [], st, _, h => h
  | r :: l, st, hl, h => by
    refine VL_rcp hs l _ (fun x hx => hl x (List.mem_cons_of_mem _ hx)) ?_
    unfold rcStep
    split
    · exact (VL_step hs (hl r (List.mem_cons_self)) h).1
    · exact h
theorem rcp_VL {s : List Ar} {c : List Ln} {cp : List Int} {l : List Ru} (hs : VSC s c) (hl : ∀ r ∈ l, VR r) : VL s c (rcp s c cp l).1 := VL_rcp hs l _ hl (VL_amts hs)
theorem rcp_notes {s : List Ar} {c : List Ln} {cp : List Int} (hs : VSC s c) : ∀ (l : List Ru) (st : RcS), (∀ r ∈ l, VR r) → VL s c st.1 → (l.foldl (rcStep s c cp) st).2.length ≤ st.2.length + 8 * l.length
  | [], st, _, _ => by simp
  | r :: l, st, hl, h => by
    have hv := VL_step hs (hl r (List.mem_cons_self)) h
    have hc8 := hs.2.1
    have h1 : VL s c (rcStep s c cp st r).1 ∧ (rcStep s c cp st r).2.length ≤ st.2.length + 8 := by
      unfold rcStep
      split
      · refine ⟨hv.1, ?_⟩
        have := nts_len r.num (effL s c r st.1) 0
        simp only [List.length_append]
        omega
      · exact ⟨h, by omega⟩
    have ih := rcp_notes (cp := cp) hs l (rcStep s c cp st r) (fun x hx => hl x (List.mem_cons_of_mem _ hx)) h1.1
    simp only [List.foldl_cons, List.length_cons]
    omega
def gS (f : Nt → Int) (ns : List Nt) : Int := (ns.map f).sum
theorem gS_nil (f : Nt → Int) : gS f [] = 0 := rfl
theorem gS_cons (f : Nt → Int) (n : Nt) (ns : List Nt) : gS f (n :: ns) = f n + gS f ns := by simp [gS]
theorem gS_app (f : Nt → Int) (a b : List Nt) : gS f (a ++ b) = gS f a + gS f b := by simp only [gS, List.map_append]; exact sum_app _ _
theorem gS_take (f : Nt → Int) {ns : List Nt} {k : Nat} {n : Nt} (h : ns[k]? = some n) : gS f (ns.take (k + 1)) = gS f (ns.take k) + f n := by
  have h1 : ns.take (k + 1) = ns.take k ++ [n] := by rw [List.take_add_one, h]; rfl
  rw [h1, gS_app, gS_cons, gS_nil]; omega
theorem gS_zero (f : Nt → Int) : ∀ ns : List Nt, (∀ n ∈ ns, f n = 0) → gS f ns = 0
  | [], _ => rfl
  | n :: ns, h => by rw [gS_cons, h n (List.mem_cons_self), gS_zero f ns (fun x hx => h x (List.mem_cons_of_mem _ hx))]; rfl
theorem gS_nonneg (f : Nt → Int) : ∀ ns : List Nt, (∀ n ∈ ns, 0 ≤ f n) → 0 ≤ gS f ns
  | [], _ => Int.le_refl _
  | n :: ns, h => by
    rw [gS_cons]
    have h1 := h n (List.mem_cons_self)
    have h2 := gS_nonneg f ns (fun x hx => h x (List.mem_cons_of_mem _ hx))
    omega
theorem gS_le (f g : Nt → Int) : ∀ ns : List Nt, (∀ n ∈ ns, f n ≤ g n) → gS f ns ≤ gS g ns
  | [], _ => Int.le_refl _
  | n :: ns, h => by
    rw [gS_cons, gS_cons]
    have h1 := h n (List.mem_cons_self)
    have h2 := gS_le f g ns (fun x hx => h x (List.mem_cons_of_mem _ hx))
    omega
def amF : Nt → Int := Nt.amt
def lnF (k : Nat) : Nt → Int := fun n => if n.line = (k : Int) then n.amt else 0
def ruF (m : Int) : Nt → Int := fun n => if n.rule = m then n.amt else 0
theorem nts_am (num : Int) : ∀ (e : List Int) (i : Nat), (∀ x ∈ e, 0 ≤ x) → gS amF (nts num i e) = e.sum
  | [], _, _ => rfl
  | x :: e, i, h => by
    have h1 := h x (List.mem_cons_self)
    have ih := nts_am num e (i + 1) (fun y hy => h y (List.mem_cons_of_mem _ hy))
    simp only [nts, List.sum_cons]
    split
    · rw [gS_cons, ih]; rfl
    · rw [ih]; omega
theorem nts_ln_lt (num : Int) : ∀ (e : List Int) (i k : Nat), k < i → gS (lnF k) (nts num i e) = 0 := fun e i k h => gS_zero _ _ fun n hn => by
  obtain ⟨_, _, j, h3, _⟩ := nts_mem num e i n hn
  unfold lnF
  rw [if_neg (by rw [h3]; omega)]
theorem nts_ln (num : Int) : ∀ (e : List Int) (i k : Nat), (∀ x ∈ e, 0 ≤ x) → gS (lnF (i + k)) (nts num i e) = e.getD k 0
  | [], _, _, _ => by simp [nts, gS]
  | x :: e, i, k, h => by
    have h1 := h x (List.mem_cons_self)
    have h' : ∀ y ∈ e, 0 ≤ y := fun y hy => h y (List.mem_cons_of_mem _ hy)
    cases k with
    | zero =>
      have h0 := nts_ln_lt num e (i + 1) i (by omega)
      simp only [nts, Nat.add_zero, List.getD_cons_zero]
      split
      · rw [gS_cons, h0]; simp [lnF]
      · rw [h0]; omega
    | succ k =>
      have ih := nts_ln num e (i + 1) k h'
      rw [show i + 1 + k = i + (k + 1) by omega] at ih
      simp only [nts, List.getD_cons_succ]
      split
      · rw [gS_cons, ih]
        have : lnF (i + (k + 1)) ⟨(i : Int), num, x⟩ = 0 := by unfold lnF; rw [if_neg (by dsimp only; omega)]
        omega
      · exact ih
theorem nts_ru (num : Int) (e : List Int) (i : Nat) (h : ∀ x ∈ e, 0 ≤ x) : gS (ruF num) (nts num i e) = e.sum := by
  rw [← nts_am num e i h]
  unfold gS
  congr 1
  apply List.map_congr_left
  intro n hn
  unfold ruF amF
  rw [if_pos (nts_mem num e i n hn).1]
theorem nts_ru_ne {num m : Int} (hm : num ≠ m) (e : List Int) (i : Nat) : gS (ruF m) (nts num i e) = 0 := gS_zero _ _ fun n hn => by
  unfold ruF
  rw [if_neg (by rw [(nts_mem num e i n hn).1]; exact hm)]
theorem nts_up (num : Int) : ∀ (e : List Int) (i : Nat), (nts num i e).Pairwise fun a b => a.line < b.line
  | [], _ => List.Pairwise.nil
  | x :: e, i => by
    have ih := nts_up num e (i + 1)
    simp only [nts]
    split
    · refine List.Pairwise.cons (fun n hn => ?_) ih
      obtain ⟨_, _, j, h3, _⟩ := nts_mem num e (i + 1) n hn
      rw [h3]; dsimp only; omega
    · exact ih
theorem subL_sum : ∀ (f e : List Int), e.length = f.length → (subL f e).sum = f.sum - e.sum
  | [], [], _ => rfl
  | x :: f, y :: e, h => by
    have ih := subL_sum f e (by simpa using h)
    have : subL (x :: f) (y :: e) = (x - y) :: subL f e := rfl
    rw [this, List.sum_cons, ih, List.sum_cons, List.sum_cons]; omega
  | [], y :: e, h => by simp at h
  | x :: f, [], h => by simp at h
section
variable {s : List Ar} {c : List Ln} {cp : List Int}
theorem eff_g {r : Ru} {f : List Int} (hs : VSC s c) (hr : VR r) (h : VL s c f) : (effL s c r f).length = c.length ∧ (∀ x ∈ effL s c r f, 0 ≤ x ∧ x ≤ 100000) ∧ (∀ (k : Nat) x y, f[k]? = some x → (effL s c r f)[k]? = some y → y ≤ x) ∧ (r.cap = 0 ∨ (effL s c r f).sum ≤ r.cap) := by
  by_cases hc : c = []
  · subst hc
    rw [effL_nil]
    have hr1 := hr.2.2.2.2.1
    exact ⟨rfl, fun x hx => (by cases hx), fun k x y _ hy => (by simp at hy), .inr (by simpa using hr1.1)⟩
  · have hne : 1 ≤ c.length := by
      rcases c with _ | ⟨a, c⟩
      · exact absurd rfl hc
      · simp
    have hE : EfOk s c r f := ⟨hs, hne, hr, h⟩
    refine ⟨effL_len hE, at_all fun k x hx => effL_bd hE hx, fun k x y hx hy => ?_, effL_cap hE⟩
    obtain ⟨l, hl⟩ : ∃ y, c[k]? = some y := ⟨_, List.getElem?_eq_getElem (by rw [← h.1]; exact (List.getElem?_eq_some_iff.1 hx).1)⟩
    exact (effL_at hE hl hx hy).2.1
abbrev hold1 (s : List Ar) (c : List Ln) (cp : List Int) (r : Ru) : Bool := holdB r.g (amts s c).sum (gcs s c) cp
theorem rcp_ind (hs : VSC s c) {S : List Ru} (hS : ∀ r ∈ S, VR r) (P : Nat → RcS → Prop) (h0 : P 0 (amts s c, []))
    (h1 : ∀ (k : Nat) (r : Ru) (st : RcS), S[k]? = some r → VR r → VL s c st.1 → P k st → P (k + 1) (rcStep s c cp st r)) : ∀ k : Nat, k ≤ S.length → P k (rcp s c cp (S.take k))
  | 0, _ => h0
  | k + 1, h => by
    obtain ⟨r, hr⟩ : ∃ y, S[k]? = some y := ⟨_, List.getElem?_eq_getElem (by omega)⟩
    rw [rcp_take hr]
    exact h1 k r _ hr (hS r (List.mem_of_getElem? hr)) (rcp_VL hs fun x hx => hS x (List.mem_of_mem_take hx)) (rcp_ind hs hS P h0 h1 k (by omega))
theorem rcp_all (hs : VSC s c) {S : List Ru} (hS : ∀ r ∈ S, VR r) (P : Nat → RcS → Prop) (h0 : P 0 (amts s c, []))
    (h1 : ∀ (k : Nat) (r : Ru) (st : RcS), S[k]? = some r → VR r → VL s c st.1 → P k st → P (k + 1) (rcStep s c cp st r)) : P S.length (rcp s c cp S) := by
  have := rcp_ind hs hS P h0 h1 S.length (Nat.le_refl _)
  rwa [List.take_length] at this
/-- what is left on a line and the notes on it are the line's amount -/
theorem rcp_line (hs : VSC s c) {S : List Ru} (hS : ∀ r ∈ S, VR r) : ∀ (j : Nat) (x m : Int), (rcp s c cp S).1[j]? = some x → (amts s c)[j]? = some m → x + gS (lnF j) (rcp s c cp S).2 = m := by
  refine rcp_all hs hS (fun _ st => ∀ (j : Nat) (x m : Int), st.1[j]? = some x → (amts s c)[j]? = some m → x + gS (lnF j) st.2 = m) (fun j x m h1 h2 => ?_) (fun k r st _ hr hv ih j x m h1 h2 => ?_)
  · dsimp only at h1 ⊢
    rw [h1] at h2; cases h2
    rw [gS_nil]; omega
  · obtain ⟨e1, e2, _, _⟩ := eff_g hs hr hv
    unfold rcStep at h1 ⊢
    split at h1
    · rename_i hh
      rw [if_pos hh]
      dsimp only at h1 ⊢
      have hjl : j < c.length := by
        have := (List.getElem?_eq_some_iff.1 h2).1
        rwa [amts_len] at this
      obtain ⟨y, hy⟩ : ∃ y, st.1[j]? = some y := ⟨_, List.getElem?_eq_getElem (by rw [hv.1]; exact hjl)⟩
      obtain ⟨z, hz⟩ : ∃ y, (effL s c r st.1)[j]? = some y := ⟨_, List.getElem?_eq_getElem (by rw [e1]; exact hjl)⟩
      rw [subL_at hy hz] at h1
      cases h1
      have h3 := ih j y m hy h2
      have h4 := nts_ln r.num (effL s c r st.1) 0 j (fun x hx => (e2 x hx).1)
      rw [Nat.zero_add] at h4
      have h5 : (effL s c r st.1).getD j 0 = z := by rw [List.getD_eq_getElem?_getD, hz]; rfl
      rw [gS_app, h4, h5]; omega
    · rename_i hh
      rw [if_neg hh]
      exact ih j x m h1 h2
theorem rcp_sum (hs : VSC s c) {S : List Ru} (hS : ∀ r ∈ S, VR r) : (rcp s c cp S).1.sum + gS amF (rcp s c cp S).2 = (amts s c).sum := by
  refine rcp_all hs hS (fun _ st => st.1.sum + gS amF st.2 = (amts s c).sum) (by simp [gS]) (fun k r st _ hr hv ih => ?_)
  obtain ⟨e1, e2, _, _⟩ := eff_g hs hr hv
  unfold rcStep
  split
  · dsimp only
    rw [gS_app, nts_am _ _ _ (fun x hx => (e2 x hx).1), subL_sum _ _ (by rw [e1, hv.1])]
    omega
  · exact ih
/-- what each note is -/
structure NtOk (s : List Ar) (c : List Ln) (cp : List Int) (S : List Ru) (k : Nat) (n : Nt) : Prop where
  from_ : ∃ (j : Nat) (r : Ru), j < k ∧ S[j]? = some r ∧ n.rule = r.num ∧ hold1 s c cp r = true
  line : ∃ q : Nat, n.line = (q : Int) ∧ q < c.length
  amt : 1 ≤ n.amt ∧ n.amt ≤ 100000
theorem rcp_nt (hs : VSC s c) {S : List Ru} (hS : ∀ r ∈ S, VR r) : ∀ n ∈ (rcp s c cp S).2, NtOk s c cp S S.length n := by
  refine rcp_all hs hS (fun k st => ∀ n ∈ st.2, NtOk s c cp S k n) (fun n hn => by cases hn) (fun k r st hk hr hv ih n hn => ?_)
  obtain ⟨e1, e2, _, _⟩ := eff_g hs hr hv
  have old : n ∈ st.2 → NtOk s c cp S (k + 1) n := fun h => by
    obtain ⟨⟨j, r', h1, h2⟩, h3, h4⟩ := ih n h
    exact ⟨⟨j, r', by omega, h2⟩, h3, h4⟩
  unfold rcStep at hn
  split at hn
  · rename_i hh
    rcases List.mem_append.1 hn with h | h
    · exact old h
    · obtain ⟨h1, h2, q, h3, h4⟩ := nts_mem _ _ _ n h
      have hq := (List.getElem?_eq_some_iff.1 h4).1
      exact ⟨⟨k, r, by omega, hk, h1, hh⟩, ⟨q, by rw [h3, Nat.zero_add], by rw [← e1]; exact hq⟩, by omega, (e2 _ (List.mem_of_getElem? h4)).2⟩
  · exact old hn
/-- notes are in the order of rules, those of a rule in the order of lines -/
def posB (S : List Ru) (a b : Nt) : Prop := (∃ (i j : Nat) (ra rb : Ru), i < j ∧ S[i]? = some ra ∧ S[j]? = some rb ∧ a.rule = ra.num ∧ b.rule = rb.num) ∨ (a.rule = b.rule ∧ a.line < b.line)
theorem rcp_pos (hs : VSC s c) {S : List Ru} (hS : ∀ r ∈ S, VR r) : (rcp s c cp S).2.Pairwise (posB S) := by
  refine (rcp_all hs hS (fun k st => (∀ n ∈ st.2, ∃ (j : Nat) (r : Ru), j < k ∧ S[j]? = some r ∧ n.rule = r.num) ∧ st.2.Pairwise (posB S)) ⟨fun n hn => (by cases hn), List.Pairwise.nil⟩ (fun k r st hk hr hv ih => ?_)).2
  obtain ⟨i1, i2⟩ := ih
  have i1' : ∀ n ∈ st.2, ∃ (j : Nat) (r : Ru), j < k + 1 ∧ S[j]? = some r ∧ n.rule = r.num := fun n hn => by
    obtain ⟨j, r', h1, h2⟩ := i1 n hn
    exact ⟨j, r', by omega, h2⟩
  unfold rcStep
  split
  · refine ⟨fun n hn => ?_, List.pairwise_append.2 ⟨i2, ?_, fun a ha b hb => ?_⟩⟩
    · rcases List.mem_append.1 hn with h | h
      · exact i1' n h
      · exact ⟨k, r, by omega, hk, (nts_mem _ _ _ n h).1⟩
    · refine List.Pairwise.imp_of_mem (fun ha hb h => .inr ⟨?_, h⟩) (nts_up r.num (effL s c r st.1) 0)
      rw [(nts_mem _ _ _ _ ha).1, (nts_mem _ _ _ _ hb).1]
    · obtain ⟨j, r', h1, h2, h3⟩ := i1 a ha
      exact .inl ⟨j, k, r', r, h1, h2, hk, h3, (nts_mem _ _ _ _ hb).1⟩
  · exact ⟨i1', i2⟩
theorem num_at {S : List Ru} (hn : Nums S) {i j : Nat} {a b : Ru} (ha : S[i]? = some a) (hb : S[j]? = some b) (h : a.num = b.num) : i = j := by
  have hi := (List.getElem?_eq_some_iff.1 ha)
  have hj := (List.getElem?_eq_some_iff.1 hb)
  obtain ⟨hi1, hi2⟩ := hi
  obtain ⟨hj1, hj2⟩ := hj
  rcases Nat.lt_trichotomy i j with hlt | he | hlt
  · exact absurd (by rw [hi2, hj2]; exact h) (List.pairwise_iff_getElem.1 hn i j hi1 hj1 hlt)
  · exact he
  · exact absurd (by rw [hi2, hj2]; exact h.symm) (List.pairwise_iff_getElem.1 hn j i hj1 hi1 hlt)
theorem rcp_ru_cap (hs : VSC s c) {S : List Ru} (hS : ∀ r ∈ S, VR r) (hn : Nums S) {i : Nat} {r : Ru} (hi : S[i]? = some r) (hc : 0 < r.cap) : gS (ruF r.num) (rcp s c cp S).2 ≤ r.cap := by
  refine (rcp_all hs hS (fun k st => (k ≤ i → gS (ruF r.num) st.2 = 0) ∧ gS (ruF r.num) st.2 ≤ r.cap) ⟨fun _ => rfl, by rw [gS_nil]; omega⟩ (fun k r' st hk hr hv ih => ?_)).2
  obtain ⟨e1, e2, _, e4⟩ := eff_g hs hr hv
  unfold rcStep
  split
  · dsimp only
    rw [gS_app]
    by_cases hki : k = i
    · subst hki
      rw [hi] at hk; cases hk
      have h0 := ih.1 (Nat.le_refl _)
      rw [h0, nts_ru _ _ _ (fun x hx => (e2 x hx).1)]
      exact ⟨fun h => by omega, by omega⟩
    · rw [nts_ru_ne (fun h => hki (num_at hn hk hi h))]
      exact ⟨fun h => by rw [ih.1 (by omega)]; rfl, by have := ih.2; omega⟩
  · exact ⟨fun h => ih.1 (by omega), ih.2⟩
theorem rcp_ru_none (hs : VSC s c) {S : List Ru} (hS : ∀ r ∈ S, VR r) {m : Int} (hm : ∀ r ∈ S, hold1 s c cp r = true → r.num ≠ m) : gS (ruF m) (rcp s c cp S).2 = 0 := gS_zero _ _ fun n hn => by
  obtain ⟨⟨j, r, _, h2, h3, h4⟩, _, _⟩ := rcp_nt hs hS n hn
  unfold ruF
  rw [if_neg fun h => hm r (List.mem_of_getElem? h2) h4 (by rw [← h3]; exact h)]
theorem rcp_ru_bd (hs : VSC s c) {S : List Ru} (hS : ∀ r ∈ S, VR r) (m : Int) : 0 ≤ gS (ruF m) (rcp s c cp S).2 ∧ gS (ruF m) (rcp s c cp S).2 ≤ gS amF (rcp s c cp S).2 := by
  constructor
  · refine gS_nonneg _ _ fun n hn => ?_
    have := (rcp_nt hs hS n hn).amt
    unfold ruF; split <;> omega
  · refine gS_le _ _ _ fun n hn => ?_
    have := (rcp_nt hs hS n hn).amt
    unfold ruF amF; split <;> omega
theorem rcp_left (hs : VSC s c) {S : List Ru} (hS : ∀ r ∈ S, VR r) : (rcp s c cp S).1.length = c.length ∧ (∀ x ∈ (rcp s c cp S).1, 0 ≤ x ∧ x ≤ 100000) ∧ ∀ (j : Nat) x m, (rcp s c cp S).1[j]? = some x → (amts s c)[j]? = some m → 0 ≤ x ∧ x ≤ m := by
  have hv := rcp_VL (cp := cp) hs hS
  refine ⟨hv.1, at_all fun k x hx => ?_, fun j x m hx hm => hv.2 j (List.getElem?_eq_some_iff.1 hx).1 x m hx hm⟩
  have hk := (List.getElem?_eq_some_iff.1 hx).1
  obtain ⟨m, hm⟩ : ∃ y, (amts s c)[k]? = some y := ⟨_, List.getElem?_eq_getElem (by rw [amts_len, ← hv.1]; exact hk)⟩
  have h1 := hv.2 k hk x m hx hm
  have h2 := amts_bd hs m (List.mem_of_getElem? hm)
  omega
theorem left_sum (hs : VSC s c) {S : List Ru} (hS : ∀ r ∈ S, VR r) : 0 ≤ (rcp s c cp S).1.sum ∧ (rcp s c cp S).1.sum ≤ (amts s c).sum ∧ (amts s c).sum ≤ 800000 ∧ 0 ≤ gS amF (rcp s c cp S).2 ∧ gS amF (rcp s c cp S).2 ≤ 800000 := by
  have h1 := rcp_left (cp := cp) hs hS
  have h2 := (sum_bd _ 0 100000 h1.2.1).1
  have h3 := rcp_sum (cp := cp) hs hS
  have h4 := amts_sum hs
  have h5 : 0 ≤ gS amF (rcp s c cp S).2 := gS_nonneg _ _ fun n hn => by have := (rcp_nt hs hS n hn).amt; unfold amF; omega
  omega
end
/-! ## amounts with the notes added again -/
def addL (f : List Int) (ns : List Nt) : List Int := ns.foldl (fun a n => a.set n.line.toNat (a.getD n.line.toNat 0 + n.amt)) f
theorem addL_take {f : List Int} {ns : List Nt} {k : Nat} {n : Nt} (h : ns[k]? = some n) : addL f (ns.take (k + 1)) = (addL f (ns.take k)).set n.line.toNat ((addL f (ns.take k)).getD n.line.toNat 0 + n.amt) := by
  have h1 : ns.take (k + 1) = ns.take k ++ [n] := by rw [List.take_add_one, h]; rfl
  unfold addL
  rw [h1, List.foldl_append]; rfl
theorem addL_at : ∀ (ns : List Nt) (f : List Int), (∀ n ∈ ns, 0 ≤ n.line) → ∀ (j : Nat) (x : Int), f[j]? = some x → (addL f ns)[j]? = some (x + gS (lnF j) ns)
  | [], f, _, j, x, h => by rw [gS_nil]; simpa [addL] using h
  | n :: ns, f, hn, j, x, h => by
    have h0 := hn n (List.mem_cons_self)
    have hj := (List.getElem?_eq_some_iff.1 h).1
    have ih := addL_at ns (f.set n.line.toNat (f.getD n.line.toNat 0 + n.amt)) (fun y hy => hn y (List.mem_cons_of_mem _ hy)) j
    have hst : addL f (n :: ns) = addL (f.set n.line.toNat (f.getD n.line.toNat 0 + n.amt)) ns := rfl
    rw [hst, gS_cons]
    by_cases hl : n.line = (j : Int)
    · have hl' : n.line.toNat = j := by omega
      have := ih (x + n.amt) (by rw [hl', List.getElem?_set_self (by omega), List.getD_eq_getElem?_getD, h]; rfl)
      rw [this]; unfold lnF; rw [if_pos hl]; congr 1; omega
    · have := ih x (by rw [List.getElem?_set_ne (by omega)]; exact h)
      rw [this]; unfold lnF; rw [if_neg hl]; congr 1; omega
theorem addL_len : ∀ (ns : List Nt) (f : List Int), (addL f ns).length = f.length
  | [], f => rfl
  | n :: ns, f => by
    have hst : addL f (n :: ns) = addL (f.set n.line.toNat (f.getD n.line.toNat 0 + n.amt)) ns := rfl
    rw [hst, addL_len ns, List.length_set]
theorem rcp_add {s : List Ar} {c : List Ln} {cp : List Int} (hs : VSC s c) {S : List Ru} (hS : ∀ r ∈ S, VR r) : addL (rcp s c cp S).1 (rcp s c cp S).2 = amts s c := by
  have hl := (rcp_left (cp := cp) hs hS).1
  refine List.ext_getElem? fun j => ?_
  by_cases hj : j < c.length
  · obtain ⟨x, hx⟩ : ∃ y, (rcp s c cp S).1[j]? = some y := ⟨_, List.getElem?_eq_getElem (by omega)⟩
    obtain ⟨m, hm⟩ : ∃ y, (amts s c)[j]? = some y := ⟨_, List.getElem?_eq_getElem (by rw [amts_len]; exact hj)⟩
    rw [addL_at _ _ (fun n hn => by obtain ⟨q, h1, _⟩ := (rcp_nt hs hS n hn).line; omega) j x hx, hm, rcp_line hs hS j x m hx hm]
  · rw [List.getElem?_eq_none (by rw [addL_len]; omega), List.getElem?_eq_none (by rw [amts_len]; omega)]
/-! ## sums over rules -/
theorem one_sum (a m : Int) : ∀ (l : List Ru), Nums l → (∃ r ∈ l, r.num = m) → (l.map fun r => if m = r.num then a else 0).sum = a
  | [], _, h => by obtain ⟨r, hr, _⟩ := h; cases hr
  | r :: l, hn, h => by
    have hn' := List.pairwise_cons.1 hn
    rw [List.map_cons, List.sum_cons]
    by_cases hr : r.num = m
    · rw [if_pos hr.symm]
      have : (l.map fun r => if m = r.num then a else 0) = l.map fun _ => 0 := List.map_congr_left fun x hx => if_neg (by rw [← hr]; exact hn'.1 x hx)
      rw [this]
      have h0 : ∀ l : List Ru, (l.map fun _ => (0 : Int)).sum = 0 := fun l => by induction l with
        | nil => rfl
        | cons x l ih => rw [List.map_cons, List.sum_cons, ih]; rfl
      rw [h0]; omega
    · rw [if_neg (fun h => hr h.symm)]
      have ih := one_sum a m l hn'.2 (by
        obtain ⟨x, hx, he⟩ := h
        rcases List.mem_cons.1 hx with rfl | hx
        · exact absurd he hr
        · exact ⟨x, hx, he⟩)
      omega
theorem sum_map_add {α : Type} (f g : α → Int) : ∀ l : List α, (l.map fun x => f x + g x).sum = (l.map f).sum + (l.map g).sum
  | [] => rfl
  | x :: l => by simp only [List.map_cons, List.sum_cons]; have := sum_map_add f g l; omega
theorem ru_sums {l : List Ru} (hn : Nums l) : ∀ ns : List Nt, (∀ n ∈ ns, ∃ r ∈ l, r.num = n.rule) → (l.map fun r => gS (ruF r.num) ns).sum = gS amF ns
  | [], _ => by
    have h0 : ∀ l : List Ru, (l.map fun r => gS (ruF r.num) []).sum = 0 := fun l => by induction l with
      | nil => rfl
      | cons x l ih => rw [List.map_cons, List.sum_cons, ih]; rfl
    rw [h0]; rfl
  | n :: ns, h => by
    have ih := ru_sums hn ns (fun x hx => h x (List.mem_cons_of_mem _ hx))
    have h1 := one_sum n.amt n.rule l hn (h n (List.mem_cons_self))
    have h2 : (l.map fun r => gS (ruF r.num) (n :: ns)) = l.map fun r => (if n.rule = r.num then n.amt else 0) + gS (ruF r.num) ns := List.map_congr_left fun x _ => by rw [gS_cons]; rfl
    rw [h2, sum_map_add (fun r : Ru => if n.rule = r.num then n.amt else 0) (fun r : Ru => gS (ruF r.num) ns), h1, ih, gS_cons]; rfl
/-! ## coupons left out -/
theorem CO_sub {l l' : List Int} (h : CO l) (hs : l'.Sublist l) : CO l' := by
  obtain ⟨h1, h2, h3⟩ := h
  exact ⟨Nat.le_trans hs.length_le h1, (Asc_iff _).2 (((Asc_iff _).1 h2).sublist hs), (AllIn_iff _ _ _).2 fun a ha => (AllIn_iff _ _ _).1 h3 a (hs.subset ha)⟩
def outL (cp : List Int) (k : Nat) : List Int := cp.take k ++ cp.drop (k + 1)
theorem outL_sub (cp : List Int) (k : Nat) : (outL cp k).Sublist cp := by
  unfold outL
  have h1 : (cp.take k ++ cp.drop (k + 1)).Sublist (cp.take k ++ cp.drop k) := (List.Sublist.refl _).append (by rw [List.drop_add_one_eq_tail_drop]; exact List.tail_sublist _)
  rwa [List.take_append_drop] at h1
theorem outL_len {cp : List Int} {k : Nat} (h : k < cp.length) : (outL cp k).length = cp.length - 1 := by
  simp only [outL, List.length_append, List.length_take, List.length_drop]; omega
theorem RcOk_out {s : List Ar} {c : List Ln} {cp : List Int} {rs : List Ru} (h : RcOk s c cp rs) (k : Nat) : RcOk s c (outL cp k) rs := ⟨h.1, CO_sub h.2.1 (outL_sub cp k), h.2.2⟩
/-- what is to be paid -/
def payB (s : List Ar) (c : List Ln) (cp : List Int) (rs : List Ru) : Int := (rcp s c cp (srt rs)).1.sum
def useB (s : List Ar) (c : List Ln) (cp : List Int) (rs : List Ru) (k : Nat) : Bool := decide (payB s c cp rs < payB s c (outL cp k) rs)
/-- the useful ones of the first k coupons -/
def useL (s : List Ar) (c : List Ln) (cp : List Int) (rs : List Ru) (k : Nat) : List Int := ((List.range k).filter (useB s c cp rs)).map fun j => cp.getD j 0
section
variable {s : List Ar} {c : List Ln} {cp : List Int} {rs : List Ru}
theorem useL_yes {k : Nat} {x : Int} (hx : cp[k]? = some x) (h : payB s c cp rs < payB s c (outL cp k) rs) : useL s c cp rs (k + 1) = useL s c cp rs k ++ [x] := by
  have hb : useB s c cp rs k = true := decide_eq_true h
  simp [useL, List.range_succ, List.filter_append, hb, hx]
theorem useL_no {k : Nat} (h : ¬ payB s c cp rs < payB s c (outL cp k) rs) : useL s c cp rs (k + 1) = useL s c cp rs k := by
  have hb : useB s c cp rs k = false := decide_eq_false h
  simp [useL, List.range_succ, List.filter_append, hb]
theorem useL_len (k : Nat) : (useL s c cp rs k).length ≤ k := by
  unfold useL
  rw [List.length_map]
  have := List.length_filter_le (useB s c cp rs) (List.range k)
  simpa using this
theorem useL_mem {x : Int} {k : Nat} : x ∈ useL s c cp rs k ↔ ∃ j : Nat, j < k ∧ payB s c cp rs < payB s c (outL cp j) rs ∧ cp.getD j 0 = x := by
  unfold useL
  simp only [List.mem_map, List.mem_filter, List.mem_range, useB, decide_eq_true_eq]
  constructor
  · rintro ⟨j, ⟨h1, h2⟩, h3⟩; exact ⟨j, h1, h2, h3⟩
  · rintro ⟨j, h1, h2, h3⟩; exact ⟨j, ⟨h1, h2⟩, h3⟩
theorem useL_at (hc : CO cp) {k : Nat} {x : Int} (hx : cp[k]? = some x) : x ∈ useL s c cp rs cp.length ↔ payB s c cp rs < payB s c (outL cp k) rs := by
  rw [useL_mem]
  have hk := (List.getElem?_eq_some_iff.1 hx).1
  constructor
  · rintro ⟨j, h1, h2, h3⟩
    have hj : cp[j]? = some x := by rw [List.getElem?_eq_getElem h1]; rw [List.getD_eq_getElem?_getD, List.getElem?_eq_getElem h1] at h3; exact congrArg some h3
    rcases Nat.lt_trichotomy j k with hlt | he | hlt
    · have := Asc_lt hc.2.1 k j _ _ hlt hj hx; omega
    · rw [← he]; exact h2
    · have := Asc_lt hc.2.1 j k _ _ hlt hx hj; omega
  · intro h
    exact ⟨k, hk, h, by rw [List.getD_eq_getElem?_getD, hx]; rfl⟩
theorem hold_out {k : Nat} {x : Int} (hx : cp[k]? = some x) {r : Ru} (hr : r.g.cp ≠ x) : hold1 s c (outL cp k) r = hold1 s c cp r := by
  unfold hold1 holdB
  have : r.g.cp ∈ outL cp k ↔ r.g.cp ∈ cp := by
    constructor
    · exact fun h => (outL_sub cp k).subset h
    · intro h
      have hk := (List.getElem?_eq_some_iff.1 hx)
      obtain ⟨hk1, hk2⟩ := hk
      have h1 : cp = cp.take k ++ x :: cp.drop (k + 1) := by
        rw [← hk2, ← List.drop_eq_getElem_cons hk1, List.take_append_drop]
      rw [h1] at h
      unfold outL
      rcases List.mem_append.1 h with h | h
      · exact List.mem_append_left _ h
      · rcases List.mem_cons.1 h with h | h
        · exact absurd h hr
        · exact List.mem_append_right _ h
  simp only [this]
theorem rcp_out {k : Nat} {x : Int} (hx : cp[k]? = some x) : ∀ (l : List Ru) (st : RcS), (∀ r ∈ l, r.g.cp ≠ x) → l.foldl (rcStep s c (outL cp k)) st = l.foldl (rcStep s c cp) st
  | [], _, _ => rfl
  | r :: l, st, h => by
    have h1 : rcStep s c (outL cp k) st r = rcStep s c cp st r := by
      have := hold_out (s := s) (c := c) hx (h r (List.mem_cons_self))
      unfold hold1 at this
      unfold rcStep; rw [this]
    rw [List.foldl_cons, List.foldl_cons, h1]
    exact rcp_out hx l _ (fun y hy => h y (List.mem_cons_of_mem _ hy))
/-- a useful coupon is asked for by some rule -/
theorem use_rule {k : Nat} {x : Int} (hx : cp[k]? = some x) (h : payB s c cp rs < payB s c (outL cp k) rs) : ∃ r ∈ rs, r.g.cp = x := Classical.byContradiction fun hn => by
  have h1 : ∀ r ∈ srt rs, r.g.cp ≠ x := fun r hr he => hn ⟨r, (srt_perm rs).mem_iff.1 hr, he⟩
  have h2 : payB s c (outL cp k) rs = payB s c cp rs := by unfold payB rcp; rw [rcp_out hx _ _ h1]
  omega
/-! ## some rules only -/
theorem srt_nil : srt [] = [] := by simp [srt]
theorem srt_one (r : Ru) : srt [r] = [r] := List.perm_singleton.1 (srt_perm [r])
theorem VRs_nil : VRs [] := ⟨by simp, fun k h => by simp at h⟩
theorem Clear_nil : Clear [] := ⟨VRs_nil, fun a b ⟨x, hx, _⟩ => by cases hx⟩
theorem srt_all {l : List Ru} (h : VRs l) : ∀ r ∈ srt l, VR r := fun r hr => VRs_all h r ((srt_perm l).mem_iff.1 hr)
theorem srt_last {l : List Ru} (h : VRs l) {x : Ru} (hx : (srt l)[l.length - 1]? = some x) : srt (l.filter fun r => decide (r.num ≠ x.num)) = (srt l).take (l.length - 1) := by
  have hn := VRs_nums h
  have hl := srt_len l
  have hlt := (List.getElem?_eq_some_iff.1 hx).1
  have hsp := srt_perm l
  have hns : Nums (srt l) := VRs_nums (VRs_perm h hsp.symm)
  have h1 : srt l = (srt l).take (l.length - 1) ++ [x] := by
    have : (srt l).take (l.length - 1 + 1) = (srt l).take (l.length - 1) ++ [x] := by rw [List.take_add_one, hx]; rfl
    rw [← this, List.take_of_length_le (by omega)]
  have h2 : ((srt l).filter fun r => decide (r.num ≠ x.num)) = (srt l).take (l.length - 1) := by
    have h3 : ∀ r ∈ (srt l).take (l.length - 1), r.num ≠ x.num := fun r hr => by
      have := hns
      rw [h1] at this
      exact (List.pairwise_append.1 this).2.2 r hr x (List.mem_singleton.2 rfl)
    conv => lhs; rw [h1]
    rw [List.filter_append, List.filter_eq_self.2 (fun r hr => decide_eq_true (h3 r hr))]
    simp
  refine (srt_eq (List.Pairwise.sublist List.filter_sublist hn) ?_ ?_).symm
  · rw [← h2]; exact hsp.filter _
  · exact (srt_sorted hn).sublist (List.take_sublist _ _)
end
def RcX (s : List Ar) (c : List Ln) (cp : List Int) (rs : List Ru) (b : Bool) (xs : List Int) (ns : List Nt) : Prop :=
  (RcOk s c cp rs → b = true ∧ xs = (rcp s c cp (srt rs)).1 ∧ ns = (rcp s c cp (srt rs)).2) ∧ (¬ RcOk s c cp rs → b = false ∧ xs = [] ∧ ns = [])
theorem RcX.same {s : List Ar} {c : List Ln} {cp : List Int} {rs : List Ru} {b b' : Bool} {xs xs' : List Int} {ns ns' : List Nt} (h : RcX s c cp rs b xs ns) (h' : RcX s c cp rs b' xs' ns') : b = b' ∧ xs = xs' ∧ ns = ns' := by
  by_cases hR : RcOk s c cp rs
  · obtain ⟨rfl, rfl, rfl⟩ := h.1 hR
    obtain ⟨rfl, rfl, rfl⟩ := h'.1 hR
    exact ⟨rfl, rfl, rfl⟩
  · obtain ⟨rfl, rfl, rfl⟩ := h.2 hR
    obtain ⟨rfl, rfl, rfl⟩ := h'.2 hR
    exact ⟨rfl, rfl, rfl⟩
def payX (s : List Ar) (c : List Ln) (cp : List Int) (rs : List Ru) (n : Int) : Prop := (RcOk s c cp rs → n = payB s c cp rs) ∧ (¬ RcOk s c cp rs → n = -1)
def savX (s : List Ar) (c : List Ln) (cp : List Int) (rs : List Ru) (m n : Int) : Prop := (RcOk s c cp rs → n = gS (ruF m) (rcp s c cp (srt rs)).2) ∧ (¬ RcOk s c cp rs → n = -1)
theorem payX_ex (s : List Ar) (c : List Ln) (cp : List Int) (rs : List Ru) : ∃ n, payX s c cp rs n := by
  by_cases h : RcOk s c cp rs
  · exact ⟨payB s c cp rs, fun _ => rfl, fun h' => absurd h h'⟩
  · exact ⟨-1, fun h' => absurd h' h, fun _ => rfl⟩
theorem savX_ex (s : List Ar) (c : List Ln) (cp : List Int) (rs : List Ru) (m : Int) : ∃ n, savX s c cp rs m n := by
  by_cases h : RcOk s c cp rs
  · exact ⟨_, fun _ => rfl, fun h' => absurd h h'⟩
  · exact ⟨-1, fun h' => absurd h' h, fun _ => rfl⟩
theorem RcOk.all {s : List Ar} {c : List Ln} {cp : List Int} {rs : List Ru} (h : RcOk s c cp rs) : ∀ r ∈ srt rs, VR r := srt_all h.2.2.1
theorem payB_bd {s : List Ar} {c : List Ln} {cp : List Int} {rs : List Ru} (h : RcOk s c cp rs) : 0 ≤ payB s c cp rs ∧ payB s c cp rs ≤ (amts s c).sum ∧ (amts s c).sum ≤ 800000 := by
  have := left_sum (cp := cp) h.1 h.all
  exact ⟨this.1, this.2.1, this.2.2.1⟩
theorem payX_bd {s : List Ar} {c : List Ln} {cp : List Int} {rs : List Ru} {n : Int} (h : payX s c cp rs n) : -1 ≤ n ∧ n ≤ 800000 := by
  by_cases hR : RcOk s c cp rs
  · have := payB_bd hR
    rw [h.1 hR]; omega
  · rw [h.2 hR]; omega
theorem payX_neg {s : List Ar} {c : List Ln} {cp : List Int} {rs : List Ru} {n : Int} (h : payX s c cp rs n) : n < 0 ↔ ¬ RcOk s c cp rs := by
  constructor
  · intro hn hR
    have := payB_bd hR
    have := h.1 hR
    omega
  · intro hR
    have := h.2 hR
    omega
theorem rcp_len48 {s : List Ar} {c : List Ln} {cp : List Int} {rs : List Ru} (h : RcOk s c cp rs) : (rcp s c cp (srt rs)).2.length ≤ 48 := by
  have h1 := rcp_notes (cp := cp) h.1 (srt rs) (amts s c, []) h.all (VL_amts h.1)
  have h2 := srt_len rs
  have h3 := h.2.2.1.1
  have : (rcp s c cp (srt rs)).2.length ≤ 0 + 8 * (srt rs).length := h1
  omega
theorem rcp_all_nt {s : List Ar} {c : List Ln} {cp : List Int} {rs : List Ru} (h : RcOk s c cp rs) : ∀ n ∈ (rcp s c cp (srt rs)).2, ∃ r ∈ rs, n.rule = r.num ∧ hold1 s c cp r = true := fun n hn => by
  obtain ⟨⟨j, r, _, h2, h3, h4⟩, _, _⟩ := rcp_nt h.1 h.all n hn
  exact ⟨r, (srt_perm rs).mem_iff.1 (List.mem_of_getElem? h2), h3, h4⟩
/-! ## lists of rules that are alike -/
theorem rcStep_eq (s : List Ar) (c : List Ln) (cp : List Int) (st : RcS) {r r' : Ru} (h : EqR r r') : rcStep s c cp st r = rcStep s c cp st r' := by
  obtain ⟨n, lv, rk, gp, kd, vl, cpp, ⟨t, A, m, cc, cs, cq⟩⟩ := r
  obtain ⟨n', lv', rk', gp', kd', vl', cpp', ⟨t', A', m', cc', cs', cq'⟩⟩ := r'
  obtain ⟨h1, h2, h3, h4, h5, h6, h7, h8, h9, h10⟩ := h
  dsimp only at h1 h2 h3 h4 h5 h6 h7 h8 h9 h10
  subst h1 h2 h3 h4 h5 h6 h7 h8 h9 h10
  rfl
theorem fold_eq (s : List Ar) (c : List Ln) (cp : List Int) : ∀ (l l' : List Ru) (st : RcS), l.length = l'.length → (∀ (j : Nat) r r', l[j]? = some r → l'[j]? = some r' → EqR r r') → l.foldl (rcStep s c cp) st = l'.foldl (rcStep s c cp) st
  | [], [], _, _, _ => rfl
  | r :: l, r' :: l', st, hl, h => by
    rw [List.foldl_cons, List.foldl_cons, rcStep_eq s c cp st (h 0 r r' rfl rfl)]
    exact fold_eq s c cp l l' _ (by simpa using hl) (fun j x x' hx hx' => h (j + 1) x x' (by simpa using hx) (by simpa using hx'))
  | [], r' :: l', _, hl, _ => by simp at hl
  | r :: l, [], _, hl, _ => by simp at hl
theorem rcp_eq {s : List Ar} {c : List Ln} {cp : List Int} {l l' : List Ru} (h : EqL l l') (hv : VRs l) : rcp s c cp (srt l') = rcp s c cp (srt l) := by
  have hv' := VRs_eq h hv
  have hn := srt_nums_eq h hv
  refine (fold_eq s c cp (srt l) (srt l') _ (by rw [srt_len, srt_len]; exact h.1) fun j r r' hr hr' => ?_).symm
  have h1 : r.num = r'.num := by
    have := congrArg (fun x : List Int => x[j]?) hn
    simp only [List.getElem?_map, hr, hr', Option.map_some, Option.some.injEq] at this
    exact this
  obtain ⟨r2, hr2, he⟩ := h.mem ((srt_perm l).mem_iff.1 (List.mem_of_getElem? hr))
  have h2 : r2 = r' := by
    obtain ⟨i, hi⟩ := List.mem_iff_getElem?.1 hr2
    obtain ⟨k, hk⟩ := List.mem_iff_getElem?.1 ((srt_perm l').mem_iff.1 (List.mem_of_getElem? hr'))
    have := num_at (VRs_nums hv') hi hk (by rw [← he.1, h1])
    subst this
    rw [hi] at hk; exact Option.some.inj hk
  rw [← h2]; exact he
theorem RcOk_eq {s : List Ar} {c : List Ln} {cp : List Int} {l l' : List Ru} (h : EqL l l') : RcOk s c cp l ↔ RcOk s c cp l' := ⟨fun hR => ⟨hR.1, hR.2.1, Clear_eq h hR.2.2⟩, fun hR => ⟨hR.1, hR.2.1, Clear_eq h.symm hR.2.2⟩⟩
theorem RcX_eq {s : List Ar} {c : List Ln} {cp : List Int} {l l' : List Ru} {b : Bool} {xs : List Int} {ns : List Nt} (h : EqL l l') (hx : RcX s c cp l b xs ns) : RcX s c cp l' b xs ns :=
  ⟨fun hR => by have hR' := (RcOk_eq h).2 hR; rw [rcp_eq h hR'.2.2.1]; exact hx.1 hR', fun hR => hx.2 fun h' => hR ((RcOk_eq h).1 h')⟩
theorem payB_eq {s : List Ar} {c : List Ln} {cp : List Int} {l l' : List Ru} (h : EqL l l') (hv : VRs l) : payB s c cp l' = payB s c cp l := by unfold payB; rw [rcp_eq h hv]
theorem payX_eq {s : List Ar} {c : List Ln} {cp : List Int} {l l' : List Ru} {n : Int} (h : EqL l l') (hx : payX s c cp l n) : payX s c cp l' n :=
  ⟨fun hR => by have hR' := (RcOk_eq h).2 hR; rw [payB_eq h hR'.2.2.1]; exact hx.1 hR', fun hR => hx.2 fun h' => hR ((RcOk_eq h).1 h')⟩
theorem savX_eq {s : List Ar} {c : List Ln} {cp : List Int} {l l' : List Ru} {m n : Int} (h : EqL l l') (hx : savX s c cp l m n) : savX s c cp l' m n :=
  ⟨fun hR => by have hR' := (RcOk_eq h).2 hR; rw [rcp_eq h hR'.2.2.1]; exact hx.1 hR', fun hR => hx.2 fun h' => hR ((RcOk_eq h).1 h')⟩
theorem useL_eq {s : List Ar} {c : List Ln} {cp : List Int} {l l' : List Ru} (h : EqL l l') (hv : VRs l) (k : Nat) : useL s c cp l' k = useL s c cp l k := by
  have : useB s c cp l' = useB s c cp l := by funext j; unfold useB; rw [payB_eq h hv, payB_eq h hv]
  unfold useL; rw [this]
/-! ## the same rules in another order -/
theorem RcOk_perm {s : List Ar} {c : List Ln} {cp : List Int} {l l' : List Ru} (hp : l.Perm l') (h : RcOk s c cp l) : RcOk s c cp l' := ⟨h.1, h.2.1, Clear_perm h.2.2 hp⟩
theorem RcX_perm {s : List Ar} {c : List Ln} {cp : List Int} {l l' : List Ru} {b : Bool} {xs : List Int} {ns : List Nt} (hp : l.Perm l') (hx : RcX s c cp l b xs ns) : RcX s c cp l' b xs ns :=
  ⟨fun hR => by have hR' := RcOk_perm hp.symm hR; rw [srt_same hR'.2.2.1 hp]; exact hx.1 hR', fun hR => hx.2 fun h' => hR (RcOk_perm hp h')⟩
theorem RcOk_sub {s : List Ar} {c : List Ln} {cp : List Int} {l l' : List Ru} (h : RcOk s c cp l) (hs : l'.Sublist l) : RcOk s c cp l' := ⟨h.1, h.2.1, Clear_sub h.2.2 hs⟩
theorem payB_nil (s : List Ar) (c : List Ln) (cp : List Int) : payB s c cp [] = (amts s c).sum := by
  unfold payB; rw [srt_nil]; rfl
theorem rcp_one (s : List Ar) (c : List Ln) (cp : List Int) (r : Ru) : rcp s c cp (srt [r]) = rcStep s c cp (amts s c, []) r := by rw [srt_one]; rfl
theorem payB_one {s : List Ar} {c : List Ln} {cp : List Int} {r : Ru} (hs : VSC s c) (hr : VR r) : payB s c cp [r] = (amts s c).sum - if hold1 s c cp r then (effL s c r (amts s c)).sum else 0 := by
  unfold payB
  rw [rcp_one]
  unfold rcStep
  by_cases h : hold1 s c cp r = true
  · have h' := h
    unfold hold1 at h'
    rw [if_pos h', if_pos h]
    dsimp only
    rw [subL_sum _ _ (by rw [(eff_g hs hr (VL_amts hs)).1, amts_len])]
  · have h' := h
    unfold hold1 at h'
    rw [if_neg h', if_neg h]; dsimp only; omega
/-! ## bounds -/
theorem gS_bd (f : Nt → Int) (B : Int) : ∀ ns : List Nt, (∀ n ∈ ns, 0 ≤ f n ∧ f n ≤ B) → 0 ≤ gS f ns ∧ gS f ns ≤ B * ns.length
  | [], _ => by simp [gS]
  | n :: ns, h => by
    have h1 := h n (List.mem_cons_self)
    have h2 := gS_bd f B ns (fun x hx => h x (List.mem_cons_of_mem _ hx))
    rw [gS_cons, List.length_cons, Int.natCast_add, Int.mul_add]
    simp only [Int.natCast_one, Int.mul_one]
    omega
theorem ru_take_bd {s : List Ar} {c : List Ln} {cp : List Int} {rs : List Ru} (h : RcOk s c cp rs) (m : Int) (k : Nat) : 0 ≤ gS (ruF m) ((rcp s c cp (srt rs)).2.take k) ∧ gS (ruF m) ((rcp s c cp (srt rs)).2.take k) ≤ 4800000 := by
  have h1 := gS_bd (ruF m) 100000 ((rcp s c cp (srt rs)).2.take k) (fun n hn => by
    have := (rcp_nt h.1 h.all n (List.mem_of_mem_take hn)).amt
    unfold ruF; split <;> omega)
  have h2 := rcp_len48 h
  have h3 : ((rcp s c cp (srt rs)).2.take k).length ≤ 48 := by rw [List.length_take]; omega
  omega
theorem outL_eq (cp : List Int) (k : Nat) : cp.take k ++ (cp.take cp.length).drop (k + 1) = outL cp k := by rw [List.take_length]; rfl
/-! ## some rule of the first ones -/
def ExL (rs : List Ru) (P : Ru → Prop) (j : Nat) : Prop := ∃ (i : Nat) (r : Ru), i < j ∧ rs[i]? = some r ∧ P r
theorem ExL.zero {rs : List Ru} {P : Ru → Prop} : ¬ ExL rs P 0 := fun ⟨_, _, h, _⟩ => by omega
theorem ExL.succ {rs : List Ru} {P : Ru → Prop} {j : Nat} {r : Ru} (hr : rs[j]? = some r) : ExL rs P (j + 1) ↔ ExL rs P j ∨ P r := by
  constructor
  · rintro ⟨i, x, h1, h2, h3⟩
    by_cases hi : i = j
    · subst hi; rw [hr] at h2; cases h2; exact .inr h3
    · exact .inl ⟨i, x, by omega, h2, h3⟩
  · rintro (⟨i, x, h1, h2, h3⟩ | h)
    · exact ⟨i, x, by omega, h2, h3⟩
    · exact ⟨j, r, by omega, hr, h⟩
theorem ExL.all {rs : List Ru} {P : Ru → Prop} (h : ∃ r ∈ rs, P r) : ExL rs P rs.length := by
  obtain ⟨r, hr, hp⟩ := h
  obtain ⟨i, hi⟩ := List.mem_iff_getElem?.1 hr
  exact ⟨i, r, (List.getElem?_eq_some_iff.1 hi).1, hi, hp⟩
/-! ## what the rules save, one after another -/
def svL (rs : List Ru) (ns : List Nt) (k : Nat) : Int := ((rs.take k).map fun r => gS (ruF r.num) ns).sum
theorem svL_succ {rs : List Ru} {ns : List Nt} {k : Nat} {r : Ru} (h : rs[k]? = some r) : svL rs ns (k + 1) = svL rs ns k + gS (ruF r.num) ns := by
  have h1 : rs.take (k + 1) = rs.take k ++ [r] := by rw [List.take_add_one, h]; rfl
  unfold svL
  rw [h1, List.map_append, sum_app]; simp
theorem svL_bd {rs : List Ru} {ns : List Nt} (h : ∀ m, 0 ≤ gS (ruF m) ns ∧ gS (ruF m) ns ≤ 800000) : ∀ k : Nat, 0 ≤ svL rs ns k ∧ svL rs ns k ≤ 800000 * k
  | 0 => by simp [svL]
  | k + 1 => by
    have ih := svL_bd (rs := rs) h k
    by_cases hk : k < rs.length
    · obtain ⟨r, hr⟩ : ∃ y, rs[k]? = some y := ⟨_, List.getElem?_eq_getElem hk⟩
      have := h r.num
      rw [svL_succ hr]; omega
    · have : svL rs ns (k + 1) = svL rs ns k := by unfold svL; rw [List.take_of_length_le (by omega), List.take_of_length_le (by omega)]
      rw [this]; omega
theorem svL_all {s : List Ar} {c : List Ln} {cp : List Int} {rs : List Ru} (h : RcOk s c cp rs) : payB s c cp rs + svL rs (rcp s c cp (srt rs)).2 rs.length = (amts s c).sum := by
  have h1 := rcp_sum (cp := cp) h.1 h.all
  have h2 := ru_sums (VRs_nums h.2.2.1) (rcp s c cp (srt rs)).2 (fun n hn => by
    obtain ⟨r, hr, he, _⟩ := rcp_all_nt h n hn
    exact ⟨r, hr, he.symm⟩)
  unfold svL payB
  rw [List.take_length, h2]; exact h1
theorem ru_bd8 {s : List Ar} {c : List Ln} {cp : List Int} {rs : List Ru} (h : RcOk s c cp rs) (m : Int) : 0 ≤ gS (ruF m) (rcp s c cp (srt rs)).2 ∧ gS (ruF m) (rcp s c cp (srt rs)).2 ≤ 800000 := by
  have h1 := rcp_ru_bd (cp := cp) h.1 h.all m
  have h2 := left_sum (cp := cp) h.1 h.all
  omega
theorem ru_capR {s : List Ar} {c : List Ln} {cp : List Int} {rs : List Ru} (h : RcOk s c cp rs) {r : Ru} (hr : r ∈ rs) (hc : 0 < r.cap) : gS (ruF r.num) (rcp s c cp (srt rs)).2 ≤ r.cap := by
  obtain ⟨i, hi⟩ := List.mem_iff_getElem?.1 ((srt_perm rs).mem_iff.2 hr)
  exact rcp_ru_cap h.1 h.all (VRs_nums (VRs_perm h.2.2.1 (srt_perm rs).symm)) hi hc
theorem ru_not {s : List Ar} {c : List Ln} {cp : List Int} {rs : List Ru} (h : RcOk s c cp rs) {r : Ru} (hr : r ∈ rs) (hh : hold1 s c cp r = false) : gS (ruF r.num) (rcp s c cp (srt rs)).2 = 0 :=
  rcp_ru_none h.1 h.all fun x hx h1 h2 => by
    obtain ⟨i, hi⟩ := List.mem_iff_getElem?.1 ((srt_perm rs).mem_iff.1 hx)
    obtain ⟨k, hk⟩ := List.mem_iff_getElem?.1 hr
    have := num_at (VRs_nums h.2.2.1) hi hk h2
    subst this
    rw [hi] at hk; cases hk
    rw [hh] at h1; cases h1
theorem ru_100 {s : List Ar} {c : List Ln} {cp : List Int} {rs : List Ru} (h : RcOk s c cp rs) : gS (ruF 100) (rcp s c cp (srt rs)).2 = 0 :=
  rcp_ru_none h.1 h.all fun x hx _ h2 => by
    have := (h.all x hx).1
    omega
/-! ## the last rule -/
def offB (s : List Ar) (c : List Ln) (cp : List Int) (r : Ru) (f : List Int) : List Int := if hold1 s c cp r then effL s c r f else List.replicate c.length 0
theorem rcp_last {s : List Ar} {c : List Ln} {cp : List Int} {rs : List Ru} (h : RcOk s c cp rs) {x : Ru} (hx : (srt rs)[rs.length - 1]? = some x) {f : List Int} (hf : (rcp s c cp ((srt rs).take (rs.length - 1))).1 = f) :
    (offB s c cp x f).length = c.length ∧ f.length = c.length ∧ ∀ (j : Nat) (a b d : Int), (rcp s c cp (srt rs)).1[j]? = some a → f[j]? = some b → (offB s c cp x f)[j]? = some d → a = b - d ∧ 0 ≤ b ∧ b ≤ 100000 ∧ 0 ≤ d ∧ d ≤ 100000 := by
  have hsl := srt_len rs
  have hlt := (List.getElem?_eq_some_iff.1 hx).1
  have hv := rcp_left (cp := cp) h.1 (S := (srt rs).take (rs.length - 1)) (fun y hy => h.all y (List.mem_of_mem_take hy))
  have hvl := rcp_VL (cp := cp) h.1 (l := (srt rs).take (rs.length - 1)) (fun y hy => h.all y (List.mem_of_mem_take hy))
  rw [hf] at hv hvl
  obtain ⟨e1, e2, _, _⟩ := eff_g (r := x) h.1 (h.all x (List.mem_of_getElem? hx)) hvl
  have h1 : rcp s c cp (srt rs) = rcStep s c cp (rcp s c cp ((srt rs).take (rs.length - 1))) x := by
    rw [← rcp_take hx, List.take_of_length_le (by omega)]
  have h2 : (offB s c cp x f).length = c.length := by unfold offB; split; exact e1; simp
  refine ⟨h2, hv.1, fun j a b d ha hb hd => ?_⟩
  have hb' := hv.2.1 b (List.mem_of_getElem? hb)
  rw [h1] at ha
  unfold rcStep at ha
  unfold offB hold1 at hd
  split at ha
  · rename_i hh
    rw [if_pos hh] at hd
    dsimp only at ha
    rw [hf] at ha
    rw [subL_at hb hd] at ha
    cases ha
    have := e2 d (List.mem_of_getElem? hd)
    exact ⟨rfl, hb'.1, hb'.2, this.1, this.2⟩
  · rename_i hh
    rw [if_neg hh] at hd
    rw [hf, hb] at ha
    cases ha
    have : d = 0 := by
      rw [List.getElem?_replicate] at hd
      split at hd
      · exact (Option.some.inj hd).symm
      · cases hd
    omega
end Go.Proofs.YtbgfkhliideegaaGreat
