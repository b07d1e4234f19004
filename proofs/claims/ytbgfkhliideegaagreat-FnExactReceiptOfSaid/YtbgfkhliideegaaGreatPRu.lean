/- Plain facts on spans, guards and rules. No condition beyond those that each theorem states. -/
import Derived.Test.YtbgfkhliideegaaGreatPInt
namespace Go.Proofs.YtbgfkhliideegaaGreat
open Go.RowKit
structure Sp where
  lo : Int
  hi : Int
  deriving DecidableEq
instance : Enc Sp := ⟨2, fun x => [.int .i64 x.lo, .int .i64 x.hi], fun _ => rfl, by omega, fun _ v hv => by simp at hv; rcases hv with rfl | rfl <;> rfl⟩
/-- a guard: its total's span, the slice of its counts' spans and what that reads, its coupon -/
structure Gd where
  tot : Sp
  A : Option Addr
  n : Nat
  c : Nat
  cs : List Sp
  cp : Int
structure Ru where
  num : Int
  lev : Int
  rank : Int
  grp : Int
  kind : Int
  val : Int
  cap : Int
  g : Gd
abbrev spV (s : Sp) : Value := .agg #[.int .i64 s.lo, .int .i64 s.hi]
abbrev gdV (g : Gd) : Value := .agg #[.int .i64 g.tot.lo, .int .i64 g.tot.hi, .slice g.A g.n g.c, .int .i64 g.cp]
abbrev ruV (r : Ru) : Value := .agg #[.int .i64 r.num, .int .i64 r.lev, .int .i64 r.rank, .int .i64 r.grp, .int .i64 r.kind, .int .i64 r.val, .int .i64 r.cap, .int .i64 r.g.tot.lo, .int .i64 r.g.tot.hi, .slice r.g.A r.g.n r.g.c, .int .i64 r.g.cp]
instance : Enc Ru := ⟨11, fun r => [.int .i64 r.num, .int .i64 r.lev, .int .i64 r.rank, .int .i64 r.grp, .int .i64 r.kind, .int .i64 r.val, .int .i64 r.cap, .int .i64 r.g.tot.lo, .int .i64 r.g.tot.hi, .slice r.g.A r.g.n r.g.c, .int .i64 r.g.cp], fun _ => rfl, by omega, fun _ v hv => by simp at hv; rcases hv with rfl | rfl | rfl | rfl | rfl | rfl | rfl | rfl | rfl | rfl | rfl <;> rfl⟩
/-- the counts of a guard read as its list says -/
abbrev GOk (w : World) (g : Gd) : Prop := Sl w (.slice g.A g.n g.c) g.cs
abbrev ROk (w : World) (r : Ru) : Prop := GOk w r.g
def VSp (s : Sp) : Prop := (0 ≤ s.lo ∧ s.lo ≤ 1000000) ∧ (s.lo ≤ s.hi ∧ s.hi ≤ 1000000)
instance (s : Sp) : Decidable (VSp s) := by unfold VSp; infer_instance
def VG (g : Gd) : Prop := VSp g.tot ∧ g.cs.length = 3 ∧ (∀ j, j < g.cs.length → ∀ s, g.cs[j]? = some s → VSp s) ∧ (0 ≤ g.cp ∧ g.cp ≤ 9)
def kindOk (k v : Int) : Prop := (k = 1 ∧ 1 ≤ v ∧ v ≤ 1000) ∨ (k = 2 ∧ 1 ≤ v ∧ v ≤ 1000000) ∨ (k = 3 ∧ 2 ≤ v ∧ v ≤ 20)
def VR (r : Ru) : Prop := (1 ≤ r.num ∧ r.num ≤ 99) ∧ (0 ≤ r.lev ∧ r.lev ≤ 3) ∧ (0 ≤ r.rank ∧ r.rank ≤ 9) ∧ (-1 ≤ r.grp ∧ r.grp ≤ 2) ∧ (0 ≤ r.cap ∧ r.cap ≤ 1000000) ∧ VG r.g ∧ kindOk r.kind r.val
/-- a place of a list of rules is as it should be -/
def ruAt (l : List Ru) (k : Nat) : Prop := ∀ r, l[k]? = some r → VR r ∧ ∀ j, j < k → ∀ r', l[j]? = some r' → r'.num ≠ r.num
def VRs (l : List Ru) : Prop := l.length ≤ 6 ∧ ∀ k, k < l.length → ruAt l k
theorem VRs_iff (l : List Ru) : VRs l ↔ l.length ≤ 6 ∧ (∀ r ∈ l, VR r) ∧ l.Pairwise fun a b => a.num ≠ b.num := by
  constructor
  · rintro ⟨h0, h⟩
    refine ⟨h0, fun r hr => ?_, List.pairwise_iff_getElem.2 fun i j hi hj hij => (h j hj _ (List.getElem?_eq_getElem hj)).2 i hij _ (List.getElem?_eq_getElem hi)⟩
    obtain ⟨j, hj⟩ := List.mem_iff_getElem?.1 hr
    exact (h j (List.getElem?_eq_some_iff.1 hj).1 r hj).1
  · rintro ⟨h0, h1, h2⟩
    refine ⟨h0, fun k hk r hr => ⟨h1 r (List.mem_of_getElem? hr), fun j hj r' hr' => ?_⟩⟩
    have h3 := List.pairwise_iff_getElem.1 h2 j k (by omega) hk hj
    rw [(List.getElem?_eq_some_iff.1 hr).2, (List.getElem?_eq_some_iff.1 hr').2] at h3
    exact h3
theorem VRs_sub {l l' : List Ru} (h : VRs l) (hs : l'.Sublist l) : VRs l' := by
  rw [VRs_iff] at *
  exact ⟨Nat.le_trans hs.length_le h.1, fun r hr => h.2.1 r (hs.subset hr), h.2.2.sublist hs⟩
/-! ### where two guards meet -/
def mx (a b : Sp) : Int := max a.lo b.lo
def mn (a b : Sp) : Int := min a.hi b.hi
/-- all the first places of two lists of spans meet -/
def Meets (a b : Gd) : Prop := mx a.tot b.tot ≤ mn a.tot b.tot ∧ ∀ j : Nat, j < 3 → ∀ x y, a.cs[j]? = some x → b.cs[j]? = some y → mx x y ≤ mn x y
def lows (a b : List Sp) : List Int := List.zipWith mx a b
/-- the numbers up to k that one of two coupons is -/
def cps (x y : Int) (k : Nat) : List Int := ((List.range k).map fun j : Nat => (j : Int) + 1).filter fun n => decide (x = n ∨ y = n)
theorem cps_zero (x y : Int) : cps x y 0 = [] := rfl
theorem cps_yes {x y : Int} {k : Nat} (h : x = (k : Int) + 1 ∨ y = (k : Int) + 1) : cps x y (k + 1) = cps x y k ++ [(k : Int) + 1] := by
  simp [cps, List.range_succ, h]
theorem cps_no {x y : Int} {k : Nat} (h : ¬ (x = (k : Int) + 1 ∨ y = (k : Int) + 1)) : cps x y (k + 1) = cps x y k := by
  simp [cps, List.range_succ, h]
theorem cps_len (x y : Int) (k : Nat) : (cps x y k).length ≤ k := by
  have := List.length_filter_le (fun n => decide (x = n ∨ y = n)) ((List.range k).map fun j : Nat => (j : Int) + 1)
  simpa [cps] using this
theorem mem_cps {x y n : Int} {k : Nat} : n ∈ cps x y k ↔ (1 ≤ n ∧ n ≤ k) ∧ (x = n ∨ y = n) := by
  simp only [cps, List.mem_filter, List.mem_map, List.mem_range, decide_eq_true_eq]
  constructor
  · rintro ⟨⟨j, hj, rfl⟩, h⟩; exact ⟨by omega, h⟩
  · rintro ⟨h1, h2⟩; exact ⟨⟨(n - 1).toNat, by omega, by omega⟩, h2⟩
theorem cps_up (x y : Int) (k : Nat) : (cps x y k).Pairwise fun a b => a < b := by
  apply List.Pairwise.filter
  rw [List.pairwise_map]
  exact List.pairwise_lt_range.imp fun h => by omega
theorem lows_len {a b : List Sp} (ha : a.length = 3) (hb : b.length = 3) : (lows a b).length = 3 := by simp [lows, ha, hb]
theorem lows_take {a b : List Sp} {k : Nat} {x y : Sp} (hx : a[k]? = some x) (hy : b[k]? = some y) : (lows a b).take (k + 1) = (lows a b).take k ++ [mx x y] := by
  have : (lows a b)[k]? = some (mx x y) := by simp [lows, List.getElem?_zipWith, hx, hy]
  simp [List.take_add_one, this]
theorem lows_at {a b : List Sp} {k : Nat} {x y : Sp} (hx : a[k]? = some x) (hy : b[k]? = some y) : (lows a b)[k]? = some (mx x y) := by
  simp [lows, List.getElem?_zipWith, hx, hy]
theorem lows_comm (a b : List Sp) : lows a b = lows b a := by
  unfold lows
  rw [List.zipWith_comm]
  congr 1
  funext x y
  simp only [mx, Int.max_def]; split <;> split <;> omega
theorem cps_comm (x y : Int) (k : Nat) : cps x y k = cps y x k := by
  unfold cps
  congr 1
  funext n
  simp only [Or.comm]
theorem Meets_comm {a b : Gd} (h : Meets a b) : Meets b a := by
  have e1 : ∀ x y : Sp, mx x y = mx y x := fun x y => by simp only [mx, Int.max_def]; split <;> split <;> omega
  have e2 : ∀ x y : Sp, mn x y = mn y x := fun x y => by simp only [mn, Int.min_def]; split <;> split <;> omega
  refine ⟨by rw [e1, e2]; exact h.1, fun j hj x y hx hy => ?_⟩
  rw [e1, e2]
  exact h.2 j hj y x hy hx
/-- two rules are in conflict -/
def Cf (a b : Ru) : Prop := VR a ∧ VR b ∧ a.num ≠ b.num ∧ a.lev = b.lev ∧ a.rank = b.rank ∧ (a.grp = b.grp ∨ a.grp = -1 ∨ b.grp = -1) ∧ Meets a.g b.g
theorem Cf_comm {a b : Ru} (h : Cf a b) : Cf b a := by
  obtain ⟨h1, h2, h3, h4, h5, h6, h7⟩ := h
  exact ⟨h2, h1, fun e => h3 e.symm, h4.symm, h5.symm, by omega, Meets_comm h7⟩
/-! ## rules that say the same, wherever their counts lie -/
def EqG (g g' : Gd) : Prop := g.tot = g'.tot ∧ g.cs = g'.cs ∧ g.cp = g'.cp
def EqR (r r' : Ru) : Prop := r.num = r'.num ∧ r.lev = r'.lev ∧ r.rank = r'.rank ∧ r.grp = r'.grp ∧ r.kind = r'.kind ∧ r.val = r'.val ∧ r.cap = r'.cap ∧ EqG r.g r'.g
theorem EqG.refl (g : Gd) : EqG g g := ⟨rfl, rfl, rfl⟩
theorem EqR.refl (r : Ru) : EqR r r := ⟨rfl, rfl, rfl, rfl, rfl, rfl, rfl, EqG.refl _⟩
theorem EqG.symm {g g' : Gd} (h : EqG g g') : EqG g' g := ⟨h.1.symm, h.2.1.symm, h.2.2.symm⟩
theorem EqR.symm {r r' : Ru} (h : EqR r r') : EqR r' r := ⟨h.1.symm, h.2.1.symm, h.2.2.1.symm, h.2.2.2.1.symm, h.2.2.2.2.1.symm, h.2.2.2.2.2.1.symm, h.2.2.2.2.2.2.1.symm, h.2.2.2.2.2.2.2.symm⟩
theorem VG_eq {g g' : Gd} (h : EqG g g') (hv : VG g) : VG g' := by
  obtain ⟨e1, e2, e3⟩ := h
  unfold VG at *
  rw [← e1, ← e2, ← e3]; exact hv
theorem VR_eq {r r' : Ru} (h : EqR r r') (hv : VR r) : VR r' := by
  obtain ⟨e1, e2, e3, e4, e5, e6, e7, e8⟩ := h
  obtain ⟨q1, q2, q3, q4, q5, q6, q7⟩ := hv
  exact ⟨by rw [← e1]; exact q1, by rw [← e2]; exact q2, by rw [← e3]; exact q3, by rw [← e4]; exact q4, by rw [← e7]; exact q5, VG_eq e8 q6, by rw [← e5, ← e6]; exact q7⟩
theorem VR_iff_eq {r r' : Ru} (h : EqR r r') : VR r ↔ VR r' := ⟨VR_eq h, VR_eq h.symm⟩
/-- two lists of rules say the same -/
def EqL (l l' : List Ru) : Prop := l.length = l'.length ∧ ∀ (j : Nat) (r r' : Ru), l[j]? = some r → l'[j]? = some r' → EqR r r'
theorem EqL.refl (l : List Ru) : EqL l l := ⟨rfl, fun j r r' h h' => by rw [h] at h'; cases h'; exact EqR.refl r⟩
theorem EqL.symm {l l' : List Ru} (h : EqL l l') : EqL l' l := ⟨h.1.symm, fun j r r' h1 h2 => (h.2 j r' r h2 h1).symm⟩
theorem VRs_eq {l l' : List Ru} (h : EqL l l') (hv : VRs l) : VRs l' := by
  refine ⟨by rw [← h.1]; exact hv.1, fun k hk r' hr' => ?_⟩
  have hk2 : k < l.length := by rw [h.1]; exact hk
  have e := h.2 k _ r' (List.getElem?_eq_getElem hk2) hr'
  have hv2 := hv.2 k hk2 _ (List.getElem?_eq_getElem hk2)
  refine ⟨VR_eq e hv2.1, fun j hj r2 hr2 => ?_⟩
  have hj2 : j < l.length := by omega
  have e2 := h.2 j _ r2 (List.getElem?_eq_getElem hj2) hr2
  have := hv2.2 j hj _ (List.getElem?_eq_getElem hj2)
  rw [← e2.1, ← e.1]; exact this
theorem VRs_iff_eq {l l' : List Ru} (h : EqL l l') : VRs l ↔ VRs l' := ⟨VRs_eq h, VRs_eq h.symm⟩
theorem Meets_eq {a a' b b' : Gd} (ha : EqG a a') (hb : EqG b b') (h : Meets a b) : Meets a' b' := by
  unfold Meets at *
  rw [← ha.1, ← hb.1, ← ha.2.1, ← hb.2.1]; exact h
theorem Cf_eq {a a' b b' : Ru} (ha : EqR a a') (hb : EqR b b') (h : Cf a b) : Cf a' b' := by
  obtain ⟨h1, h2, h3, h4, h5, h6, h7⟩ := h
  obtain ⟨a1, a2, a3, a4, _, _, _, a8⟩ := id ha
  obtain ⟨b1, b2, b3, b4, _, _, _, b8⟩ := id hb
  exact ⟨VR_eq ha h1, VR_eq hb h2, by omega, by omega, by omega, by omega, Meets_eq a8 b8 h7⟩
/-! ## lists of rules with one left out, or one twice -/
theorem drop_one_sub {α : Type} (l : List α) (k : Nat) : (l.take k ++ l.drop (k + 1)).Sublist l := by
  have h : (l.drop (k + 1)).Sublist (l.drop k) := by
    rw [← List.drop_drop]; exact List.drop_sublist _ _
  have := (List.Sublist.refl (l.take k)).append h
  rwa [List.take_append_drop] at this
theorem not_twice {l : List Ru} {k : Nat} {r : Ru} (h : l[k]? = some r) : ¬ VRs (l ++ [r]) := fun hv => by
  have hk := (List.getElem?_eq_some_iff.1 h).1
  have h1 := hv.2 l.length (by simp) r (by simp)
  exact h1.2 k hk r (by rw [List.getElem?_append_left hk]; exact h) rfl
abbrev spE (g c : Nat) (xs : List Sp) : Ent := ⟨g, 66, c * Enc.k Sp, flat xs⟩
abbrev ruE (g c : Nat) (xs : List Ru) : Ent := ⟨g, 71, c * Enc.k Ru, flat xs⟩
theorem wi_of {n lo hi : Int} {b : Bool} (h : (lo ≤ n ∧ n ≤ hi) ↔ b = true) : wi n lo hi = b := by
  cases b
  · exact wi_false.2 fun e => absurd (h.1 e) (by simp)
  · exact wi_true.2 (h.2 rfl)
theorem b_of {b c : Bool} (h : b = true ↔ c = true) : b = c := by
  cases b <;> cases c <;> simp_all
/-- the totals meet, and the first k counts -/
def MeetsTo (a b : Gd) (k : Nat) : Prop := mx a.tot b.tot ≤ mn a.tot b.tot ∧ ∀ j, j < k → ∀ x y, a.cs[j]? = some x → b.cs[j]? = some y → mx x y ≤ mn x y
theorem meetsTo_zero (a b : Gd) : MeetsTo a b 0 ↔ mx a.tot b.tot ≤ mn a.tot b.tot := ⟨fun h => h.1, fun h => ⟨h, fun j hj => by omega⟩⟩
theorem meetsTo_succ {a b : Gd} {k : Nat} {x y : Sp} (hx : a.cs[k]? = some x) (hy : b.cs[k]? = some y) : MeetsTo a b (k + 1) ↔ MeetsTo a b k ∧ mx x y ≤ mn x y := by
  constructor
  · rintro ⟨h1, h2⟩
    exact ⟨⟨h1, fun j hj => h2 j (by omega)⟩, h2 k (by omega) x y hx hy⟩
  · rintro ⟨⟨h1, h2⟩, h3⟩
    refine ⟨h1, fun j hj x' y' hx' hy' => ?_⟩
    by_cases hjk : j = k
    · subst hjk; rw [hx] at hx'; rw [hy] at hy'; cases hx'; cases hy'; exact h3
    · exact h2 j (by omega) x' y' hx' hy'
theorem meetsTo_three (a b : Gd) : MeetsTo a b 3 ↔ Meets a b := Iff.rfl
theorem ok_step {p q : Prop} [Decidable q] {r : Prop} (h : r ↔ p ∧ q) (hp : p) : decide q = true ↔ r := by simp [h, hp]
theorem ok_no {p q r : Prop} (h : r ↔ p ∧ q) (hp : ¬ p) : false = true ↔ r := by simp [h, hp]
end Go.Proofs.YtbgfkhliideegaaGreat
