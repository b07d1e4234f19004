/- Plain facts on the order of rules and on their conflicts. No condition beyond those that each theorem states. -/
import Derived.Test.YtbgfkhliideegaaGreatPRu
namespace Go.Proofs.YtbgfkhliideegaaGreat
/-! ## the order of rules -/
def bef (a b : Ru) : Prop := a.lev < b.lev ∨ (a.lev = b.lev ∧ (a.rank < b.rank ∨ (a.rank = b.rank ∧ a.num < b.num)))
instance (a b : Ru) : Decidable (bef a b) := by unfold bef; infer_instance
theorem bef_irrefl (a : Ru) : ¬ bef a a := by unfold bef; omega
theorem bef_trans {a b c : Ru} (h : bef a b) (h' : bef b c) : bef a c := by unfold bef at *; omega
theorem bef_asymm {a b : Ru} (h : bef a b) : ¬ bef b a := by unfold bef at *; omega
theorem bef_total {a b : Ru} (h : a.num ≠ b.num) : bef a b ∨ bef b a := by unfold bef; omega
theorem bef_ntrans {a b c : Ru} (h : ¬ bef a b) (h' : ¬ bef b c) : ¬ bef a c := by unfold bef at *; omega
abbrev Nums (l : List Ru) : Prop := l.Pairwise fun a b => a.num ≠ b.num
theorem Nums.perm {l l' : List Ru} (h : Nums l) (hp : l.Perm l') : Nums l' := List.Pairwise.perm h hp (fun {_ _} h e => h e.symm)
theorem perm_unique {l a b : List Ru} (ha : a.Perm l) (hb : b.Perm l) (sa : a.Pairwise bef) (sb : b.Pairwise bef) : a = b := by
  refine List.Perm.eq_of_pairwise ?_ sa sb (ha.trans hb.symm)
  intro x y _ _ h1 h2
  exact absurd h2 (bef_asymm h1)
def srt (l : List Ru) : List Ru := l.mergeSort fun a b => !decide (bef b a)
theorem srt_perm (l : List Ru) : (srt l).Perm l := List.mergeSort_perm _ _
theorem nbef_pairwise {l : List Ru} (hn : Nums l) (h : l.Pairwise fun a b => ¬ bef b a) : l.Pairwise bef := by
  refine (hn.and h).imp fun {a b} ⟨h1, h2⟩ => ?_
  rcases bef_total h1 with h3 | h3
  · exact h3
  · exact absurd h3 h2
theorem srt_sorted {l : List Ru} (hn : Nums l) : (srt l).Pairwise bef := by
  refine nbef_pairwise (hn.perm (srt_perm l).symm) ?_
  have h := List.pairwise_mergeSort (le := fun a b : Ru => !decide (bef b a)) (fun a b c h1 h2 => by
    simp only [Bool.not_eq_true', decide_eq_false_iff_not] at *
    exact bef_ntrans h2 h1) (fun a b => by
    simp only [Bool.or_eq_true, Bool.not_eq_true', decide_eq_false_iff_not]
    by_cases h : bef b a
    · exact .inr (bef_asymm h)
    · exact .inl h) l
  exact h.imp fun {a b} h => by simpa using h
theorem srt_eq {l a : List Ru} (hn : Nums l) (ha : a.Perm l) (sa : a.Pairwise bef) : a = srt l := perm_unique ha (srt_perm l) sa (srt_sorted hn)
theorem srt_len (l : List Ru) : (srt l).length = l.length := (srt_perm l).length_eq
theorem VRs_nums {l : List Ru} (h : VRs l) : Nums l := ((VRs_iff l).1 h).2.2
theorem VRs_all {l : List Ru} (h : VRs l) : ∀ r ∈ l, VR r := ((VRs_iff l).1 h).2.1
theorem VRs_perm {l l' : List Ru} (h : VRs l) (hp : l.Perm l') : VRs l' := by
  rw [VRs_iff] at *
  exact ⟨by rw [← hp.length_eq]; exact h.1, fun r hr => h.2.1 r (hp.mem_iff.2 hr), Nums.perm h.2.2 hp⟩
theorem srt_same {l l' : List Ru} (h : VRs l) (hp : l.Perm l') : srt l' = srt l := (srt_eq (VRs_nums h) ((srt_perm l').trans hp.symm) (srt_sorted (VRs_nums (VRs_perm h hp))))
/-! ### a rule put in among those in order -/
theorem ins_sorted {s : List Ru} {x : Ru} (hs : s.Pairwise bef) (hx : ∀ y ∈ s, y.num ≠ x.num) {k : Nat} (hk : k ≤ s.length) (hd : ∀ y ∈ s.drop k, bef x y) (ht : k = 0 ∨ ∃ z, s[k-1]? = some z ∧ ¬ bef x z) : (s.take k ++ x :: s.drop k).Pairwise bef := by
  have h1 : (s.take k ++ s.drop k).Pairwise bef := by rw [List.take_append_drop]; exact hs
  rw [List.pairwise_append] at h1
  rw [List.pairwise_append]
  refine ⟨h1.1, List.pairwise_cons.2 ⟨hd, h1.2.1⟩, fun a ha b hb => ?_⟩
  rcases List.mem_cons.1 hb with rfl | hb
  · rcases ht with rfl | ⟨z, hz, hzb⟩
    · simp at ha
    · have hzs : z ∈ s := List.mem_of_getElem? hz
      have hzx : bef z b := by
        rcases bef_total (hx z hzs) with h | h
        · exact h
        · exact absurd h hzb
      obtain ⟨i, hi⟩ := List.mem_iff_getElem?.1 ha
      have hi2 := (List.getElem?_eq_some_iff.1 hi).1
      rw [List.length_take] at hi2
      rw [List.getElem?_take, if_pos (by omega)] at hi
      by_cases hik : i = k - 1
      · subst hik; rw [hz] at hi; cases hi; exact hzx
      · have h3 := List.pairwise_iff_getElem.1 hs i (k - 1) (by omega) (by omega) (by omega)
        rw [(List.getElem?_eq_some_iff.1 hi).2, (List.getElem?_eq_some_iff.1 hz).2] at h3
        exact bef_trans h3 hzx
  · exact h1.2.2 a ha b hb
theorem ins_perm (s : List Ru) (x : Ru) (k : Nat) : (s.take k ++ x :: s.drop k).Perm (s ++ [x]) := by
  have h1 : (s.take k ++ x :: s.drop k).Perm (x :: (s.take k ++ s.drop k)) := List.perm_middle
  rw [List.take_append_drop] at h1
  exact h1.trans (List.perm_append_singleton x s).symm
/-! ## conflicts -/
/-- two rules of a list of valid rules are in conflict -/
def Cfl (a b : Ru) : Prop := a.lev = b.lev ∧ a.rank = b.rank ∧ (a.grp < 0 ∨ b.grp < 0 ∨ a.grp = b.grp) ∧ Meets a.g b.g
theorem Cf_iff {a b : Ru} (va : VR a) (vb : VR b) (hn : a.num ≠ b.num) : Cf a b ↔ Cfl a b := by
  have h1 := va.2.2.2.1
  have h2 := vb.2.2.2.1
  unfold Cf Cfl
  constructor
  · rintro ⟨_, _, _, a1, a2, a3, a4⟩; exact ⟨a1, a2, by omega, a4⟩
  · rintro ⟨a1, a2, a3, a4⟩; exact ⟨va, vb, hn, a1, a2, by omega, a4⟩
theorem Cfl_comm {a b : Ru} (h : Cfl a b) : Cfl b a := ⟨h.1.symm, h.2.1.symm, by have := h.2.2.1; omega, Meets_comm h.2.2.2⟩
/-- the numbers of two rules of a list that are in conflict -/
def Pr2 (l : List Ru) (a b : Int) : Prop := ∃ x ∈ l, ∃ y ∈ l, x.num = a ∧ y.num = b ∧ a < b ∧ Cfl x y
def lex (p q : Int × Int) : Prop := p.1 < q.1 ∨ (p.1 = q.1 ∧ p.2 < q.2)
theorem lex_asymm {p q : Int × Int} (h : lex p q) : ¬ lex q p := by unfold lex at *; omega
theorem lex_trans {p q r : Int × Int} (h : lex p q) (h' : lex q r) : lex p r := by unfold lex at *; omega
theorem lex_irrefl (p : Int × Int) : ¬ lex p p := by unfold lex; omega
theorem lex_total {p q : Int × Int} (h : p ≠ q) : lex p q ∨ lex q p := by
  unfold lex
  have : ¬ (p.1 = q.1 ∧ p.2 = q.2) := fun e => h (Prod.ext e.1 e.2)
  omega
/-- the pairs of a list, in order -/
def IsPairs (l : List Ru) (ps : List (Int × Int)) : Prop := ps.Pairwise lex ∧ ∀ p, p ∈ ps ↔ Pr2 l p.1 p.2
theorem pairs_unique {l : List Ru} {a b : List (Int × Int)} (ha : IsPairs l a) (hb : IsPairs l b) : a = b := by
  have na : a.Nodup := ha.1.imp fun {x y} h e => by subst e; exact lex_irrefl _ h
  have nb : b.Nodup := hb.1.imp fun {x y} h e => by subst e; exact lex_irrefl _ h
  have hp : a.Perm b := (List.perm_ext_iff_of_nodup na nb).2 fun p => (ha.2 p).trans (hb.2 p).symm
  exact List.Perm.eq_of_pairwise (fun x y _ _ h1 h2 => absurd h2 (lex_asymm h1)) ha.1 hb.1 hp
theorem Pr2_perm {l l' : List Ru} (hp : l.Perm l') (a b : Int) : Pr2 l a b ↔ Pr2 l' a b := by
  unfold Pr2
  constructor
  · rintro ⟨x, hx, y, hy, h⟩; exact ⟨x, hp.mem_iff.1 hx, y, hp.mem_iff.1 hy, h⟩
  · rintro ⟨x, hx, y, hy, h⟩; exact ⟨x, hp.mem_iff.2 hx, y, hp.mem_iff.2 hy, h⟩
theorem IsPairs_perm {l l' : List Ru} (hp : l.Perm l') {ps : List (Int × Int)} (h : IsPairs l ps) : IsPairs l' ps := ⟨h.1, fun p => (h.2 p).trans (Pr2_perm hp _ _)⟩
/-- no two rules are in conflict -/
def Clear (l : List Ru) : Prop := VRs l ∧ ∀ a b, ¬ Pr2 l a b
theorem Clear_pairs {l : List Ru} {ps : List (Int × Int)} (hv : VRs l) (h : IsPairs l ps) : Clear l ↔ ps = [] := by
  constructor
  · intro hc
    cases ps with
    | nil => rfl
    | cons p ps => exact absurd ((h.2 p).1 (List.mem_cons_self)) (hc.2 _ _)
  · rintro rfl
    exact ⟨hv, fun a b hab => by have := (h.2 (a, b)).2 hab; cases this⟩
/-- clear, told by places -/
theorem Clear_at {l : List Ru} (hv : VRs l) : Clear l ↔ ∀ (i j : Nat) (x y : Ru), i < j → l[i]? = some x → l[j]? = some y → ¬ Cfl x y := by
  have hn := VRs_nums hv
  constructor
  · intro hc i j x y hij hx hy hC
    have hxm := List.mem_of_getElem? hx
    have hym := List.mem_of_getElem? hy
    have h3 := List.pairwise_iff_getElem.1 hn i j (List.getElem?_eq_some_iff.1 hx).1 (List.getElem?_eq_some_iff.1 hy).1 hij
    rw [(List.getElem?_eq_some_iff.1 hx).2, (List.getElem?_eq_some_iff.1 hy).2] at h3
    rcases Int.lt_or_gt_of_ne h3 with h | h
    · exact hc.2 _ _ ⟨x, hxm, y, hym, rfl, rfl, h, hC⟩
    · exact hc.2 _ _ ⟨y, hym, x, hxm, rfl, rfl, h, Cfl_comm hC⟩
  · intro h
    refine ⟨hv, fun a b ⟨x, hx, y, hy, hxa, hyb, hab, hC⟩ => ?_⟩
    obtain ⟨i, hi⟩ := List.mem_iff_getElem?.1 hx
    obtain ⟨j, hj⟩ := List.mem_iff_getElem?.1 hy
    rcases Nat.lt_trichotomy i j with hij | hij | hij
    · exact h i j x y hij hi hj hC
    · subst hij; rw [hi] at hj; cases hj; omega
    · exact h j i y x hij hj hi (Cfl_comm hC)
theorem Clear_sub {l l' : List Ru} (h : Clear l) (hs : l'.Sublist l) : Clear l' :=
  ⟨VRs_sub h.1 hs, fun a b ⟨x, hx, y, hy, hr⟩ => h.2 a b ⟨x, hs.subset hx, y, hs.subset hy, hr⟩⟩
theorem Clear_perm {l l' : List Ru} (h : Clear l) (hp : l.Perm l') : Clear l' := ⟨VRs_perm h.1 hp, fun a b hab => h.2 a b ((Pr2_perm hp a b).2 hab)⟩
/-- the same rules, wherever their counts lie -/
theorem Cfl_eq {a a' b b' : Ru} (ha : EqR a a') (hb : EqR b b') (h : Cfl a b) : Cfl a' b' := by
  obtain ⟨h1, h2, h3, h4⟩ := h
  obtain ⟨_, a2, a3, a4, _, _, _, a8⟩ := id ha
  obtain ⟨_, b2, b3, b4, _, _, _, b8⟩ := id hb
  exact ⟨by omega, by omega, by omega, Meets_eq a8 b8 h4⟩
theorem EqL.mem {l l' : List Ru} (h : EqL l l') {r : Ru} (hr : r ∈ l) : ∃ r' ∈ l', EqR r r' := by
  obtain ⟨j, hj⟩ := List.mem_iff_getElem?.1 hr
  have hl := (List.getElem?_eq_some_iff.1 hj).1
  have hl' : j < l'.length := by rw [← h.1]; exact hl
  exact ⟨l'[j], List.getElem_mem hl', h.2 j r _ hj (List.getElem?_eq_getElem hl')⟩
theorem Pr2_eq {l l' : List Ru} (h : EqL l l') {a b : Int} (hp : Pr2 l a b) : Pr2 l' a b := by
  obtain ⟨x, hx, y, hy, h1, h2, h3, h4⟩ := hp
  obtain ⟨x', hx', ex⟩ := h.mem hx
  obtain ⟨y', hy', ey⟩ := h.mem hy
  exact ⟨x', hx', y', hy', by rw [← ex.1]; exact h1, by rw [← ey.1]; exact h2, h3, Cfl_eq ex ey h4⟩
theorem Clear_eq {l l' : List Ru} (h : EqL l l') (hc : Clear l) : Clear l' := ⟨VRs_eq h hc.1, fun a b hp => hc.2 a b (Pr2_eq h.symm hp)⟩
theorem IsPairs_eq {l l' : List Ru} (h : EqL l l') {ps : List (Int × Int)} (hp : IsPairs l ps) : IsPairs l' ps := ⟨hp.1, fun p => (hp.2 p).trans ⟨Pr2_eq h, Pr2_eq h.symm⟩⟩
/-- the sorted lists of two lists that say the same say the same -/
theorem srt_nums_eq {l l' : List Ru} (h : EqL l l') (hv : VRs l) : (srt l).map Ru.num = (srt l').map Ru.num := by
  have hv' := VRs_eq h hv
  -- both are sorted by one key of the number
  let key : Int → Int × Int × Int := fun n => match l.find? (fun r => r.num = n) with | some r => (r.lev, r.rank, r.num) | none => (0, 0, 0)
  have hn := VRs_nums hv
  have hn' := VRs_nums hv'
  have hk : ∀ r ∈ l, key r.num = (r.lev, r.rank, r.num) := fun r hr => by
    have hf : ∃ q, l.find? (fun x => decide (x.num = r.num)) = some q := by
      cases hq : l.find? (fun x => decide (x.num = r.num)) with
      | some q => exact ⟨q, rfl⟩
      | none => have := List.find?_eq_none.1 hq r hr; simp at this
    obtain ⟨q, hq⟩ := hf
    have h1 := List.mem_of_find?_eq_some hq
    have h2 : q.num = r.num := by simpa using List.find?_some hq
    have h3 : q = r := by
      obtain ⟨i, hi⟩ := List.mem_iff_getElem?.1 h1
      obtain ⟨j, hj⟩ := List.mem_iff_getElem?.1 hr
      rcases Nat.lt_trichotomy i j with hij | hij | hij
      · have h5 := List.pairwise_iff_getElem.1 hn i j (List.getElem?_eq_some_iff.1 hi).1 (List.getElem?_eq_some_iff.1 hj).1 hij
        rw [(List.getElem?_eq_some_iff.1 hi).2, (List.getElem?_eq_some_iff.1 hj).2] at h5
        exact absurd h2 h5
      · subst hij; rw [hi] at hj; cases hj; rfl
      · have h5 := List.pairwise_iff_getElem.1 hn j i (List.getElem?_eq_some_iff.1 hj).1 (List.getElem?_eq_some_iff.1 hi).1 hij
        rw [(List.getElem?_eq_some_iff.1 hi).2, (List.getElem?_eq_some_iff.1 hj).2] at h5
        exact absurd h2.symm h5
    show (match l.find? (fun x => decide (x.num = r.num)) with | some r => (r.lev, r.rank, r.num) | none => (0, 0, 0)) = _
    rw [hq, h3]
  have hk' : ∀ r ∈ l', key r.num = (r.lev, r.rank, r.num) := fun r hr => by
    obtain ⟨q, hq, e⟩ := h.symm.mem hr
    rw [e.1, hk q hq, e.2.1, e.2.2.1]
  let kb : Int → Int → Prop := fun m n => (key m).1 < (key n).1 ∨ ((key m).1 = (key n).1 ∧ ((key m).2.1 < (key n).2.1 ∨ ((key m).2.1 = (key n).2.1 ∧ (key m).2.2 < (key n).2.2)))
  have hs : ((srt l).map Ru.num).Pairwise kb := by
    rw [List.pairwise_map]
    refine List.Pairwise.imp_of_mem (fun {a b} ha hb hab => ?_) (srt_sorted hn)
    show _ ∨ _
    rw [hk a ((srt_perm l).mem_iff.1 ha), hk b ((srt_perm l).mem_iff.1 hb)]
    exact hab
  have hs' : ((srt l').map Ru.num).Pairwise kb := by
    rw [List.pairwise_map]
    refine List.Pairwise.imp_of_mem (fun {a b} ha hb hab => ?_) (srt_sorted hn')
    show _ ∨ _
    rw [hk' a ((srt_perm l').mem_iff.1 ha), hk' b ((srt_perm l').mem_iff.1 hb)]
    exact hab
  have hm : l.map Ru.num = l'.map Ru.num := by
    apply List.ext_getElem?
    intro j
    rw [List.getElem?_map, List.getElem?_map]
    by_cases hj : j < l.length
    · have hj' : j < l'.length := by rw [← h.1]; exact hj
      rw [List.getElem?_eq_getElem hj, List.getElem?_eq_getElem hj']
      simp only [Option.map_some, Option.some.injEq]
      exact (h.2 j _ _ (List.getElem?_eq_getElem hj) (List.getElem?_eq_getElem hj')).1
    · have hj' : ¬ j < l'.length := by rw [← h.1]; exact hj
      rw [List.getElem?_eq_none (by omega), List.getElem?_eq_none (by omega)]
  have hp : ((srt l).map Ru.num).Perm ((srt l').map Ru.num) := ((srt_perm l).map _).trans ((hm ▸ List.Perm.refl _ : (l.map Ru.num).Perm (l'.map Ru.num)).trans ((srt_perm l').map _).symm)
  exact List.Perm.eq_of_pairwise (fun x y _ _ h1 h2 => by simp only [kb] at h1 h2; omega) hs hs' hp
end Go.Proofs.YtbgfkhliideegaaGreat
