/- Plain facts on pairs of numbers of rules that are gathered one by one. No condition beyond those that each theorem states. -/
import Derived.Test.YtbgfkhliideegaaGreatWOr4
namespace Go.Proofs.YtbgfkhliideegaaGreat
open Go.RowKit
/-- the reference's way: all pairs before (a, b) are there -/
def Gath (l : List Ru) (L : List (Int × Int)) (a b : Int) : Prop := L.Pairwise lex ∧ ∀ p, p ∈ L ↔ Pr2 l p.1 p.2 ∧ lex p (a, b)
theorem gath_start {l : List Ru} (hV : VRs l) : Gath l [] 1 2 := by
  refine ⟨List.Pairwise.nil, fun p => ⟨fun h => (by cases h), fun ⟨⟨x, hx, y, hy, h1, h2, h3, _⟩, h5⟩ => ?_⟩⟩
  have := (VRs_all hV x hx).1
  unfold lex at h5
  simp only at h5
  omega
theorem gath_yes {l : List Ru} {L : List (Int × Int)} {a b : Int} (h : Gath l L a b) (hp : Pr2 l a b) : Gath l (L ++ [(a, b)]) a (b + 1) := by
  refine ⟨List.pairwise_append.2 ⟨h.1, List.pairwise_singleton _ _, fun p hq r hr => ?_⟩, fun p => ?_⟩
  · rw [List.mem_singleton.1 hr]; exact ((h.2 p).1 hq).2
  · rw [List.mem_append, h.2 p, List.mem_singleton]
    constructor
    · rintro (⟨h1, h2⟩ | rfl)
      · exact ⟨h1, by unfold lex at *; simp only at *; omega⟩
      · exact ⟨hp, .inr ⟨rfl, by show b < b + 1; omega⟩⟩
    · rintro ⟨h1, h2⟩
      by_cases he : p = (a, b)
      · exact .inr he
      · refine .inl ⟨h1, ?_⟩
        have : ¬ (p.1 = a ∧ p.2 = b) := fun e => he (Prod.ext e.1 e.2)
        unfold lex at *; simp only at *; omega
theorem gath_no {l : List Ru} {L : List (Int × Int)} {a b : Int} (h : Gath l L a b) (hp : ¬ Pr2 l a b) : Gath l L a (b + 1) := by
  refine ⟨h.1, fun p => ?_⟩
  rw [h.2 p]
  constructor
  · rintro ⟨h1, h2⟩; exact ⟨h1, by unfold lex at *; simp only at *; omega⟩
  · rintro ⟨h1, h2⟩
    refine ⟨h1, ?_⟩
    have : ¬ (p.1 = a ∧ p.2 = b) := fun e => hp (by rw [← e.1, ← e.2]; exact h1)
    unfold lex at *; simp only at *; omega
theorem Pr2_bd {l : List Ru} (hV : VRs l) {a b : Int} (h : Pr2 l a b) : 1 ≤ a ∧ a < b ∧ b ≤ 99 := by
  obtain ⟨x, hx, y, hy, h1, h2, h3, _⟩ := h
  have := (VRs_all hV x hx).1
  have := (VRs_all hV y hy).1
  omega
theorem gath_next {l : List Ru} {L : List (Int × Int)} {a : Int} (hV : VRs l) (h : Gath l L a 100) : Gath l L (a + 1) (a + 1 + 1) := by
  refine ⟨h.1, fun p => ?_⟩
  rw [h.2 p]
  constructor
  · rintro ⟨h1, h2⟩
    have := Pr2_bd hV h1
    exact ⟨h1, by unfold lex at *; simp only at *; omega⟩
  · rintro ⟨h1, h2⟩
    have := Pr2_bd hV h1
    exact ⟨h1, by unfold lex at *; simp only at *; omega⟩
theorem gath_end {l : List Ru} {L : List (Int × Int)} {b : Int} (hV : VRs l) (h : Gath l L 100 b) : IsPairs l L := by
  refine ⟨h.1, fun p => ?_⟩
  rw [h.2 p]
  refine ⟨fun h => h.1, fun h1 => ⟨h1, ?_⟩⟩
  have := Pr2_bd hV h1
  unfold lex; simp only; omega
/-- the program's way: all pairs of places before (i, k) are there, each once -/
def Plc (l : List Ru) (i k : Nat) (p : Int × Int) : Prop := ∃ (i' k' : Nat) (x y : Ru), (i' < i ∨ (i' = i ∧ k' < k)) ∧ l[i']? = some x ∧ l[k']? = some y ∧ p = (x.num, y.num) ∧ x.num < y.num ∧ Cfl x y
def Gat2 (l : List Ru) (L : List (Int × Int)) (i k : Nat) : Prop := L.Nodup ∧ ∀ p, p ∈ L ↔ Plc l i k p
theorem gat2_start (l : List Ru) : Gat2 l [] 0 0 := ⟨List.nodup_nil, fun p => ⟨fun h => (by cases h), fun ⟨i', k', _, _, h, _⟩ => by omega⟩⟩
theorem plc_succ {l : List Ru} {i k : Nat} {x y : Ru} (hx : l[i]? = some x) (hy : l[k]? = some y) (p : Int × Int) : Plc l i (k + 1) p ↔ Plc l i k p ∨ (p = (x.num, y.num) ∧ x.num < y.num ∧ Cfl x y) := by
  constructor
  · rintro ⟨i', k', x', y', h1, h2, h3, h4⟩
    by_cases he : i' = i ∧ k' = k
    · obtain ⟨rfl, rfl⟩ := he
      rw [hx] at h2; rw [hy] at h3
      cases h2; cases h3
      exact .inr h4
    · exact .inl ⟨i', k', x', y', by omega, h2, h3, h4⟩
  · rintro (⟨i', k', x', y', h1, h2, h3, h4⟩ | h4)
    · exact ⟨i', k', x', y', by omega, h2, h3, h4⟩
    · exact ⟨i, k, x, y, by omega, hx, hy, h4⟩
theorem gat2_yes {l : List Ru} {L : List (Int × Int)} {i k : Nat} {x y : Ru} (hn : Nums l) (h : Gat2 l L i k) (hx : l[i]? = some x) (hy : l[k]? = some y) (hlt : x.num < y.num) (hc : Cfl x y) : Gat2 l (L ++ [(x.num, y.num)]) i (k + 1) := by
  refine ⟨List.nodup_append.2 ⟨h.1, by simp, fun p hp q hq e => ?_⟩, fun p => ?_⟩
  · rw [List.mem_singleton.1 hq] at e
    subst e
    obtain ⟨i', k', x', y', h1, h2, h3, h4, _⟩ := (h.2 _).1 hp
    simp only [Prod.mk.injEq] at h4
    have e1 := num_inj hn hx h2 h4.1
    have e2 := num_inj hn hy h3 h4.2
    omega
  · rw [List.mem_append, h.2 p, List.mem_singleton, plc_succ hx hy]
    constructor
    · rintro (h1 | rfl)
      · exact .inl h1
      · exact .inr ⟨rfl, hlt, hc⟩
    · rintro (h1 | ⟨h1, _⟩)
      · exact .inl h1
      · exact .inr h1
theorem gat2_no {l : List Ru} {L : List (Int × Int)} {i k : Nat} {x y : Ru} (h : Gat2 l L i k) (hx : l[i]? = some x) (hy : l[k]? = some y) (hc : ¬ (x.num < y.num ∧ Cfl x y)) : Gat2 l L i (k + 1) := by
  refine ⟨h.1, fun p => ?_⟩
  rw [h.2 p, plc_succ hx hy]
  exact ⟨.inl, fun h => h.elim id fun h => absurd h.2 hc⟩
theorem gat2_next {l : List Ru} {L : List (Int × Int)} {i : Nat} (h : Gat2 l L i l.length) : Gat2 l L (i + 1) 0 := by
  refine ⟨h.1, fun p => ?_⟩
  rw [h.2 p]
  constructor
  · rintro ⟨i', k', x', y', h1, h2⟩; exact ⟨i', k', x', y', by omega, h2⟩
  · rintro ⟨i', k', x', y', h1, h2, h3, h4⟩
    have := (List.getElem?_eq_some_iff.1 h3).1
    exact ⟨i', k', x', y', by omega, h2, h3, h4⟩
theorem gat2_end {l : List Ru} {L L' : List (Int × Int)} (h : Gat2 l L l.length 0) (hp : L'.Perm L) (hs : L'.Pairwise fun a b => ¬ lex b a) : IsPairs l L' := by
  have hn' : L'.Nodup := hp.nodup_iff.2 h.1
  have hso : L'.Pairwise lex := (hn'.and hs).imp fun {a b} ⟨h1, h2⟩ => by
    rcases lex_total h1 with h3 | h3
    · exact h3
    · exact absurd h3 h2
  refine ⟨hso, fun p => ?_⟩
  · rw [hp.mem_iff, h.2 p]
    constructor
    · rintro ⟨i', k', x', y', h1, h2, h3, rfl, h5, h6⟩
      exact ⟨x', List.mem_of_getElem? h2, y', List.mem_of_getElem? h3, rfl, rfl, h5, h6⟩
    · rintro ⟨x, hx, y, hy, h1, h2, h3, h4⟩
      obtain ⟨i', hi'⟩ := List.mem_iff_getElem?.1 hx
      obtain ⟨k', hk'⟩ := List.mem_iff_getElem?.1 hy
      have := (List.getElem?_eq_some_iff.1 hi').1
      exact ⟨i', k', x, y, by omega, hi', hk', Prod.ext h1.symm h2.symm, by omega, h4⟩
/-- pairs whose blocks are as they should be -/
def PpOk (ps : List Pp) : Prop := ∀ p ∈ ps, 2 ≤ p.c ∧ p.c ≤ maxLen
theorem PpOk.nil : PpOk [] := fun _ h => by cases h
theorem PpOk.snoc {ps : List Pp} (h : PpOk ps) {p : Pp} (h1 : 2 ≤ p.c) (h2 : p.c ≤ maxLen) : PpOk (ps ++ [p]) := fun q hq => by
  rcases List.mem_append.1 hq with hq | hq
  · exact h q hq
  · cases List.mem_singleton.1 hq; exact ⟨h1, h2⟩
/-- the blocks of pairs, the last one first -/
def pEs (ps : List Pp) : List Ent := ps.reverse.map pEnt
theorem pEs_nil : pEs [] = [] := rfl
theorem pEs_snoc (ps : List Pp) (p : Pp) : pEs (ps ++ [p]) = pEnt p :: pEs ps := by simp [pEs]
theorem pEs_mem {ps : List Pp} {p : Pp} (h : p ∈ ps) : pEnt p ∈ pEs ps := List.mem_map.2 ⟨p, by simpa using h, rfl⟩
theorem pEs_perm {ps qs : List Pp} (h : ps.Perm qs) : (pEs ps).Perm (pEs qs) := (((List.reverse_perm ps).trans h).trans (List.reverse_perm qs).symm).map _
theorem map_snoc (ps : List Pp) (p : Pp) : (ps ++ [p]).map pPr = ps.map pPr ++ [pPr p] := by simp
end Go.Proofs.YtbgfkhliideegaaGreat
