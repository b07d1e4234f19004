/-
  Rules for carrying a given program out step by step over the model: a frame is a list of known slots, a world is known by a list of the call's own blocks; each rule is proved from the kit's laws. No condition beyond those that each rule states.
-/
import Derived.WalkKit
import Derived.Deep.QuietTactic
import Derived.Maps.AppendAt
import Derived.Deep.LoopGhost
import Derived.OrdersHeld
namespace Go.Proofs.YtbgfkhliideegaaGreat
open Go.RowKit

/-! ## frames -/
abbrev Env := List (Nat × Value)
def look : Env → Nat → Option Value
  | [], _ => none
  | (d, v) :: e, t => cond (Nat.beq d t) (some v) (look e t)
def evO (e : Env) : Operand → Option Value
  | .tmp t => look e t
  | .const v => some v
  | .global g => some (.pointer (some ⟨g, 0, none⟩))
  | .func f => some (.func (.func f) #[] #[])
def evL (e : Env) : List Operand → Option (List Value)
  | [] => some []
  | x :: l => match evO e x, evL e l with
    | some v, some vs => some (v :: vs)
    | _, _ => none
structure Fr (N : Nat) (e : Env) (a : Act) : Prop where
  defers : a.defers = []
  size : a.tmps.size = N
  at_ : ∀ t v, look e t = some v → a.tmps.getD t undef = v

theorem look_cons (d : Nat) (v : Value) (e : Env) (t : Nat) : look ((d, v) :: e) t = if d = t then some v else look e t := by
  simp only [look]
  by_cases h : d = t
  · subst h; simp
  · have : Nat.beq d t = false := by
      cases hb : Nat.beq d t with
      | false => rfl
      | true => exact absurd (Nat.eq_of_beq_eq_true hb) h
    simp [this, h]
theorem Fr.put {N : Nat} {e : Env} {a : Act} (h : Fr N e a) {d : Nat} (hd : Nat.blt d N = true) (v : Value) : Fr N ((d, v) :: e) (a.put (some d) v) := by
  have hd' : d < N := by simpa [Nat.blt_eq] using hd
  refine ⟨h.defers, by simpa [Act.put] using h.size, fun t u ht => ?_⟩
  rw [look_cons] at ht
  by_cases hdt : d = t
  · subst hdt
    simp only [if_true, Option.some.injEq] at ht
    subst ht
    have := h.size
    simp [Act.put, Array.getD_eq_getD_getElem?, this, hd']
  · rw [if_neg hdt] at ht
    have := h.at_ t u ht
    rw [← this]
    simp [Act.put, Array.getD_eq_getD_getElem?, hdt]
theorem Fr.put_none {N : Nat} {e : Env} {a : Act} (h : Fr N e a) (v : Value) : Fr N e (a.put none v) := h
theorem Fr.ev {N : Nat} {e : Env} {a : Act} (h : Fr N e a) {x : Operand} {v : Value} (hx : evO e x = some v) : a.eval x = v := by
  cases x with
  | tmp t => exact h.at_ t v hx
  | const u => simpa [evO, Act.eval] using hx
  | global g => simpa [evO, Act.eval] using hx
  | func f => simpa [evO, Act.eval] using hx
theorem Fr.evs {N : Nat} {e : Env} {a : Act} (h : Fr N e a) : ∀ {l : List Operand} {vs : List Value}, evL e l = some vs → l.map a.eval = vs
  | [], vs, hl => by simpa [evL] using hl
  | x :: l, vs, hl => by
    simp only [evL] at hl
    split at hl
    · rename_i v us hv hus
      simp only [Option.some.injEq] at hl
      subst hl
      simp [h.ev hv, h.evs hus]
    · cases hl
/-- A smaller environment. -/
def SubE (e : Env) : Env → Prop
  | [] => True
  | (t, v) :: r => look e t = some v ∧ SubE e r
theorem SubE.look {e : Env} : ∀ {r : Env}, SubE e r → ∀ t v, look r t = some v → look e t = some v
  | [], _, t, v, h => by simp [Go.Proofs.YtbgfkhliideegaaGreat.look] at h
  | (d, u) :: r, hs, t, v, h => by
    rw [look_cons] at h
    by_cases hd : d = t
    · subst hd; simp only [if_true, Option.some.injEq] at h; subst h; exact hs.1
    · rw [if_neg hd] at h; exact hs.2.look t v h
theorem Fr.sub {N : Nat} {e r : Env} {a : Act} (h : Fr N e a) (hs : SubE e r) : Fr N r a := ⟨h.defers, h.size, fun t v ht => h.at_ t v (hs.look t v ht)⟩

/-! ## worlds -/
structure Ent where
  g : Nat
  T : TypeId
  tot : Nat
  cs : List Value
def Ent.At (x : Ent) (w : World) : Prop := ∃ cur : Array Value, w.heap[x.g]? = some (.cells cur x.T (0, 0)) ∧ cur.size = x.tot ∧ x.cs <+: cur.toList
/-- nothing below B has turned, and the tape was asked no less often -/
structure Bl (B : Nat) (w w' : World) : Prop where
  b : Below B w w'
  dr : w.drawn ≤ w'.drawn
theorem Bl.refl (B : Nat) (w : World) : Bl B w w := ⟨Below.refl _ _, Nat.le_refl _⟩
theorem Bl.trans {B : Nat} {a b c : World} (h : Bl B a b) (k : Bl B b c) : Bl B a c := ⟨h.b.trans k.b, Nat.le_trans h.dr k.dr⟩
theorem Bl.mono {B B' : Nat} {w w' : World} (h : Bl B w w') (hB : B' ≤ B) : Bl B' w w' := ⟨h.b.mono hB, h.dr⟩
theorem Bl.size {B : Nat} {w w' : World} (h : Bl B w w') : w.heap.size ≤ w'.heap.size := h.b.size
theorem Bl.block {B : Nat} {w w' : World} (h : Bl B w w') : ∀ k, k < B → w'.heap[k]? = w.heap[k]? := h.b.block
theorem Bl.cell {B : Nat} {w w' : World} (h : Bl B w w') {p : Addr} (hp : p.block < B) : w'.cell? p = w.cell? p := h.b.cell hp
theorem Bl.drew {B : Nat} {a w : World} (h : Bl B a w) : Bl B a w.drew := ⟨h.b.drew, Nat.le_trans h.dr (Nat.le_succ _)⟩
theorem Bl.alloc {B : Nat} {a w : World} (h : Bl B a w) (hB : B ≤ w.heap.size) (o : Obj) : Bl B a (w.alloc o) := ⟨h.b.alloc hB o, h.dr⟩
theorem Bl.grown {B : Nat} {a w w' : World} {row : Option Nat} (h : Bl B a w) (hg : w.grownBy w' row) (hd : w.drawn ≤ w'.drawn) (hB : B ≤ w.heap.size) (hr : ∀ k, row = some k → B ≤ k) : Bl B a w' := ⟨h.b.grown hg hB hr, Nat.le_trans h.dr hd⟩
structure Wd (w0 : World) (h : List Ent) (w : World) : Prop where
  below : Bl w0.heap.size w0 w
  at_ : ∀ x ∈ h, w0.heap.size ≤ x.g ∧ x.At w
  apart : h.Pairwise fun x y => x.g ≠ y.g

theorem Ent.At.lt {x : Ent} {w : World} (h : x.At w) : x.g < w.heap.size := by
  obtain ⟨cur, h, _⟩ := h
  exact (Array.getElem?_eq_some_iff.1 h).1
theorem Ent.At.of_block {x : Ent} {w w' : World} (h : x.At w) (hb : w'.heap[x.g]? = w.heap[x.g]?) : x.At w' := by
  obtain ⟨cur, h, r⟩ := h
  exact ⟨cur, hb.trans h, r⟩
theorem Ent.At.cell {x : Ent} {w : World} (h : x.At w) {i : Nat} {v : Value} (hi : x.cs[i]? = some v) : w.cell? ⟨x.g, i, none⟩ = some v := by
  obtain ⟨cur, h, hs, hp⟩ := h
  rw [cell_of_row w x.g i cur x.T (0, 0) h]
  obtain ⟨t, ht⟩ := hp
  have : cur[i]? = cur.toList[i]? := by simp
  rw [this, ← ht, List.getElem?_append_left (by rw [List.getElem?_eq_some_iff] at hi; exact hi.1), hi]
theorem Ent.At.frozen {x : Ent} {w : World} (h : x.At w) (i : Nat) : w.frozen? ⟨x.g, i, none⟩ = false := by
  obtain ⟨cur, h, _⟩ := h
  simp [World.frozen?, h]

theorem Wd.refl (w : World) : Wd w [] w := ⟨Bl.refl _ _, fun _ h => (by cases h), List.Pairwise.nil⟩
theorem Wd.size {w0 w : World} {h : List Ent} (hw : Wd w0 h w) : w0.heap.size ≤ w.heap.size := hw.below.size
theorem Wd.sub {w0 w : World} {h h' : List Ent} (hw : Wd w0 h w) (hs : h'.Sublist h) : Wd w0 h' w :=
  ⟨hw.below, fun x hx => hw.at_ x (hs.subset hx), hw.apart.sublist hs⟩
theorem Wd.perm {w0 w : World} {h h' : List Ent} (hw : Wd w0 h w) (hs : h.Perm h') : Wd w0 h' w :=
  ⟨hw.below, fun x hx => hw.at_ x (hs.mem_iff.2 hx), hw.apart.perm hs (fun {_ _} h e => h e.symm)⟩
theorem Wd.nil {w0 w : World} {h : List Ent} (hw : Wd w0 h w) : Wd w0 [] w := hw.sub (List.nil_sublist _)
theorem Wd.tail {w0 w : World} {x : Ent} {h : List Ent} (hw : Wd w0 (x :: h) w) : Wd w0 h w := hw.sub (List.sublist_cons_self _ _)
theorem Wd.head {w0 w : World} {x : Ent} {h : List Ent} (hw : Wd w0 (x :: h) w) : x.At w := (hw.at_ x (List.mem_cons_self)).2
theorem Wd.drew {w0 w : World} {h : List Ent} (hw : Wd w0 h w) : Wd w0 h w.drew := ⟨hw.below.drew, hw.at_, hw.apart⟩
theorem Wd.alloc {w0 w : World} {h : List Ent} (hw : Wd w0 h w) (cur : Array Value) (T : TypeId) (cs : List Value) (hc : cs <+: cur.toList) :
    Wd w0 (⟨w.heap.size, T, cur.size, cs⟩ :: h) (w.alloc (.cells cur T)) := by
  refine ⟨hw.below.alloc hw.size _, fun x hx => ?_, List.pairwise_cons.2 ⟨fun y hy => ?_, hw.apart⟩⟩
  · rcases List.mem_cons.1 hx with rfl | hx
    · exact ⟨hw.size, cur, heap_alloc_new w _, rfl, hc⟩
    · exact ⟨(hw.at_ x hx).1, (hw.at_ x hx).2.of_block (Below.heap_alloc w _ _ (hw.at_ x hx).2.lt)⟩
  · have := (hw.at_ y hy).2.lt
    exact fun e => by simp only at e; omega
/-- What a call leaves. -/
theorem Wd.call {w0 w w' : World} {h h' : List Ent} (hw : Wd w0 h w) (hc : Wd w h' w') : Wd w0 (h' ++ h) w' := by
  refine ⟨hw.below.trans (hc.below.mono hw.size), fun x hx => ?_, List.pairwise_append.2 ⟨hc.apart, hw.apart, fun x hx y hy => ?_⟩⟩
  · rcases List.mem_append.1 hx with hx | hx
    · exact ⟨Nat.le_trans hw.size (hc.at_ x hx).1, (hc.at_ x hx).2⟩
    · have := (hw.at_ x hx)
      exact ⟨this.1, this.2.of_block (hc.below.block _ this.2.lt)⟩
  · have h1 := (hc.at_ x hx).1
    have h2 := (hw.at_ y hy).2.lt
    omega
/-- An own block replaced. -/
theorem Wd.swap {w0 w w' : World} {x : Ent} {h : List Ent} (hw : Wd w0 (x :: h) w) (hg : w.grownBy w' (some x.g)) (hd : w.drawn ≤ w'.drawn) (y : Ent) (hy : y.At w') (hyg : y.g = x.g ∨ w.heap.size ≤ y.g) :
    Wd w0 (y :: h) w' := by
  have hx := hw.at_ x (List.mem_cons_self)
  have hap := List.pairwise_cons.1 hw.apart
  refine ⟨hw.below.grown hg hd hw.size (fun k hk => by simp only [Option.some.injEq] at hk; omega), fun z hz => ?_, List.pairwise_cons.2 ⟨fun z hz => ?_, hap.2⟩⟩
  · rcases List.mem_cons.1 hz with rfl | hz
    · refine ⟨?_, hy⟩
      rcases hyg with e | e
      · rw [e]; exact hx.1
      · exact Nat.le_trans hw.size e
    · have hzz := hw.at_ z (List.mem_cons_of_mem _ hz)
      refine ⟨hzz.1, hzz.2.of_block (hg.block _ hzz.2.lt (fun e => ?_))⟩
      simp only [Option.some.injEq] at e
      exact hap.1 z hz e.symm
  · have hzz := hw.at_ z (List.mem_cons_of_mem _ hz)
    have hlt := hzz.2.lt
    rcases hyg with e | e
    · rw [e]; exact hap.1 z hz
    · omega
theorem Ent.At.set {w : World} {g : Nat} {T : TypeId} {tot : Nat} {cs : List Value} (h : (⟨g, T, tot, cs⟩ : Ent).At w) (i : Nat) (v : Value) (hi : i < cs.length) :
    (⟨g, T, tot, cs.set i v⟩ : Ent).At (w.setCell ⟨g, i, none⟩ v) := by
  obtain ⟨cur, h, hs, hp⟩ := h
  simp only at h hs hp
  refine ⟨cur.setIfInBounds i v, ?_, by simpa using hs, ?_⟩
  · simp [World.setCell, Array.getElem?_modify, h]
  · obtain ⟨t, ht⟩ := hp
    exact ⟨t, by simp only [Array.toList_setIfInBounds, ← ht]; rw [List.set_append_left _ _ hi]⟩
theorem World.grownBy_setCell (w : World) (a : Addr) (v : Value) : w.grownBy (w.setCell a v) (some a.block) :=
  ⟨rfl, rfl, rfl, by simp, fun k _ hk => Below.heap_setCell w a v k (fun e => hk (by rw [e]))⟩
theorem Wd.set {w0 w : World} {g : Nat} {T : TypeId} {tot : Nat} {cs : List Value} {h : List Ent} (hw : Wd w0 (⟨g, T, tot, cs⟩ :: h) w) (i : Nat) (v : Value) (hi : i < cs.length) :
    Wd w0 (⟨g, T, tot, cs.set i v⟩ :: h) (w.setCell ⟨g, i, none⟩ v) :=
  hw.swap (World.grownBy_setCell w ⟨g, i, none⟩ v) (Nat.le_refl _) _ (hw.head.set i v hi) (.inl rfl)

/-! ## old memory -/
def Pt (w : World) (a : Addr) (cs : List Value) : Prop := ∀ j v, cs[j]? = some v → w.cell? (a.add j) = some v
theorem add_block (a : Addr) (n : Nat) : (a.add n).block = a.block := by unfold Addr.add; split <;> rfl
theorem add_add (a : Addr) (i j : Nat) : (a.add i).add j = a.add (i + j) := by
  unfold Addr.add
  by_cases hi : i = 0 <;> by_cases hj : j = 0 <;> simp [hi, hj, Nat.add_assoc]
theorem add_own (g o n : Nat) : (⟨g, o, none⟩ : Addr).add n = ⟨g, o + n, none⟩ := Addr.add_lit g o n
theorem Pt.mono {w0 w : World} {h : List Ent} {a : Addr} {cs : List Value} (hp : Pt w0 a cs) (hw : Wd w0 h w) : Pt w a cs := fun j v hj => by
  have h1 := hp j v hj
  have h2 := World.block_lt_of_cell? _ _ h1
  exact (hw.below.cell h2).trans h1
theorem Pt.drop {w : World} {a : Addr} {cs : List Value} (hp : Pt w a cs) (n : Nat) : Pt w (a.add n) (cs.drop n) := fun j v hj => by
  rw [add_add]; exact hp _ v (by rw [← hj, List.getElem?_drop])
theorem Pt.take {w : World} {a : Addr} {cs : List Value} (hp : Pt w a cs) (n : Nat) : Pt w a (cs.take n) := fun j v hj => by
  rw [List.getElem?_take] at hj
  split at hj
  · exact hp j v hj
  · cases hj
theorem Ent.At.pt {x : Ent} {w : World} (h : x.At w) (o : Nat) : Pt w ⟨x.g, o, none⟩ (x.cs.drop o) := fun j v hj => by
  rw [add_own]; exact h.cell (by rw [← hj, List.getElem?_drop])

/-- Elements that are laid in cells. -/
class Enc (α : Type) where
  k : Nat
  enc : α → List Value
  len : ∀ a, (enc a).length = k
  pos : 0 < k
  one : ∀ a, ∀ v ∈ enc a, v.oneCell' = true
instance : Enc Int := ⟨1, fun n => [.int .i64 n], fun _ => rfl, by omega, fun _ v hv => by simp at hv; subst hv; rfl⟩

section
variable {α : Type} [Enc α]
def flat (l : List α) : List Value := l.flatMap Enc.enc
theorem flat_length (l : List α) : (flat l).length = l.length * Enc.k α := by
  induction l with
  | nil => simp [flat]
  | cons a l ih => simp only [flat, List.flatMap_cons, List.length_append, Enc.len, List.length_cons] at *; rw [ih, Nat.add_mul, Nat.one_mul, Nat.add_comm]
theorem flat_append (l m : List α) : flat (l ++ m) = flat l ++ flat m := by simp [flat]
theorem flat_cons (a : α) (l : List α) : flat (a :: l) = Enc.enc a ++ flat l := by simp [flat]
theorem flat_drop (l : List α) (n : Nat) : flat (l.drop n) = (flat l).drop (n * Enc.k α) := by
  induction n generalizing l with
  | zero => simp
  | succ n ih =>
    cases l with
    | nil => simp [flat]
    | cons a l =>
      have h1 : (Enc.enc a).length ≤ (n + 1) * Enc.k α := by rw [Enc.len, Nat.add_mul]; omega
      have h2 : (n + 1) * Enc.k α - Enc.k α = n * Enc.k α := by rw [Nat.add_mul]; omega
      rw [List.drop_succ_cons, ih, flat_cons, List.drop_append, List.drop_eq_nil_of_le h1, List.nil_append, Enc.len, h2]
theorem flat_take (l : List α) (n : Nat) : flat (l.take n) = (flat l).take (n * Enc.k α) := by
  induction n generalizing l with
  | zero => simp [flat]
  | succ n ih =>
    cases l with
    | nil => simp [flat]
    | cons a l =>
      have h1 : (Enc.enc a).length ≤ (n + 1) * Enc.k α := by rw [Enc.len, Nat.add_mul]; omega
      have h2 : (n + 1) * Enc.k α - Enc.k α = n * Enc.k α := by rw [Nat.add_mul]; omega
      rw [List.take_succ_cons, flat_cons, ih, flat_cons, List.take_append, List.take_of_length_le h1, Enc.len, h2]
theorem flat_at {l : List α} {k : Nat} {r : α} (h : l[k]? = some r) : ((flat l).drop (k * Enc.k α)).take (Enc.k α) = Enc.enc r := by
  rw [← flat_drop]
  have hk := (List.getElem?_eq_some_iff.1 h)
  rw [List.drop_eq_getElem_cons hk.1, hk.2, flat_cons, List.take_append_of_le_length (by rw [Enc.len]; exact Nat.le_refl _), List.take_of_length_le (by rw [Enc.len]; exact Nat.le_refl _)]
theorem flat_one (l : List α) : ∀ v ∈ flat l, v.oneCell' = true := fun v hv => by
  obtain ⟨a, _, h⟩ := List.mem_flatMap.1 hv
  exact Enc.one a v h
theorem flat_set {l : List α} {k : Nat} (hk : k < l.length) (r : α) : flat (l.set k r) = (flat l).take (k * Enc.k α) ++ Enc.enc r ++ (flat l).drop (k * Enc.k α + Enc.k α) := by
  have h1 : l.set k r = l.take k ++ r :: l.drop (k + 1) := by rw [List.set_eq_take_append_cons_drop, if_pos hk]
  rw [h1, flat_append, flat_cons, flat_take, flat_drop, Nat.add_mul, Nat.one_mul, List.append_assoc]

/-- The slice value v reads as the list l. -/
def Sl (w : World) (v : Value) (l : List α) : Prop :=
  ∃ A n c, v = .slice A n c ∧ n = l.length ∧ n ≤ c ∧ c ≤ maxLen ∧ (0 < n → ∃ ad, A = some ad ∧ Pt w ad (flat l))
theorem Sl.mono {w0 w : World} {h : List Ent} {v : Value} {l : List α} (hs : Sl w0 v l) (hw : Wd w0 h w) : Sl w v l := by
  obtain ⟨A, n, c, hv, hn, hc, hm, hp⟩ := hs
  exact ⟨A, n, c, hv, hn, hc, hm, fun h0 => by obtain ⟨ad, ha, hpt⟩ := hp h0; exact ⟨ad, ha, hpt.mono hw⟩⟩
theorem Sl.nil (w : World) : Sl w (.slice none 0 0) ([] : List α) := ⟨none, 0, 0, rfl, rfl, Nat.le_refl _, Nat.zero_le _, fun h => absurd h (by omega)⟩
theorem Sl.elem {w : World} {v : Value} {l : List α} (hs : Sl w v l) {k : Nat} {r : α} (hk : l[k]? = some r) :
    ∃ ad n c, v = .slice (some ad) n c ∧ k < n ∧ n = l.length ∧ Pt w (ad.add (k * Enc.k α)) (Enc.enc r) := by
  obtain ⟨A, n, c, hv, hn, hc, hm, hp⟩ := hs
  have hlt := (List.getElem?_eq_some_iff.1 hk).1
  obtain ⟨ad, rfl, hpt⟩ := hp (by omega)
  refine ⟨ad, n, c, hv, by omega, hn, ?_⟩
  rw [← flat_at hk]
  exact (hpt.drop _).take _
theorem Sl.len {w : World} {v : Value} {l : List α} (hs : Sl w v l) : l.length ≤ maxLen := by
  obtain ⟨A, n, c, _, rfl, h1, h2, _⟩ := hs; exact Nat.le_trans h1 h2
end

/-! ## what is known of types and functions -/
class SliceTy (P : Program) (t : TypeId) (e : outParam TypeId) : Prop where
  und : P.underlying t = some (.slice e)
class ElemTy (P : Program) (e : TypeId) (z : outParam Value) (k bytes : outParam Nat) : Prop where
  info : (P.info? e).map (fun i => (i.zero, i.size, i.bytes)) = some (some z, k, bytes)
  zs : z.cells.size = k
  pos : 0 < k
class OneTy (P : Program) (t : TypeId) : Prop where
  agg : ∀ w, (isAgg t).run P w = .ok false w
  size : ∀ w, (sizeOf t).run P w = .ok 1 w
class AggTy (P : Program) (t : TypeId) (k : outParam Nat) : Prop where
  agg : ∀ w, (isAgg t).run P w = .ok true w
  size : ∀ w, (sizeOf t).run P w = .ok k w
class FieldTy (P : Program) (s : TypeId) (f : Nat) (o : outParam Nat) : Prop where
  at_ : ∀ a w, (Instr.fieldAt s (.pointer (some a)) f).run P w = .ok (.pointer (some (a.add o))) w
class FnOk (P : Program) (f : FuncId) : Prop where
  call : ∀ args w, (callFunc f args).run P w = .ok (.enter f args) w

/-! ## regions -/
section
variable {P : Program} {ops : Array Oper} {N : Nat} {e : Env} {C : World → Prop} {Q : Exit → Act → World → Prop}

/-- how a list of operations is carried out: in order; in an order that is drawn, where all of them only read; one by one, ahead of others -/
inductive QM where
  | sq
  | qu
  | he
class CanCall (q : QM) : Prop where
  ne : q ≠ .he
instance : CanCall .sq := ⟨fun h => by cases h⟩
instance : CanCall .qu := ⟨fun h => by cases h⟩
/-- each operation in turn yields a value in every world of the class, and leaves that world -/
def wpYield (P : Program) (ops : Array Oper) (C : World → Prop) (K : Act → Prop) : List Oper → Act → Prop
  | [], a => K a
  | o :: l, a => ∃ v, YieldsIf P ops C o v a ∧ wpYield P ops C K l (a.put o.dst v)
def RR (q : QM) (P : Program) (ops : Array Oper) (N : Nat) (e : Env) (C : World → Prop) (l : List Oper) (Q : Exit → Act → World → Prop) : Prop :=
  match q with
  | .sq => ∀ a w, Fr N e a → C w → wpList P ops Q l a w
  | .qu => ∀ a, Fr N e a → wpQuiet P ops C (fun a' => ∀ w', C w' → Q .normal a' w') l a
  | .he => ∀ a, Fr N e a → wpYield P ops C (fun a' => ∀ w', C w' → Q .normal a' w') l a

def gd (ops : Array Oper) (e : Env) : Option (Nat × Bool) → Option Bool
  | none => some true
  | some (j, want) => match (ops[j]?).bind (·.dst) with
    | some d => match look e d with
      | some (.bool true) => some want
      | some (.bool false) => some (!want)
      | some (.tuple _) => some false
      | _ => none
    | none => none

theorem gd_wanted {o : Oper} {a : Act} (hf : Fr N e a) {b : Bool} (h : gd ops e o.guard = some b) : Region.wanted o (yielded ops a.tmps) = b := by
  unfold gd at h
  unfold Region.wanted
  split at h
  · rename_i hg; simp only [Option.some.injEq] at h; simp [hg, ← h]
  · rename_i j want hg
    split at h
    · rename_i d hd
      have key : ∀ c : Bool, look e d = some (.bool c) → yielded ops a.tmps j = some c := fun c hc => by
        have h1 := hf.at_ d _ hc
        have h2 : a.tmps[d]? = some (.bool c) := by
          rw [Array.getD_eq_getD_getElem?] at h1
          cases hx : a.tmps[d]? with
          | none => rw [hx] at h1; simp [undef] at h1
          | some v => rw [hx] at h1; simpa using h1
        simp [yielded, hd, h2]
      split at h
      · rename_i hl
        simp only [Option.some.injEq] at h
        simp only [hg, key _ hl, ← h]
        cases want <;> rfl
      · rename_i hl
        simp only [Option.some.injEq] at h
        simp only [hg, key _ hl, ← h]
        cases want <;> rfl
      · rename_i u hl
        simp only [Option.some.injEq] at h
        have h1 := hf.at_ d _ hl
        have h3 : yielded ops a.tmps j = none := by
          rw [Array.getD_eq_getD_getElem?] at h1
          cases hx : a.tmps[d]? with
          | none => simp [yielded, hd, hx]
          | some v => rw [hx] at h1; simp at h1; subst h1; simp [yielded, hd, hx]
        simp [hg, h3, ← h]
      · cases h
    · cases h

/-- An operation that gives a value and leaves the world. -/
theorem RR_val {q : QM} {o : Oper} {l : List Oper} {d : Nat} {v : Value} (hd : o.dst = some d) (hg : gd ops e o.guard = some true) (hN : Nat.blt d N = true)
    (hv : ∀ a w, Fr N e a → C w → (execOp a.eval o).run P w = .ok (.value v) w) (hr : RR q P ops N ((d, v) :: e) C l Q) : RR q P ops N e C (o :: l) Q := by
  cases q with
  | sq =>
    intro a w hf hc
    refine wpList_step fun K hK => ?_
    rw [gd_wanted hf hg, if_pos rfl]
    show o.upon P a K Q _
    rw [hv a w hf hc]
    show K (a.put o.dst v) w
    rw [hd]
    exact hK _ _ (hr _ w (hf.put hN v) hc)
  | qu =>
    intro a hf
    refine wpQuiet_step fun K hK => ?_
    rw [gd_wanted hf hg, if_pos rfl]
    refine ⟨v, fun w hw => ?_, ?_⟩
    · unfold Oper.quietAt; rw [hv a w hf hw]; exact ⟨rfl, rfl⟩
    · rw [hd]; exact hK _ (hr _ (hf.put hN v))
  | he =>
    intro a hf
    refine ⟨v, .inl ⟨gd_wanted hf hg, fun w hw => hv a w hf hw⟩, ?_⟩
    rw [hd]
    exact hr _ (hf.put hN v)
/-- An operation that is not wanted. -/
theorem RR_skip {q : QM} {o : Oper} {l : List Oper} {d : Nat} (hd : o.dst = some d) (hg : gd ops e o.guard = some false) (hN : Nat.blt d N = true)
    (hr : RR q P ops N ((d, undef) :: e) C l Q) : RR q P ops N e C (o :: l) Q := by
  cases q with
  | sq =>
    intro a w hf hc
    refine wpList_step fun K hK => ?_
    rw [gd_wanted hf hg, if_neg (by simp), hd]
    exact hK _ _ (hr _ w (hf.put hN undef) hc)
  | qu =>
    intro a hf
    refine wpQuiet_step fun K hK => ?_
    rw [gd_wanted hf hg, if_neg (by simp), hd]
    exact hK _ (hr _ (hf.put hN undef))
  | he =>
    intro a hf
    refine ⟨undef, .inr ⟨gd_wanted hf hg, rfl⟩, ?_⟩
    rw [hd]
    exact hr _ (hf.put hN undef)
/-- A call that gives a value and leaves a world of the class. -/
theorem RR_callv {q : QM} {o : Oper} {l : List Oper} {d f : Nat} {xs : Array Operand} {ts : Array TypeId} {vs : List Value} {v : Value} (hd : o.dst = some d) (ho : o.op = .call { callee := .value (.func f), args := xs, argTypes := ts })
    (hg : gd ops e o.guard = some true) (hN : Nat.blt d N = true) (hx : evL e xs.toList = some vs) [hk : FnOk P f] [hq : CanCall q]
    (hc : ∀ w, C w → Calls P f vs.toArray w (fun x w' => x = .returned v ∧ C w')) (hr : RR q P ops N ((d, v) :: e) C l Q) : RR q P ops N e C (o :: l) Q := by
  have hrun : ∀ a w, Fr N e a → (execOp a.eval o).run P w = .ok (.enter f vs.toArray) w := fun a w hf => by
    have h1 : xs.map a.eval = vs.toArray := by
      have := hf.evs hx
      apply Array.ext'
      simpa using this
    simp only [execOp, ho, resolve, Act.eval, Deferred.ofValue, invoke, Sem.run_bind, Sem.run_pure, Result.andThen_ok]
    simpa [h1] using hk.call vs.toArray w
  cases q with
  | sq =>
    intro a w hf hcw
    refine wpList_step fun K hK => ?_
    rw [gd_wanted hf hg, if_pos rfl]
    show o.upon P a K Q _
    rw [hrun a w hf]
    refine (hc w hcw).mono fun x w' ⟨hx, hw'⟩ => ?_
    subst hx
    show K (a.put o.dst v) w'
    rw [hd]
    exact hK _ _ (hr _ w' (hf.put hN v) hw')
  | qu =>
    intro a hf
    refine wpQuiet_step fun K hK => ?_
    rw [gd_wanted hf hg, if_pos rfl]
    refine ⟨v, fun w hw => ?_, ?_⟩
    · unfold Oper.quietAt; rw [hrun a w hf]; exact ⟨rfl, hc w hw⟩
    · rw [hd]; exact hK _ (hr _ (hf.put hN v))
  | he => exact absurd rfl hq.ne
/-- A call without a result that is kept, or with results that are not determined. -/
theorem RS_call {o : Oper} {l : List Oper} {f : Nat} {xs : Array Operand} {ts : Array TypeId} {vs : List Value} (ho : o.op = .call { callee := .value (.func f), args := xs, argTypes := ts })
    (hg : gd ops e o.guard = some true) (hx : evL e xs.toList = some vs) [hk : FnOk P f] {R : World → Ending → World → Prop}
    (hc : ∀ w, C w → Calls P f vs.toArray w (R w)) (hr : ∀ w x w', C w → R w x w' → ∃ v, x = .returned v ∧ ∀ a, Fr N e a → wpList P ops Q l (a.put o.dst v) w') : RR .sq P ops N e C (o :: l) Q := by
  intro a w hf hcw
  refine wpList_step fun K hK => ?_
  rw [gd_wanted hf hg, if_pos rfl]
  have hrun : (execOp a.eval o).run P w = .ok (.enter f vs.toArray) w := by
    have h1 : xs.map a.eval = vs.toArray := by
      have := hf.evs hx
      apply Array.ext'
      simpa using this
    simp only [execOp, ho, resolve, Act.eval, Deferred.ofValue, invoke, Sem.run_bind, Sem.run_pure, Result.andThen_ok]
    simpa [h1] using hk.call vs.toArray w
  show o.upon P a K Q _
  rw [hrun]
  refine (hc w hcw).mono fun x w' hR => ?_
  obtain ⟨v, rfl, h2⟩ := hr w x w' hcw hR
  exact hK _ _ (h2 a hf)
theorem RR_nil_s (h : ∀ a w, Fr N e a → C w → Q .normal a w) : RR .sq P ops N e C [] Q := fun a w hf hc => wpList_nil (h a w hf hc)
theorem RR_nil_q (h : ∀ a w, Fr N e a → C w → Q .normal a w) : RR .qu P ops N e C [] Q := fun a hf => wpQuiet_nil fun w hc => h a w hf hc
theorem RR_nil {q : QM} (h : ∀ a w, Fr N e a → C w → Q .normal a w) : RR q P ops N e C [] Q := by cases q; exact RR_nil_s h; exact RR_nil_q h; exact fun a hf w hc => h a w hf hc
/-- A boolean is parted. -/
theorem RR_case {q : QM} {l : List Oper} {d : Nat} {b : Bool} (hd : look e d = some (.bool b)) (h1 : b = true → RR q P ops N ((d, .bool true) :: e) C l Q)
    (h0 : b = false → RR q P ops N ((d, .bool false) :: e) C l Q) : RR q P ops N e C l Q := by
  have key : ∀ a, Fr N e a → Fr N ((d, .bool b) :: e) a := fun a hf => ⟨hf.defers, hf.size, fun t v ht => by
    rw [look_cons] at ht
    by_cases hdt : d = t
    · subst hdt; simp only [if_true, Option.some.injEq] at ht; subst ht; exact hf.at_ _ _ hd
    · rw [if_neg hdt] at ht; exact hf.at_ t v ht⟩
  have fin : ∀ b', RR q P ops N ((d, .bool b') :: e) C l Q → b = b' → RR q P ops N e C l Q := fun b' h hb => by
    subst hb
    cases q with
    | sq => exact fun a w hf hc => h a w (key a hf) hc
    | qu => exact fun a hf => h a (key a hf)
    | he => exact fun a hf => h a (key a hf)
  cases hb : b with
  | true => exact fin true (h1 hb) hb
  | false => exact fin false (h0 hb) hb
end

def nth : List Value → Nat → Option Value
  | [], _ => none
  | x :: _, 0 => some x
  | _ :: l, n + 1 => nth l n
theorem nth_eq : ∀ (l : List Value) (n : Nat), nth l n = l[n]?
  | [], _ => by simp [nth]
  | x :: l, 0 => by simp [nth]
  | x :: l, n + 1 => by simp [nth, nth_eq l n]
def dropN : List Value → Nat → List Value
  | l, 0 => l
  | [], _ + 1 => []
  | _ :: l, n + 1 => dropN l n
theorem dropN_eq : ∀ (l : List Value) (n : Nat), dropN l n = l.drop n
  | l, 0 => by simp [dropN]
  | [], _ + 1 => by simp [dropN]
  | _ :: l, n + 1 => by simp [dropN, dropN_eq l n]
/-- n cells, written out. -/
def takeF : List Value → Nat → Option (List Value)
  | _, 0 => some []
  | [], _ + 1 => none
  | x :: l, n + 1 => match takeF l n with
    | some r => some (x :: r)
    | none => none
theorem takeF_eq : ∀ (l : List Value) (n : Nat) (r : List Value), takeF l n = some r → l.take n = r ∧ r.length = n
  | l, 0, r, h => by simp only [takeF, Option.some.injEq] at h; subst h; simp
  | [], _ + 1, r, h => by simp [takeF] at h
  | x :: l, n + 1, r, h => by
    simp only [takeF] at h
    split at h
    · rename_i r' hr'
      simp only [Option.some.injEq] at h
      subst h
      have := takeF_eq l n r' hr'
      simp [this.1, this.2]
    · cases h
def forceL : List Value → Option (List Value)
  | [] => some []
  | x :: l => match forceL l with
    | some r => some (x :: r)
    | none => none
theorem forceL_eq : ∀ (l r : List Value), forceL l = some r → l = r
  | [], r, h => by simpa [forceL] using h
  | x :: l, r, h => by
    simp only [forceL] at h
    split at h
    · rename_i r' hr'
      simp only [Option.some.injEq] at h
      subst h
      rw [forceL_eq l r' hr']
    · cases h
/-- Cells from 'off' on are replaced, written out. -/
def putF : List Value → Nat → List Value → Option (List Value)
  | l, 0, vs => match vs, l with
    | [], l => forceL l
    | _ :: _, [] => none
    | v :: vs, _ :: l => match putF l 0 vs with
      | some r => some (v :: r)
      | none => none
  | [], _ + 1, _ => none
  | x :: l, n + 1, vs => match putF l n vs with
    | some r => some (x :: r)
    | none => none
theorem putF_eq : ∀ (l : List Value) (n : Nat) (vs r : List Value), putF l n vs = some r → r = l.take n ++ vs ++ l.drop (n + vs.length) ∧ n + vs.length ≤ l.length
  | l, 0, [], r, h => by
    unfold putF at h
    have := forceL_eq l r h
    subst this; simp
  | [], 0, _ :: _, r, h => by unfold putF at h; simp at h
  | x :: l, 0, v :: vs, r, h => by
    unfold putF at h
    simp only at h
    split at h
    · rename_i r' hr'
      simp only [Option.some.injEq] at h
      subst h
      have := putF_eq l 0 vs r' hr'
      simp only [List.take_zero, List.nil_append, Nat.zero_add] at this ⊢
      rw [this.1]
      simp [this.2]
    · cases h
  | [], _ + 1, _, r, h => by unfold putF at h; simp at h
  | x :: l, n + 1, vs, r, h => by
    unfold putF at h
    split at h
    · rename_i r' hr'
      simp only [Option.some.injEq] at h
      subst h
      have := putF_eq l n vs r' hr'
      rw [this.1]
      have h2 := this.2
      refine ⟨?_, by simp; omega⟩
      rw [show n + 1 + vs.length = (n + vs.length) + 1 from by omega]
      simp
    · cases h
def cellsL : Value → List Value
  | .agg cs => cs.toList
  | v => [v]
theorem cellsL_eq (v : Value) : v.cells.toList = cellsL v := by cases v <;> rfl

/-- the i-th own block, and the others -/
def pull : Nat → List Ent → Option (Ent × List Ent)
  | _, [] => none
  | 0, x :: h => some (x, h)
  | n + 1, x :: h => match pull n h with
    | some (y, r) => some (y, x :: r)
    | none => none
theorem pull_perm : ∀ (n : Nat) (h : List Ent) (y : Ent) (r : List Ent), pull n h = some (y, r) → h.Perm (y :: r)
  | _, [], y, r, hp => by simp [pull] at hp
  | 0, x :: h, y, r, hp => by simp only [pull, Option.some.injEq, Prod.mk.injEq] at hp; obtain ⟨rfl, rfl⟩ := hp; exact List.Perm.refl _
  | n + 1, x :: h, y, r, hp => by
    simp only [pull] at hp
    split at hp
    · rename_i y' r' hr
      simp only [Option.some.injEq, Prod.mk.injEq] at hp
      obtain ⟨rfl, rfl⟩ := hp
      exact ((pull_perm n h y' r' hr).cons x).trans (List.Perm.swap _ _ _)
    · cases hp

/-! ## operations that only compute -/
def pureBin : BinOp → Value → Value → Option Value
  | .eql, .int .i64 a, .int .i64 b => some (.bool (decide (a = b)))
  | .neq, .int .i64 a, .int .i64 b => some (.bool (!decide (a = b)))
  | .lss, .int .i64 a, .int .i64 b => some (.bool (decide (a < b)))
  | .leq, .int .i64 a, .int .i64 b => some (.bool (decide (a ≤ b)))
  | .gtr, .int .i64 a, .int .i64 b => some (.bool (decide (b < a)))
  | .geq, .int .i64 a, .int .i64 b => some (.bool (decide (b ≤ a)))
  | _, _, _ => none
def pureOp (e : Env) : Op → Option Value
  | .move x => evO e x
  | .assign x => evO e x
  | .pick c a b => match evO e c with
    | some (.bool true) => evO e a
    | some (.bool false) => evO e b
    | _ => none
  | .binOp op _ x y _ => match evO e x, evO e y with
    | some a, some b => pureBin op a b
    | _, _ => none
  | .unOp .not _ x => match evO e x with
    | some (.bool b) => some (.bool (!b))
    | _ => none
  | .unOp .neg _ x => match evO e x with
    | some (.int .i64 1) => some (.int .i64 (-1))
    | _ => none
  | .extract x i => match evO e x with
    | some (.tuple vs) => nth vs.toList i
    | _ => none
  | .nilCheck x => match evO e x with
    | some (.pointer (some a)) => some (.pointer (some a))
    | _ => none
  | .makeFunc f fs cs => match evL e fs.toList, evL e cs.toList with
    | some us, some vs => some (.func f us.toArray vs.toArray)
    | _, _ => none
  | _ => none

theorem pureBin_ok {P : Program} {op : BinOp} {t : TypeId} {x y : Operand} {a b v : Value} (h : pureBin op a b = some v) (w : World) :
    ((do eqGuard op t x y a b; binOp op t a b) : Sem Value).run P w = .ok v w := by
  unfold pureBin at h
  split at h <;> first
    | (simp only [Option.some.injEq] at h; subst h; rw [Sem.run_bind, eqGuard_at_int]; simp [binOp, Op.intCmp]; done)
    | (simp only [Option.some.injEq] at h; subst h; rw [Sem.run_bind, eqGuard_at_int]; simp [binOp, Op.intCmp]; rfl)
    | (cases h; done)

theorem pureOp_ok {P : Program} {N : Nat} {e : Env} {o : Oper} {v : Value} (h : pureOp e o.op = some v) {a : Act} (hf : Fr N e a) (w : World) :
    (execOp a.eval o).run P w = .ok (.value v) w := by
  unfold pureOp at h
  unfold execOp
  split at h
  · rename_i x hx; simp only [hx, hf.ev h]; rfl
  · rename_i x hx; simp only [hx, hf.ev h]; rfl
  · rename_i c x y hx
    split at h
    · rename_i hc; simp [hx, hf.ev hc, asBool, hf.ev h]
    · rename_i hc; simp [hx, hf.ev hc, asBool, hf.ev h]
    · cases h
  · rename_i op t x y t' hx
    split at h
    · rename_i u u' hu hu'
      have := pureBin_ok (P := P) (t := t) (x := x) (y := y) h w
      simp only [hx, hf.ev hu, hf.ev hu', Sem.run_bind] at this ⊢
      rw [this]; rfl
    · cases h
  · rename_i t x hx
    split at h
    · rename_i hb; simp only [Option.some.injEq] at h; subst h; simp [hx, hf.ev hb, Op.unary]
    · cases h
  · rename_i t x hx
    split at h
    · rename_i hb; simp only [Option.some.injEq] at h; subst h; simp [hx, hf.ev hb, Op.unary, Op.intArith]; rfl
    · cases h
  · rename_i x i hx
    split at h
    · rename_i vs hb
      rw [nth_eq] at h
      have h' : vs[i]? = some v := by simpa using h
      simp [hx, hf.ev hb, Instr.extract, h']
    · cases h
  · rename_i x hx
    split at h
    · rename_i vs hb
      simp only [Option.some.injEq] at h; subst h
      simp [hx, hf.ev hb]
    · cases h
  · rename_i f fs cs hx
    split at h
    · rename_i us vs hu hv
      simp only [Option.some.injEq] at h; subst h
      have h1 : fs.map a.eval = us.toArray := by apply Array.ext'; simpa using hf.evs hu
      have h2 : cs.map a.eval = vs.toArray := by apply Array.ext'; simpa using hf.evs hv
      simp [hx, Instr.makeFunc, h1, h2]
    · cases h
  · cases h

section
variable {P : Program} {ops : Array Oper} {N : Nat} {e : Env} {Q : Exit → Act → World → Prop} {q : QM} {l : List Oper} {d : Nat}

theorem RR_pure {C : World → Prop} {o : Oper} {v : Value} (hd : o.dst = some d) (hg : gd ops e o.guard = some true) (hN : Nat.blt d N = true)
    (hv : pureOp e o.op = some v) (hr : RR q P ops N ((d, v) :: e) C l Q) : RR q P ops N e C (o :: l) Q :=
  RR_val hd hg hN (fun _ w hf _ => pureOp_ok hv hf w) hr

/-! ### arithmetic -/
theorem wrap_in (n : Int) (h1 : -9223372036854775808 ≤ n) (h2 : n ≤ 9223372036854775807) : IntKind.i64.wrap n = n := by
  rw [IntKind.wrap_i64]; omega
theorem run_bin {op : BinOp} {t : TypeId} {x y : Operand} {m n : Int} {v : Value} {w : World} (h : (binOp op t (.int .i64 m) (.int .i64 n)).run P w = .ok v w) :
    ((do eqGuard op t x y (.int .i64 m) (.int .i64 n); binOp op t (.int .i64 m) (.int .i64 n)) : Sem Value).run P w = .ok v w := by
  rw [Sem.run_bind, eqGuard_at_int]; simpa using h
theorem RR_bin {C : World → Prop} {o : Oper} {op : BinOp} {t t' : TypeId} {x y : Operand} {m n : Int} {v : Value} (hd : o.dst = some d) (ho : o.op = .binOp op t x y t') (hg : gd ops e o.guard = some true) (hN : Nat.blt d N = true)
    (hx : evO e x = some (.int .i64 m)) (hy : evO e y = some (.int .i64 n)) (hv : ∀ w, (binOp op t (.int .i64 m) (.int .i64 n)).run P w = .ok v w)
    (hr : RR q P ops N ((d, v) :: e) C l Q) : RR q P ops N e C (o :: l) Q :=
  RR_val hd hg hN (fun a w hf _ => by
    have := run_bin (P := P) (x := x) (y := y) (hv w)
    simp only [execOp, ho, hf.ev hx, hf.ev hy]
    rw [Sem.run_bind, this]; rfl) hr
theorem RR_add {C : World → Prop} {o : Oper} {t t' : TypeId} {x y : Operand} {m n : Int} (hd : o.dst = some d) (ho : o.op = .binOp .add t x y t') (hg : gd ops e o.guard = some true) (hN : Nat.blt d N = true)
    (hx : evO e x = some (.int .i64 m)) (hy : evO e y = some (.int .i64 n)) (h1 : -9223372036854775808 ≤ m + n) (h2 : m + n ≤ 9223372036854775807)
    (hr : RR q P ops N ((d, .int .i64 (m + n)) :: e) C l Q) : RR q P ops N e C (o :: l) Q :=
  RR_bin hd ho hg hN hx hy (fun w => by simp [binOp_add, Op.intArith, wrap_in _ h1 h2]) hr
theorem RR_sub {C : World → Prop} {o : Oper} {t t' : TypeId} {x y : Operand} {m n : Int} (hd : o.dst = some d) (ho : o.op = .binOp .sub t x y t') (hg : gd ops e o.guard = some true) (hN : Nat.blt d N = true)
    (hx : evO e x = some (.int .i64 m)) (hy : evO e y = some (.int .i64 n)) (h1 : -9223372036854775808 ≤ m - n) (h2 : m - n ≤ 9223372036854775807)
    (hr : RR q P ops N ((d, .int .i64 (m - n)) :: e) C l Q) : RR q P ops N e C (o :: l) Q :=
  RR_bin hd ho hg hN hx hy (fun w => by simp [binOp_sub, Op.intArith, wrap_in _ h1 h2]) hr
theorem RR_mul {C : World → Prop} {o : Oper} {t t' : TypeId} {x y : Operand} {m n : Int} (hd : o.dst = some d) (ho : o.op = .binOp .mul t x y t') (hg : gd ops e o.guard = some true) (hN : Nat.blt d N = true)
    (hx : evO e x = some (.int .i64 m)) (hy : evO e y = some (.int .i64 n)) (h1 : -9223372036854775808 ≤ m * n) (h2 : m * n ≤ 9223372036854775807)
    (hr : RR q P ops N ((d, .int .i64 (m * n)) :: e) C l Q) : RR q P ops N e C (o :: l) Q :=
  RR_bin hd ho hg hN hx hy (fun w => by simp [binOp_mul, Op.intArith, wrap_in _ h1 h2]) hr
theorem RR_quo {C : World → Prop} {o : Oper} {t t' : TypeId} {x y : Operand} {m n : Int} (hd : o.dst = some d) (ho : o.op = .binOp .quo t x y t') (hg : gd ops e o.guard = some true) (hN : Nat.blt d N = true)
    (hx : evO e x = some (.int .i64 m)) (hy : evO e y = some (.int .i64 n)) (h1 : 0 ≤ m) (h2 : m ≤ 9223372036854775807) (h3 : 0 < n)
    (hr : RR q P ops N ((d, .int .i64 (m / n)) :: e) C l Q) : RR q P ops N e C (o :: l) Q :=
  RR_bin hd ho hg hN hx hy (fun w => by
    have h4 : 0 ≤ m / n := Int.ediv_nonneg h1 (Int.le_of_lt h3)
    have h5 : m / n ≤ m := Int.ediv_le_self n h1
    have h6 : n ≠ 0 := by omega
    simp [binOp_quo, Op.intDiv, h6, Int.tdiv_eq_ediv_of_nonneg h1, wrap_in (m / n) (by omega) (by omega)]) hr
theorem RR_rem {C : World → Prop} {o : Oper} {t t' : TypeId} {x y : Operand} {m n : Int} (hd : o.dst = some d) (ho : o.op = .binOp .rem t x y t') (hg : gd ops e o.guard = some true) (hN : Nat.blt d N = true)
    (hx : evO e x = some (.int .i64 m)) (hy : evO e y = some (.int .i64 n)) (h1 : 0 ≤ m) (h3 : 0 < n)
    (hr : RR q P ops N ((d, .int .i64 (m % n)) :: e) C l Q) : RR q P ops N e C (o :: l) Q :=
  RR_bin hd ho hg hN hx hy (fun w => by
    have h6 : n ≠ 0 := by omega
    simp [binOp_rem, Op.intDiv, h6, Int.tmod_eq_emod_of_nonneg h1]) hr
theorem RR_min {C : World → Prop} {o : Oper} {x y : Operand} {ts : Array TypeId} {m n : Int} (hd : o.dst = some d) (ho : o.op = .call { callee := .builtin .min, args := #[x, y], argTypes := ts }) (hg : gd ops e o.guard = some true) (hN : Nat.blt d N = true)
    (hx : evO e x = some (.int .i64 m)) (hy : evO e y = some (.int .i64 n)) (hr : RR q P ops N ((d, .int .i64 (min m n)) :: e) C l Q) : RR q P ops N e C (o :: l) Q :=
  RR_val hd hg hN (fun a w hf _ => by
    have h : (if n < m then n else m) = min m n := by simp only [Int.min_def]; split <;> split <;> omega
    simp [execOp, ho, resolve, invoke, builtin, Builtin.min_, Builtin.min2, hf.ev hx, hf.ev hy, h]) hr
theorem RR_max {C : World → Prop} {o : Oper} {x y : Operand} {ts : Array TypeId} {m n : Int} (hd : o.dst = some d) (ho : o.op = .call { callee := .builtin .max, args := #[x, y], argTypes := ts }) (hg : gd ops e o.guard = some true) (hN : Nat.blt d N = true)
    (hx : evO e x = some (.int .i64 m)) (hy : evO e y = some (.int .i64 n)) (hr : RR q P ops N ((d, .int .i64 (max m n)) :: e) C l Q) : RR q P ops N e C (o :: l) Q :=
  RR_val hd hg hN (fun a w hf _ => by
    have h : (if n > m then n else m) = max m n := by simp only [Int.max_def]; split <;> split <;> omega
    simp [execOp, ho, resolve, invoke, builtin, Builtin.max_, Builtin.max2, hf.ev hx, hf.ev hy, h]) hr
class I64Ty (P : Program) (t : TypeId) : Prop where
  und : P.underlying t = some (.int .i64)
class U8Ty (P : Program) (t : TypeId) : Prop where
  und : P.underlying t = some (.int .u8)
theorem RR_conv {C : World → Prop} {o : Oper} {s t : TypeId} {x : Operand} {m : Int} (hd : o.dst = some d) (ho : o.op = .convert s t x) (hg : gd ops e o.guard = some true) (hN : Nat.blt d N = true)
    (hx : evO e x = some (.int .u8 m)) [hs : U8Ty P s] [ht : I64Ty P t] (h1 : 0 ≤ m) (h2 : m ≤ 255) (hr : RR q P ops N ((d, .int .i64 m) :: e) C l Q) : RR q P ops N e C (o :: l) Q :=
  RR_val hd hg hN (fun a w hf _ => by
    simp [execOp, ho, hf.ev hx, convert, run_underlying hs.und, run_underlying ht.und, Conv.intToInt, wrap_in m (by omega) (by omega)]) hr

/-! ### len, addresses -/
theorem RR_len {C : World → Prop} {o : Oper} {x : Operand} {t : TypeId} {A : Option Addr} {n c : Nat} {el : TypeId} (hd : o.dst = some d) (ho : o.op = .call { callee := .builtin .len, args := #[x], argTypes := #[t] }) (hg : gd ops e o.guard = some true) (hN : Nat.blt d N = true)
    (hx : evO e x = some (.slice A n c)) [ht : SliceTy P t el] (hr : RR q P ops N ((d, .int .i64 (n : Int)) :: e) C l Q) : RR q P ops N e C (o :: l) Q :=
  RR_val hd hg hN (fun a w hf _ => by
    simp [execOp, ho, resolve, invoke, builtin, Builtin.len_, hf.ev hx, run_underlying ht.und, goInt]) hr
theorem RR_len_sl {C : World → Prop} {α : Type} {hα : Enc α} {o : Oper} {x : Operand} {t : TypeId} {v : Value} {xs : List α} {w0 : World} {el : TypeId} (hd : o.dst = some d) (ho : o.op = .call { callee := .builtin .len, args := #[x], argTypes := #[t] }) (hg : gd ops e o.guard = some true) (hN : Nat.blt d N = true)
    (hx : evO e x = some v) (hs : Sl w0 v xs) [ht : SliceTy P t el] (hr : RR q P ops N ((d, .int .i64 (xs.length : Int)) :: e) C l Q) : RR q P ops N e C (o :: l) Q := by
  obtain ⟨A, n, c, rfl, rfl, _⟩ := hs
  exact RR_len hd ho hg hN hx hr
theorem RR_field {C : World → Prop} {o : Oper} {s : TypeId} {x : Operand} {f k : Nat} {ad : Addr} (hd : o.dst = some d) (ho : o.op = .fieldAddr s x f) (hg : gd ops e o.guard = some true) (hN : Nat.blt d N = true)
    (hx : evO e x = some (.pointer (some ad))) [ht : FieldTy P s f k] (hr : RR q P ops N ((d, .pointer (some (ad.add k))) :: e) C l Q) : RR q P ops N e C (o :: l) Q :=
  RR_val hd hg hN (fun a w hf _ => by
    simp only [execOp, ho, hf.ev hx, Sem.run_bind, ht.at_ ad w, Result.andThen_ok, Sem.run_pure]) hr
theorem RR_field_own {C : World → Prop} {o : Oper} {s : TypeId} {x : Operand} {f k g off : Nat} (hd : o.dst = some d) (ho : o.op = .fieldAddr s x f) (hg : gd ops e o.guard = some true) (hN : Nat.blt d N = true)
    (hx : evO e x = some (.pointer (some ⟨g, off, none⟩))) [ht : FieldTy P s f k] (hr : RR q P ops N ((d, .pointer (some ⟨g, off + k, none⟩)) :: e) C l Q) : RR q P ops N e C (o :: l) Q :=
  RR_field hd ho hg hN hx (by rw [add_own]; exact hr)
theorem run_indexAt {t el : TypeId} [ht : SliceTy P t el] {z : Value} {k b : Nat} [he : ElemTy P el z k b] {ad : Addr} {n c i : Nat} (hi : i < n) (w : World) :
    (Instr.indexAt t (.slice (some ad) n c) (.int .i64 (i : Int))).run P w = .ok (.pointer (some (ad.add (i * k)))) w := by
  obtain ⟨i0, hi0, _, hz1, _⟩ := info_parts he.info
  have h2 : (0 : Int) ≤ (i : Int) ∧ (i : Int) < (n : Int) := ⟨by omega, by omega⟩
  simp [Instr.indexAt, run_underlying ht.und, asIntOf, hi, sizeOf, typeInfo, hi0, hz1]
/-- an element of a slice that came in (or of any slice that reads so in w0) -/
theorem RR_index_old {C : World → Prop} {α : Type} {hα : Enc α} {o : Oper} {x ix : Operand} {t el : TypeId} {z : Value} {b : Nat} {v : Value} {xs : List α} {w0 : World} {i : Int} (k : Nat) {r : α} (hd : o.dst = some d) (ho : o.op = .indexAddr t x ix) (hg : gd ops e o.guard = some true) (hN : Nat.blt d N = true)
    (hx : evO e x = some v) (hix : evO e ix = some (.int .i64 i)) (hs : Sl w0 v xs) (hi : i = (k : Int)) (hk : xs[k]? = some r) [ht : SliceTy P t el] {kk : Nat} [he : ElemTy P el z kk b] (hke : kk = Enc.k α)
    (hr : ∀ ad, Pt w0 ad (Enc.enc r) → RR q P ops N ((d, .pointer (some ad)) :: e) C l Q) : RR q P ops N e C (o :: l) Q := by
  subst hke
  obtain ⟨ad, n, c, rfl, hkn, hn, hp⟩ := hs.elem hk
  subst hi
  refine RR_val hd hg hN (fun a w hf _ => ?_) (hr _ hp)
  simp only [execOp, ho, hf.ev hx, hf.ev hix, Sem.run_bind, run_indexAt hkn w, Result.andThen_ok, Sem.run_pure]
/-- an element of an own row -/
theorem RR_index_own {C : World → Prop} {o : Oper} {x ix : Operand} {t el : TypeId} {z : Value} {b k g n c : Nat} {i : Int} (j : Nat) (hd : o.dst = some d) (ho : o.op = .indexAddr t x ix) (hg : gd ops e o.guard = some true) (hN : Nat.blt d N = true)
    (hx : evO e x = some (.slice (some ⟨g, 0, none⟩) n c)) (hix : evO e ix = some (.int .i64 i)) (hi : i = (j : Int)) (hj : j < n) [ht : SliceTy P t el] [he : ElemTy P el z k b]
    (hr : RR q P ops N ((d, .pointer (some ⟨g, j * k, none⟩)) :: e) C l Q) : RR q P ops N e C (o :: l) Q := by
  subst hi
  refine RR_val hd hg hN (fun a w hf _ => ?_) hr
  simp only [execOp, ho, hf.ev hx, hf.ev hix, Sem.run_bind, run_indexAt hj w, Result.andThen_ok, Sem.run_pure, add_own, Nat.zero_add]

/-! ### loads -/
theorem run_load_one {t : TypeId} [ht : OneTy P t] {ad : Addr} {v : Value} {w : World} (h : w.cell? ad = some v) : (Instr.loadAt t (.pointer (some ad))).run P w = .ok v w := by
  simp [Instr.loadAt, Instr.sureAddr, loadVar, ht.agg w, h]
theorem run_load_agg {t : TypeId} {k : Nat} [ht : AggTy P t k] {ad : Addr} {cs : List Value} (hk : cs.length = k) {w : World} (h : Pt w ad cs) : (Instr.loadAt t (.pointer (some ad))).run P w = .ok (.agg cs.toArray) w := by
  have := run_loadCells_list (P := P) w ad cs h
  rw [hk] at this
  simp [Instr.loadAt, Instr.sureAddr, loadVar, ht.agg w, ht.size w, this]
theorem RR_load_old {h : List Ent} {o : Oper} {x : Operand} {t : TypeId} {ad : Addr} {k : Nat} {cs : List Value} {v : Value} {w0 : World} (hd : o.dst = some d) (ho : o.op = .load t x) (hg : gd ops e o.guard = some true) (hN : Nat.blt d N = true)
    (hx : evO e x = some (.pointer (some (ad.add k)))) [ht : OneTy P t] (hp : Pt w0 ad cs) (hv : nth cs k = some v) (hr : RR q P ops N ((d, v) :: e) (Wd w0 h) l Q) : RR q P ops N e (Wd w0 h) (o :: l) Q :=
  RR_val hd hg hN (fun a w hf hw => by
    rw [nth_eq] at hv
    simp only [execOp, ho, hf.ev hx, Sem.run_bind, run_load_one ((hp.mono hw) k v hv), Result.andThen_ok, Sem.run_pure]) hr
/-- the whole one-cell element -/
theorem RR_load_old0 {h : List Ent} {o : Oper} {x : Operand} {t : TypeId} {ad : Addr} {cs : List Value} {v : Value} {w0 : World} (hd : o.dst = some d) (ho : o.op = .load t x) (hg : gd ops e o.guard = some true) (hN : Nat.blt d N = true)
    (hx : evO e x = some (.pointer (some ad))) [ht : OneTy P t] (hp : Pt w0 ad cs) (hv : nth cs 0 = some v) (hr : RR q P ops N ((d, v) :: e) (Wd w0 h) l Q) : RR q P ops N e (Wd w0 h) (o :: l) Q :=
  RR_val hd hg hN (fun a w hf hw => by
    rw [nth_eq] at hv
    have := (hp.mono hw) 0 v hv
    rw [Addr.add_zero'] at this
    simp only [execOp, ho, hf.ev hx, Sem.run_bind, run_load_one this, Result.andThen_ok, Sem.run_pure]) hr
theorem RR_load_old_agg {h : List Ent} {o : Oper} {x : Operand} {t : TypeId} {n : Nat} {ad : Addr} {cs us : List Value} {w0 : World} (hd : o.dst = some d) (ho : o.op = .load t x) (hg : gd ops e o.guard = some true) (hN : Nat.blt d N = true)
    (hx : evO e x = some (.pointer (some ad))) [ht : AggTy P t n] (hp : Pt w0 ad cs) (hv : takeF cs n = some us) (hr : RR q P ops N ((d, .agg us.toArray) :: e) (Wd w0 h) l Q) : RR q P ops N e (Wd w0 h) (o :: l) Q :=
  RR_val hd hg hN (fun a w hf hw => by
    obtain ⟨h1, h2⟩ := takeF_eq _ _ _ hv
    have h3 := ((hp.mono hw).take n)
    rw [h1] at h3
    simp only [execOp, ho, hf.ev hx, Sem.run_bind, run_load_agg h2 h3, Result.andThen_ok, Sem.run_pure]) hr
theorem RR_load_old_aggk {h : List Ent} {o : Oper} {x : Operand} {t : TypeId} {n k : Nat} {ad : Addr} {cs us : List Value} {w0 : World} (hd : o.dst = some d) (ho : o.op = .load t x) (hg : gd ops e o.guard = some true) (hN : Nat.blt d N = true)
    (hx : evO e x = some (.pointer (some (ad.add k)))) [ht : AggTy P t n] (hp : Pt w0 ad cs) (hv : takeF (dropN cs k) n = some us) (hr : RR q P ops N ((d, .agg us.toArray) :: e) (Wd w0 h) l Q) : RR q P ops N e (Wd w0 h) (o :: l) Q :=
  RR_val hd hg hN (fun a w hf hw => by
    obtain ⟨h1, h2⟩ := takeF_eq _ _ _ hv
    rw [dropN_eq] at h1
    have h3 := ((hp.mono hw).drop k).take n
    rw [h1] at h3
    simp only [execOp, ho, hf.ev hx, Sem.run_bind, run_load_agg h2 h3, Result.andThen_ok, Sem.run_pure]) hr
theorem RR_load_own {h r : List Ent} {o : Oper} {x : Operand} {t T : TypeId} {g tot off : Nat} {cs : List Value} {v : Value} {w0 : World} (i : Nat) (hd : o.dst = some d) (ho : o.op = .load t x) (hg : gd ops e o.guard = some true) (hN : Nat.blt d N = true)
    (hx : evO e x = some (.pointer (some ⟨g, off, none⟩))) [ht : OneTy P t] (hp : pull i h = some (⟨g, T, tot, cs⟩, r)) (hv : nth cs off = some v) (hr : RR q P ops N ((d, v) :: e) (Wd w0 h) l Q) : RR q P ops N e (Wd w0 h) (o :: l) Q :=
  RR_val hd hg hN (fun a w hf hw => by
    rw [nth_eq] at hv
    have := (hw.perm (pull_perm _ _ _ _ hp)).head.cell hv
    simp only [execOp, ho, hf.ev hx, Sem.run_bind, run_load_one this, Result.andThen_ok, Sem.run_pure]) hr
theorem RR_load_own_agg {h r : List Ent} {o : Oper} {x : Operand} {t T : TypeId} {n g tot off : Nat} {cs us : List Value} {w0 : World} (i : Nat) (hd : o.dst = some d) (ho : o.op = .load t x) (hg : gd ops e o.guard = some true) (hN : Nat.blt d N = true)
    (hx : evO e x = some (.pointer (some ⟨g, off, none⟩))) [ht : AggTy P t n] (hp : pull i h = some (⟨g, T, tot, cs⟩, r)) (hv : takeF (dropN cs off) n = some us) (hr : RR q P ops N ((d, .agg us.toArray) :: e) (Wd w0 h) l Q) : RR q P ops N e (Wd w0 h) (o :: l) Q :=
  RR_val hd hg hN (fun a w hf hw => by
    obtain ⟨h1, h2⟩ := takeF_eq _ _ _ hv
    rw [dropN_eq] at h1
    have h3 := ((hw.perm (pull_perm _ _ _ _ hp)).head.pt off).take n
    rw [h1] at h3
    simp only [execOp, ho, hf.ev hx, Sem.run_bind, run_load_agg h2 h3, Result.andThen_ok, Sem.run_pure]) hr
end

section
variable {P : Program} {ops : Array Oper} {N : Nat} {e : Env} {Q : Exit → Act → World → Prop} {l : List Oper} {d : Nat} {w0 : World} {h r : List Ent}

/-- An operation that runs, gives a value, and leaves another world: in a region in order. -/
theorem RS_run {C : World → Prop} {o : Oper} (hd : o.dst = some d) (hg : gd ops e o.guard = some true) (hN : Nat.blt d N = true)
    (hv : ∀ a w, Fr N e a → C w → ∃ v w', (execOp a.eval o).run P w = .ok (.value v) w' ∧ ∀ a', Fr N ((d, v) :: e) a' → wpList P ops Q l a' w') : RR .sq P ops N e C (o :: l) Q := by
  intro a w hf hc
  refine wpList_step fun K hK => ?_
  rw [gd_wanted hf hg, if_pos rfl]
  show o.upon P a K Q _
  obtain ⟨v, w', hrun, hk⟩ := hv a w hf hc
  rw [hrun]
  show K (a.put o.dst v) w'
  rw [hd]
  exact hK _ _ (hk _ (hf.put hN v))

/-! ### new blocks -/
theorem run_newVar (t : TypeId) (v : Value) (w : World) : (newVar t v).run P w = .ok ⟨w.heap.size, 0, none⟩ (w.alloc (.cells v.cells t)) := by
  simp [newVar, newRow]
theorem RS_box {o : Oper} {T : TypeId} {x : Operand} {v : Value} {cs : List Value} (hd : o.dst = some d) (ho : o.op = .box T x) (hg : gd ops e o.guard = some true) (hN : Nat.blt d N = true)
    (hx : evO e x = some v) (hc : forceL (cellsL v) = some cs)
    (hr : ∀ g, RR .sq P ops N ((d, .pointer (some ⟨g, 0, none⟩)) :: e) (Wd w0 (⟨g, T, cs.length, cs⟩ :: h)) l Q) : RR .sq P ops N e (Wd w0 h) (o :: l) Q :=
  RS_run hd hg hN fun a w hf hw => by
    have hcs : v.cells.toList = cs := (cellsL_eq v).trans (forceL_eq _ _ hc)
    refine ⟨.pointer (some ⟨w.heap.size, 0, none⟩), w.alloc (.cells v.cells T), by simp only [execOp, ho, hf.ev hx, Instr.box, Sem.run_bind, run_newVar, Result.andThen_ok, Sem.run_pure], fun a' hf' => hr w.heap.size a' _ hf' ?_⟩
    have := hw.alloc v.cells T cs (by rw [hcs]; exact List.prefix_refl _)
    rwa [show v.cells.size = cs.length from by rw [← hcs, Array.length_toList]] at this
theorem RS_alloc {o : Oper} {T : TypeId} {z : Value} {k b : Nat} {cs : List Value} (hd : o.dst = some d) (ho : o.op = .alloc T) (hg : gd ops e o.guard = some true) (hN : Nat.blt d N = true)
    [he : ElemTy P T z k b] (hc : forceL (cellsL z) = some cs)
    (hr : ∀ g, RR .sq P ops N ((d, .pointer (some ⟨g, 0, none⟩)) :: e) (Wd w0 (⟨g, T, cs.length, cs⟩ :: h)) l Q) : RR .sq P ops N e (Wd w0 h) (o :: l) Q :=
  RS_run hd hg hN fun a w hf hw => by
    have hcs : z.cells.toList = cs := (cellsL_eq z).trans (forceL_eq _ _ hc)
    obtain ⟨i0, hi0, hz0, _, _⟩ := info_parts he.info
    refine ⟨.pointer (some ⟨w.heap.size, 0, none⟩), w.alloc (.cells z.cells T), by simp [execOp, ho, Instr.alloc, zeroValue, typeInfo, hi0, hz0, run_newVar], fun a' hf' => hr w.heap.size a' _ hf' ?_⟩
    have := hw.alloc z.cells T cs (by rw [hcs]; exact List.prefix_refl _)
    rwa [show z.cells.size = cs.length from by rw [← hcs, Array.length_toList]] at this

/-! ### stores -/
/-- An operation without a result. -/
theorem RS_act {C : World → Prop} {o : Oper} (hd : o.dst = none) (hg : gd ops e o.guard = some true)
    (hv : ∀ a w, Fr N e a → C w → ∃ w', (execOp a.eval o).run P w = .ok .skip w' ∧ ∀ a', Fr N e a' → wpList P ops Q l a' w') : RR .sq P ops N e C (o :: l) Q := by
  intro a w hf hc
  refine wpList_step fun K hK => ?_
  rw [gd_wanted hf hg, if_pos rfl]
  show o.upon P a K Q _
  obtain ⟨w', hrun, hk⟩ := hv a w hf hc
  rw [hrun]
  show K (a.put o.dst undef) w'
  rw [hd]
  exact hK _ _ (hk _ hf)
theorem sizeOf_one {t : TypeId} [ht : OneTy P t] (w : World) : (sizeOf t).run P w = .ok 1 w := ht.size w
theorem Ent.At.setRow {w : World} {g : Nat} {T : TypeId} {tot : Nat} {cs : List Value} (h : (⟨g, T, tot, cs⟩ : Ent).At w) (off : Nat) (vs : List Value) (hv : off + vs.length ≤ cs.length) :
    ∃ cur : Array Value, w.heap[g]? = some (.cells cur T (0, 0)) ∧ off + vs.length ≤ cur.size ∧
      (⟨g, T, tot, cs.take off ++ vs ++ cs.drop (off + vs.length)⟩ : Ent).At (w.setRow g (cur.toList.take off ++ vs ++ cur.toList.drop (off + vs.length)).toArray) := by
  obtain ⟨cur, hh, hs, t, ht⟩ := h
  simp only at hh hs ht
  have hl : cs.length + t.length = cur.size := by rw [← Array.length_toList, ← ht, List.length_append]
  refine ⟨cur, hh, by omega, _, setRow_heap w g cur _ T _ hh, ?_, t, ?_⟩
  · simp only [List.size_toArray, List.length_append, List.length_take, List.length_drop, Array.length_toList]; omega
  · simp only [← ht]
    rw [List.take_append_of_le_length (by omega), List.drop_append_of_le_length (by omega), List.append_assoc]
theorem World.grownBy_setRow (w : World) (g : Nat) (c : Array Value) : w.grownBy (w.setRow g c) (some g) :=
  ⟨rfl, rfl, rfl, by simp, fun k _ hk => setRow_other w g k _ (fun e => hk (by rw [e]))⟩
/-- cells of one's own are replaced; what they read afterwards is said by the caller -/
theorem RS_store_at {o : Oper} {t T : TypeId} {p x : Operand} {g tot off : Nat} {cs us cs' : List Value} {v : Value} (i : Nat) (hd : o.dst = none) (ho : o.op = .store t p x) (hg : gd ops e o.guard = some true)
    (hp : evO e p = some (.pointer (some ⟨g, off, none⟩))) (hx : evO e x = some v) (hc : cellsL v = us) (hs : ∀ w, (sizeOf t).run P w = .ok us.length w) (h1 : ∀ u ∈ us, u.oneCell' = true)
    (hpl : pull i h = some (⟨g, T, tot, cs⟩, r)) (hle : off + us.length ≤ cs.length) (hput : cs' = cs.take off ++ us ++ cs.drop (off + us.length))
    (hr : RR .sq P ops N e (Wd w0 (⟨g, T, tot, cs'⟩ :: r)) l Q) : RR .sq P ops N e (Wd w0 h) (o :: l) Q :=
  RS_act hd hg fun a w hf hw => by
    have hw2 := hw.perm (pull_perm _ _ _ _ hpl)
    have hcs : v.cells.toList = us := (cellsL_eq v).trans hc
    subst hput
    obtain ⟨cur, hh, hsz, hat⟩ := hw2.head.setRow off us hle
    have hst := run_storeCells_at P g off T us 0 cur w hh (by simpa using hsz) h1
    simp only [Nat.add_zero] at hst
    have hvs : v.cells.size = us.length := by rw [← hcs, Array.length_toList]
    refine ⟨_, ?_, fun a' hf' => hr a' _ hf' (hw2.swap (World.grownBy_setRow w g _) (Nat.le_refl _) _ hat (.inl rfl))⟩
    simp only [execOp, ho, hf.ev hp, hf.ev hx, Instr.storeAt, Instr.sureAddr, storeVar, Sem.run_bind, Sem.run_pure, Result.andThen_ok, hs w, hvs, hcs, ne_eq, not_true_eq_false, if_false, hst]
theorem RS_store1 {o : Oper} {t T : TypeId} {p x : Operand} {g tot off : Nat} {cs cs' : List Value} {v : Value} (i : Nat) (hd : o.dst = none) (ho : o.op = .store t p x) (hg : gd ops e o.guard = some true)
    (hp : evO e p = some (.pointer (some ⟨g, off, none⟩))) (hx : evO e x = some v) [ht : OneTy P t] (h1 : v.oneCell' = true)
    (hpl : pull i h = some (⟨g, T, tot, cs⟩, r)) (hput : putF cs off [v] = some cs')
    (hr : RR .sq P ops N e (Wd w0 (⟨g, T, tot, cs'⟩ :: r)) l Q) : RR .sq P ops N e (Wd w0 h) (o :: l) Q := by
  obtain ⟨h2, h3⟩ := putF_eq _ _ _ _ hput
  refine RS_store_at i hd ho hg hp hx (us := [v]) ?_ ht.size (by simpa using h1) hpl h3 h2 hr
  cases v <;> first | rfl | (simp [Value.oneCell'] at h1)
theorem RS_store_agg {o : Oper} {t T : TypeId} {p x : Operand} {n g tot off : Nat} {cs cs' us : List Value} {cv : Array Value} (i : Nat) (hd : o.dst = none) (ho : o.op = .store t p x) (hg : gd ops e o.guard = some true)
    (hp : evO e p = some (.pointer (some ⟨g, off, none⟩))) (hx : evO e x = some (.agg cv)) [ht : AggTy P t n] (hc : forceL cv.toList = some us) (hn : us.length = n) (h1 : (us.all Value.oneCell') = true)
    (hpl : pull i h = some (⟨g, T, tot, cs⟩, r)) (hput : putF cs off us = some cs')
    (hr : RR .sq P ops N e (Wd w0 (⟨g, T, tot, cs'⟩ :: r)) l Q) : RR .sq P ops N e (Wd w0 h) (o :: l) Q := by
  obtain ⟨h2, h3⟩ := putF_eq _ _ _ _ hput
  exact RS_store_at i hd ho hg hp hx (us := us) (forceL_eq _ _ hc) (by rw [hn]; exact ht.size) (by simpa using h1) hpl h3 h2 hr

/-! ### slices that are made -/
theorem fold_set (off : Nat) (vs : List Value) : ∀ (cs : Array Value) (i : Nat) (A B D : List Value), cs.toList = A ++ B ++ D → A.length = off + i → B.length = vs.length →
    ((vs.zipIdx i).foldl (fun cs (x : Value × Nat) => cs.setIfInBounds (off + x.2) x.1) cs).toList = A ++ vs ++ D := by
  induction vs with
  | nil =>
    intro cs i A B D h _ hB
    have : B = [] := List.eq_nil_of_length_eq_zero (by simpa using hB)
    subst this
    simpa using h
  | cons v vs ih =>
    intro cs i A B D h hA hB
    match B, hB with
    | b :: B', hB =>
      simp only [List.zipIdx_cons, List.foldl_cons]
      rw [ih (cs.setIfInBounds (off + i) v) (i + 1) (A ++ [v]) B' D ?_ (by simp [hA]; omega) (by simpa using hB)]
      · simp
      · rw [Array.toList_setIfInBounds, h, ← hA]
        simp
theorem cells_fold (v : Value) (off : Nat) (cs : Array Value) (A B D : List Value) (h : cs.toList = A ++ B ++ D) (hA : A.length = off) (hB : B.length = (cellsL v).length) :
    (v.cells.zipIdx.foldl (fun cs (x : Value × Nat) => cs.setIfInBounds (off + x.2) x.1) cs) = (A ++ cellsL v ++ D).toArray := by
  apply Array.ext'
  rw [← Array.foldl_toList, Array.toList_zipIdx, cellsL_eq]
  exact fold_set off _ cs 0 A B D h (by simpa using hA) hB
/-- the parts of a literal, in order -/
def evParts (e : Env) : Nat → List (Nat × Operand) → Option (List Value)
  | _, [] => some []
  | i, (j, x) :: l => cond (Nat.beq i j) (match evO e x, evParts e (i + 1) l with
    | some v, some vs => some (v :: vs)
    | _, _ => none) none
theorem evParts_ok {a : Act} (hf : Fr N e a) : ∀ (l : List (Nat × Operand)) (i : Nat) (vs : List Value), evParts e i l = some vs → l.map (fun x => (x.1, a.eval x.2)) = (vs.zipIdx i).map fun x => (x.2, x.1)
  | [], i, vs, hv => by simp only [evParts, Option.some.injEq] at hv; subst hv; simp
  | (j, x) :: l, i, vs, hv => by
    simp only [evParts] at hv
    cases hij : Nat.beq i j with
    | false => rw [hij] at hv; cases hv
    | true =>
      rw [hij] at hv
      have hij' := Nat.eq_of_beq_eq_true hij
      subst hij'
      simp only [cond_true] at hv
      split at hv
      · rename_i v us hx hus
        simp only [Option.some.injEq] at hv
        subst hv
        simp [hf.ev hx, evParts_ok hf l (i + 1) us hus]
      · cases hv
def flatC : List Value → List Value
  | [] => []
  | v :: l => cellsL v ++ flatC l
theorem fill_seq (k : Nat) (vs : List Value) (hk : ∀ v ∈ vs, (cellsL v).length = k) : ∀ (i : Nat) (cs : Array Value) (A B : List Value), cs.toList = A ++ B → A.length = i * k → B.length = vs.length * k →
    Instr.fill (fun i => some (i * k, k)) cs ((vs.zipIdx i).map fun x => (x.2, x.1)) = some (A ++ flatC vs).toArray := by
  induction vs with
  | nil =>
    intro i cs A B h _ hB
    have : B = [] := List.eq_nil_of_length_eq_zero (by simpa using hB)
    subst this
    simp only [List.zipIdx_nil, List.map_nil, Instr.fill, flatC]
    congr 1
    apply Array.ext'
    simpa using h
  | cons v vs ih =>
    intro i cs A B h hA hB
    have hv := hk v (List.mem_cons_self)
    have hvs : v.cells.size = k := by rw [← Array.length_toList, cellsL_eq]; exact hv
    have hB' : k ≤ B.length := by rw [hB, List.length_cons, Nat.add_mul]; omega
    have hsz : ¬ (i * k + v.cells.size > cs.size) := by
      rw [← Array.length_toList (xs := cs), h, List.length_append, hA, hvs]; omega
    simp only [List.zipIdx_cons, List.map_cons, Instr.fill, hvs, ne_eq, not_true_eq_false, decide_false, Bool.false_or]
    rw [if_neg (by rw [hvs] at hsz; simpa using hsz)]
    have hc := cells_fold v (i * k) cs A (B.take k) (B.drop k) (by rw [h, List.append_assoc, List.take_append_drop]) hA (by rw [hv, List.length_take]; omega)
    rw [hc, ih (fun u hu => hk u (List.mem_cons_of_mem _ hu)) (i + 1) _ (A ++ cellsL v) (B.drop k) (by simp) (by rw [List.length_append, hA, hv, Nat.add_mul]; omega) (by rw [List.length_drop, hB, List.length_cons, Nat.add_mul]; omega)]
    simp [flatC]
theorem run_buildSlice {t el : TypeId} [ht : SliceTy P t el] {z : Value} {k b : Nat} [he : ElemTy P el z k b] (vs : List Value) (hk : ∀ v ∈ vs, (cellsL v).length = k) (hn : vs.length * k ≤ 16777216) (w : World) :
    (Instr.buildSlice t vs.length ((vs.zipIdx 0).map fun x => (x.2, x.1)).toArray).run P w = .ok (.slice (some ⟨w.heap.size, 0, none⟩) vs.length vs.length) (w.alloc (.cells (flatC vs).toArray el)) := by
  obtain ⟨i0, hi0, hz0, hz1, _⟩ := info_parts he.info
  have hbig : ¬ (vs.length * k > 2 ^ 24) := by omega
  have hfill := fun (cs : Array Value) (hcs : cs.size = vs.length * k) => fill_seq k vs hk 0 cs [] cs.toList (by simp) (by simp) (by simpa using hcs)
  simp only [List.nil_append] at hfill
  by_cases h0 : vs.length * k = 0
  · have := hfill #[] (by simp [h0])
    simp [Instr.buildSlice, run_underlying ht.und, sizeOf, typeInfo, hi0, hz1, h0, this, newRow, Array.range_zero']
  · have := hfill ((Array.range (vs.length * k)).map (fun j => z.cells[j % z.cells.size]!)) (by simp)
    simp [Instr.buildSlice, run_underlying ht.und, sizeOf, typeInfo, hi0, hz1, hz0, h0, hbig, zeroValue, this, newRow]
theorem flatC_length {k : Nat} : ∀ (vs : List Value), (∀ v ∈ vs, (cellsL v).length = k) → (flatC vs).length = vs.length * k
  | [], _ => by simp [flatC]
  | v :: vs, h => by
    have := flatC_length vs (fun u hu => h u (List.mem_cons_of_mem _ hu))
    simp only [flatC, List.length_append, h v (List.mem_cons_self), List.length_cons, Nat.add_mul, this]
    omega
theorem RS_buildSlice {o : Oper} {t el : TypeId} {n : Nat} {parts : Array (Nat × Operand)} {z : Value} {k b : Nat} {vs cs : List Value} (hd : o.dst = some d) (ho : o.op = .buildSlice t n parts) (hg : gd ops e o.guard = some true) (hN : Nat.blt d N = true)
    [ht : SliceTy P t el] [he : ElemTy P el z k b] (hv : evParts e 0 parts.toList = some vs) (hn : vs.length = n) (hk : (vs.all fun v => Nat.beq (cellsL v).length k) = true) (hb : Nat.ble (vs.length * k) 16777216 = true) (hc : forceL (flatC vs) = some cs)
    (hr : ∀ g, RR .sq P ops N ((d, .slice (some ⟨g, 0, none⟩) n n) :: e) (Wd w0 (⟨g, el, n * k, cs⟩ :: h)) l Q) : RR .sq P ops N e (Wd w0 h) (o :: l) Q := by
  have hk' : ∀ v ∈ vs, (cellsL v).length = k := fun v hv => Nat.eq_of_beq_eq_true (List.all_eq_true.1 hk v hv)
  have hcs := forceL_eq _ _ hc
  refine RS_run hd hg hN fun a w hf hw => ?_
  have hp : parts.map (fun (x : Nat × Operand) => (x.1, a.eval x.2)) = ((vs.zipIdx 0).map fun x => (x.2, x.1)).toArray := by
    apply Array.ext'
    rw [Array.toList_map]
    exact evParts_ok hf parts.toList 0 vs hv
  have hlen := flatC_length vs hk'
  subst hn
  refine ⟨.slice (some ⟨w.heap.size, 0, none⟩) vs.length vs.length, w.alloc (.cells (flatC vs).toArray el), ?_, fun a' hf' => hr w.heap.size a' _ hf' ?_⟩
  · have hrun := run_buildSlice (P := P) (t := t) vs hk' (Nat.le_of_ble_eq_true hb) w
    simp only [execOp, ho]
    rw [Sem.run_bind]
    have hp' : (parts.map fun x => match x with | (i, x) => (i, a.eval x)) = ((vs.zipIdx 0).map fun x => (x.2, x.1)).toArray := hp
    rw [hp', hrun]
    rfl
  · have := hw.alloc (flatC vs).toArray el cs (by rw [← hcs]; exact List.prefix_refl _)
    rwa [show (flatC vs).toArray.size = vs.length * k from by simpa using hlen] at this
end

section
variable {P : Program} {ops : Array Oper} {N : Nat} {e : Env} {Q : Exit → Act → World → Prop} {l : List Oper} {d : Nat} {w0 : World} {h r : List Ent}

/-! ### struct literals -/
class BuildTy (P : Program) (t : TypeId) (places : outParam (List (Nat × Nat))) (zs : outParam (List Value)) : Prop where
  zero : ∀ w, (zeroValue t).run P w = .ok (.agg zs.toArray) w
  und : ∃ fs : Array Field, P.underlying t = some (.struct fs) ∧ ∀ w, (fs.mapM fun f => (do pure (f.offset, ← sizeOf f.type) : Sem (Nat × Nat))).run P w = .ok places.toArray w
def evP (e : Env) : List (Nat × Operand) → Option (List (Nat × Value))
  | [] => some []
  | (j, x) :: l => match evO e x, evP e l with
    | some v, some vs => some ((j, v) :: vs)
    | _, _ => none
theorem evP_ok {a : Act} (hf : Fr N e a) : ∀ (l : List (Nat × Operand)) (vs : List (Nat × Value)), evP e l = some vs → l.map (fun x => (x.1, a.eval x.2)) = vs
  | [], vs, hv => by simp only [evP, Option.some.injEq] at hv; subst hv; simp
  | (j, x) :: l, vs, hv => by
    simp only [evP] at hv
    split at hv
    · rename_i v us hx hus
      simp only [Option.some.injEq] at hv
      subst hv
      simp [hf.ev hx, evP_ok hf l us hus]
    · cases hv
def nthP : List (Nat × Nat) → Nat → Option (Nat × Nat)
  | [], _ => none
  | x :: _, 0 => some x
  | _ :: l, n + 1 => nthP l n
theorem nthP_eq : ∀ (l : List (Nat × Nat)) (n : Nat), nthP l n = l[n]?
  | [], _ => by simp [nthP]
  | x :: l, 0 => by simp [nthP]
  | x :: l, n + 1 => by simp [nthP, nthP_eq l n]
def fillF (places : List (Nat × Nat)) : List Value → List (Nat × Value) → Option (List Value)
  | cells, [] => forceL cells
  | cells, (i, v) :: rest => match nthP places i with
    | some (off, size) => cond (Nat.beq (cellsL v).length size) (match putF cells off (cellsL v) with
      | some c => fillF places c rest
      | none => none) none
    | none => none
theorem fillF_ok (places : List (Nat × Nat)) : ∀ (parts : List (Nat × Value)) (cells r : List Value), fillF places cells parts = some r →
    Instr.fill (places.toArray[·]?) cells.toArray parts = some r.toArray
  | [], cells, r, h => by
    simp only [fillF] at h
    rw [forceL_eq _ _ h]
    rfl
  | (i, v) :: rest, cells, r, h => by
    simp only [fillF] at h
    split at h
    · rename_i off size hp
      cases hb : Nat.beq (cellsL v).length size with
      | false => rw [hb] at h; cases h
      | true =>
        rw [hb] at h
        simp only [cond_true] at h
        have hsz := Nat.eq_of_beq_eq_true hb
        split at h
        · rename_i c hc
          obtain ⟨h1, h2⟩ := putF_eq _ _ _ _ hc
          rw [nthP_eq] at hp
          have hvs : v.cells.size = (cellsL v).length := by rw [← cellsL_eq, Array.length_toList]
          have hpl : places.toArray[i]? = some (off, size) := by simpa using hp
          have hle : ¬ (off + v.cells.size > cells.toArray.size) := by simp only [hvs, List.size_toArray]; omega
          have hf := cells_fold v off cells.toArray (cells.take off) ((cells.drop off).take (cellsL v).length) (cells.drop (off + (cellsL v).length))
            (by simp only [List.append_assoc]; rw [← List.drop_drop, List.take_append_drop, List.take_append_drop]) (by rw [List.length_take]; omega) (by rw [List.length_take, List.length_drop]; omega)
          have ih := fillF_ok places rest c r h
          simp only [Instr.fill, hpl, hvs, hsz, ne_eq, not_true_eq_false, decide_false, Bool.false_or]
          rw [if_neg (by rw [hvs, hsz] at hle; simpa using hle), hf, ← h1]
          exact ih
        · cases h
    · cases h
theorem RR_build {C : World → Prop} {q : QM} {o : Oper} {t : TypeId} {parts : Array (Nat × Operand)} {places : List (Nat × Nat)} {zs cs : List Value} {vs : List (Nat × Value)} (hd : o.dst = some d) (ho : o.op = .build t parts) (hg : gd ops e o.guard = some true) (hN : Nat.blt d N = true)
    [ht : BuildTy P t places zs] (hv : evP e parts.toList = some vs) (hc : fillF places zs vs = some cs)
    (hr : RR q P ops N ((d, .agg cs.toArray) :: e) C l Q) : RR q P ops N e C (o :: l) Q := by
  refine RR_val hd hg hN (fun a w hf _ => ?_) hr
  obtain ⟨fs, hu, hm⟩ := ht.und
  have hp : (parts.map fun x => match x with | (i, x) => (i, a.eval x)).toList = vs := by
    rw [Array.toList_map]; exact evP_ok hf parts.toList vs hv
  have hfill := fillF_ok places vs zs cs hc
  simp only [execOp, ho, Instr.build, Sem.run_bind, ht.zero w, Result.andThen_ok, run_underlying hu, Value.cells]
  rw [hm w]
  have hp' : (Array.map (fun (x : Nat × Operand) => (x.1, a.eval x.2)) parts).toList = vs := hp
  simp only [Result.andThen_ok, hp', hfill, Sem.run_pure]

/-! ### append -/
/-- v reads as m elements of k cells each. -/
def Rd (w : World) (v : Value) (m k : Nat) (cs : List Value) : Prop := ∃ A c, v = .slice A m c ∧ cs.length = m * k ∧ (0 < m → ∃ ad, A = some ad ∧ Pt w ad cs)
theorem Sl.rd {α : Type} [Enc α] {w : World} {v : Value} {xs : List α} (hs : Sl w v xs) : Rd w v xs.length (Enc.k α) (flat xs) := by
  obtain ⟨A, n, c, rfl, rfl, _, _, hp⟩ := hs
  exact ⟨A, c, rfl, flat_length xs, hp⟩
theorem Ent.At.rd {w : World} {g : Nat} {T : TypeId} {tot : Nat} {cs : List Value} (h : (⟨g, T, tot, cs⟩ : Ent).At w) {m k c : Nat} (hl : cs.length = m * k) : Rd w (.slice (some ⟨g, 0, none⟩) m c) m k cs :=
  ⟨_, _, rfl, hl, fun _ => ⟨_, rfl, by simpa using h.pt 0⟩⟩
theorem Ent.At.sl {α : Type} [Enc α] {w : World} {g : Nat} {T : TypeId} {tot : Nat} {cs : List Value} (h : (⟨g, T, tot, cs⟩ : Ent).At w) {xs : List α} (hl : cs = flat xs) {n c : Nat} (hn : n = xs.length) (hc : n ≤ c) (hm : c ≤ maxLen) : Sl w (.slice (some ⟨g, 0, none⟩) n c) xs :=
  ⟨_, _, _, rfl, hn, hc, hm, fun _ => ⟨_, rfl, by rw [← hl]; simpa using h.pt 0⟩⟩
theorem own_of_at {w : World} {g : Nat} {T : TypeId} {c k n : Nat} {xs : List Value} (h : (⟨g, T, c * k, xs⟩ : Ent).At w) (hk : 0 < k) (hx : xs.length = n * k) (hc : c ≤ maxLen) :
    w.ownsRow 0 T k (.slice (some ⟨g, 0, none⟩) n c) n xs := by
  obtain ⟨cur, hh, hs, t, ht⟩ := h
  simp only at hh hs ht
  have hle : n * k ≤ c * k := by
    rw [← hs, ← hx, ← Array.length_toList, ← ht, List.length_append]; omega
  refine ⟨hx, .inr ⟨g, c, cur, rfl, Nat.zero_le _, hh, Nat.le_of_mul_le_mul_right hle hk, hc, hs, ?_⟩⟩
  rw [← hx, ← ht]; simp
theorem run_append_of_nil {w : World} (base : Nat) (t ty el : TypeId) (i : TypeInfo) (size : Nat) (ht : P.underlying t = some (.slice el)) (hi : P.info? el = some i)
    (v : Value) (n : Nat) (xs : List Value) (hown : w.ownsRow base el size v n xs) (c : Nat) : (Builtin.append_ #[t, t] ty #[v, .slice none 0 c]).run P w = .ok v w := by
  rcases hown.2 with ⟨rfl, rfl⟩ | ⟨g, cap, cur, rfl, _, _, hnc, _⟩
  · simp [Builtin.append_, run_underlying ht, sizeOf, typeInfo, hi, Builtin.lenOf, Builtin.firstCells]
  · simp [Builtin.append_, run_underlying ht, sizeOf, typeInfo, hi, Builtin.lenOf, Builtin.firstCells, hnc, storeCells]
theorem run_append_at {w : World} {t el ty : TypeId} [ht : SliceTy P t el] {z : Value} {k b : Nat} [he : ElemTy P el z k b] {g n c m : Nat} {xs news : List Value} {xv : Value} (h : (⟨g, el, c * k, xs⟩ : Ent).At w) (hx : xs.length = n * k) (hc : c ≤ maxLen)
    (hr : Rd w xv m k news) (h1 : ∀ u ∈ news, u.oneCell' = true) (hb : (n + m) * b ≤ 140737488355328) (hm : n + m ≤ maxLen) :
    ∃ g' c' w', (Builtin.append_ #[t, t] ty #[.slice (some ⟨g, 0, none⟩) n c, xv]).run P w = .ok (.slice (some ⟨g', 0, none⟩) (n + m) c') w' ∧ (⟨g', el, c' * k, xs ++ news⟩ : Ent).At w' ∧ w.grownBy w' (some g) ∧ w.drawn ≤ w'.drawn ∧ (g' = g ∨ w.heap.size ≤ g') ∧ n + m ≤ c' ∧ c' ≤ maxLen := by
  obtain ⟨i0, hi0, hz0, hz1, hz2⟩ := info_parts he.info
  have hown := own_of_at h he.pos hx hc
  obtain ⟨A, c1, rfl, hl, hp⟩ := hr
  have fin : ∀ v' w', w'.ownsRow 0 el k v' (n + m) (xs ++ news) → w.grownBy w' (some g) → (v'.ownBlock = some g ∨ v'.ownBlock = some w.heap.size) →
      ∃ g' c', v' = .slice (some ⟨g', 0, none⟩) (n + m) c' ∧ (⟨g', el, c' * k, xs ++ news⟩ : Ent).At w' ∧ (g' = g ∨ w.heap.size ≤ g') ∧ n + m ≤ c' ∧ c' ≤ maxLen := by
    intro v' w' ho hg hob
    rcases ho.2 with ⟨rfl, _⟩ | ⟨g', cap, cur, rfl, _, hh, hnc, hcm, hcs, htk⟩
    · simp [Value.ownBlock] at hob
    · refine ⟨g', cap, rfl, ⟨cur, hh, hcs, ?_⟩, ?_, hnc, hcm⟩
      · simp only; rw [← htk]; exact List.take_prefix _ _
      · rcases hob with e | e <;> simp [Value.ownBlock] at e <;> omega
  cases A with
  | none =>
    have hm0 : m = 0 := by
      rcases Nat.eq_zero_or_pos m with h0 | h0
      · exact h0
      · obtain ⟨ad, hn, _⟩ := hp h0; cases hn
    subst hm0
    have hn : news = [] := List.eq_nil_of_length_eq_zero (by simpa using hl)
    subst hn
    have hrun := run_append_of_nil (P := P) 0 t ty el i0 k ht.und hi0 _ n xs hown c1
    obtain ⟨g', c', hv, h2, h3, h4, h5⟩ := fin (.slice (some ⟨g, 0, none⟩) n c) w (by simpa using hown) (World.grownBy.refl w _) (.inl rfl)
    exact ⟨g', c', w, by rw [hrun, hv], h2, World.grownBy.refl w _, Nat.le_refl _, h3, h4, h5⟩
  | some ad =>
    have hcells : ∀ j u, news[j]? = some u → w.cell? (ad.add j) = some u := by
      intro j u hu
      rcases Nat.eq_zero_or_pos m with h0 | h0
      · subst h0
        have hn : news = [] := List.eq_nil_of_length_eq_zero (by simpa using hl)
        subst hn
        simp at hu
      · obtain ⟨ad', hn, hpt⟩ := hp h0
        injection hn with hn
        subst hn
        exact hpt j u hu
    obtain ⟨v', w', hrun, h2, h3, _, h5⟩ := run_append_own_at (P := P) w 0 t ty el i0 z k b ht.und hi0 hz0 hz1 hz2 he.zs he.pos _ n xs hown ad m c1 news hl hcells h1 hm hb (Nat.zero_le _)
    obtain ⟨g', c', hv, h6, h7, h8, h9⟩ := fin v' w' h2 h3 h5
    have hdr : w.drawn ≤ w'.drawn := by
      rcases hown.2 with ⟨hb0, _⟩ | ⟨g0, cap, cur, hb0, _, hg0, hnc, hcm, hcs, htake⟩
      · cases hb0
      · simp only [Value.slice.injEq, Option.some.injEq, Addr.mk.injEq, and_true] at hb0
        obtain ⟨rfl, _, rfl⟩ := hb0
        by_cases hroom : n + m ≤ c
        · have hr := run_append_room (P := P) w t ty el i0 ht.und hi0 g n c cur hg0 ad m c1 news (by rw [hz1]; exact hl) hcells h1 hroom (by rw [hz1, hl, hcs, ← Nat.add_mul]; exact Nat.mul_le_mul_right _ hroom)
          rw [hrun] at hr
          cases hr
          exact Nat.le_refl _
        · have hr := run_append_grow (P := P) w t ty el i0 z ht.und hi0 hz0 ⟨g, 0, none⟩ n c xs (by rw [hz1]; exact hx) (hown.cells (g := g) rfl) ad m c1 news (by rw [hz1]; exact hl) hcells (by omega) (by simp only [maxLen] at hm; omega) (by rw [hz2]; exact growslice_fits (by omega) hb)
          rw [hrun] at hr
          cases hr
          exact Nat.le_succ _
    exact ⟨g', c', w', by rw [hrun, hv], h6, h3, hdr, h7, h8, h9⟩
theorem RS_append {o : Oper} {t el : TypeId} {s x : Operand} {z : Value} {g tot n c m k b : Nat} {xs news : List Value} {xv : Value} (i : Nat) (hd : o.dst = some d) (ho : o.op = .call { callee := .builtin .append, args := #[s, x], argTypes := #[t, t] }) (hg : gd ops e o.guard = some true) (hN : Nat.blt d N = true)
    [ht : SliceTy P t el] [he : ElemTy P el z k b] (hs : evO e s = some (.slice (some ⟨g, 0, none⟩) n c)) (hx : evO e x = some xv) (hpl : pull i h = some (⟨g, el, tot, xs⟩, r)) (htot : tot = c * k) (hl : xs.length = n * k) (hc : c ≤ maxLen)
    (hrd : ∀ w, Wd w0 h w → Rd w xv m k news) (h1 : ∀ u ∈ news, u.oneCell' = true) (hb : (n + m) * b ≤ 140737488355328) (hm : n + m ≤ maxLen)
    (hr : ∀ g2 c2, n + m ≤ c2 → c2 ≤ maxLen → RR .sq P ops N ((d, .slice (some ⟨g2, 0, none⟩) (n + m) c2) :: e) (Wd w0 (⟨g2, el, c2 * k, xs ++ news⟩ :: r)) l Q) : RR .sq P ops N e (Wd w0 h) (o :: l) Q := by
  subst htot
  refine RS_run hd hg hN fun a w hf hw => ?_
  have hw2 := hw.perm (pull_perm _ _ _ _ hpl)
  obtain ⟨g', c', w', hrun, hat, hgr, hdr, hg', h4, h5⟩ := run_append_at (P := P) (t := t) (ty := o.type) hw2.head hl hc (hrd w hw) h1 hb hm
  refine ⟨_, w', ?_, fun a' hf' => hr g' c' h4 h5 a' w' hf' (hw2.swap hgr hdr _ hat hg')⟩
  simp only [execOp, ho, resolve, invoke, builtin, Sem.run_bind, Sem.run_pure, Result.andThen_ok, List.map_toArray, List.map_cons, List.map_nil, hf.ev hs, hf.ev hx, hrun]
/-- onto a row of one's own, typed -/
theorem RS_append_sl {α : Type} {hα : Enc α} {o : Oper} {t el : TypeId} {s x : Operand} {z : Value} {g tot n c b : Nat} {xs : List Value} {xv : Value} (i : Nat) (us ms : List α) (hd : o.dst = some d) (ho : o.op = .call { callee := .builtin .append, args := #[s, x], argTypes := #[t, t] }) (hg : gd ops e o.guard = some true) (hN : Nat.blt d N = true)
    [ht : SliceTy P t el] {kk : Nat} [he : ElemTy P el z kk b] (hke : kk = Enc.k α) (hs : evO e s = some (.slice (some ⟨g, 0, none⟩) n c)) (hx : evO e x = some xv) (hpl : pull i h = some (⟨g, el, tot, xs⟩, r)) (htot : tot = c * Enc.k α) (hxs : xs = flat us) (hn : n = us.length) (hc : c ≤ maxLen)
    (hrd : ∀ w, Wd w0 h w → Sl w xv ms) (hb : (us.length + ms.length) * b ≤ 140737488355328) (hm : us.length + ms.length ≤ maxLen)
    (hr : ∀ g2 c2, us.length + ms.length ≤ c2 → c2 ≤ maxLen → RR .sq P ops N ((d, .slice (some ⟨g2, 0, none⟩) (us ++ ms).length c2) :: e) (Wd w0 (⟨g2, el, c2 * Enc.k α, flat (us ++ ms)⟩ :: r)) l Q) : RR .sq P ops N e (Wd w0 h) (o :: l) Q := by
  subst hke
  subst hxs hn
  exact RS_append i hd ho hg hN hs hx hpl htot (flat_length us) hc (fun w hw => (hrd w hw).rd) (flat_one ms) hb hm fun g2 c2 h1 h2 => by
    have := hr g2 c2 h1 h2
    rwa [flat_append, List.length_append] at this
theorem RS_append_one {α : Type} {hα : Enc α} {o : Oper} {t el el' : TypeId} {s x : Operand} {z : Value} {g tot n c b g1 c1 tot1 : Nat} {xs cs1 : List Value} {r1 : List Ent} (i j : Nat) (us : List α) (u : α) (hd : o.dst = some d) (ho : o.op = .call { callee := .builtin .append, args := #[s, x], argTypes := #[t, t] }) (hg : gd ops e o.guard = some true) (hN : Nat.blt d N = true)
    [ht : SliceTy P t el] {kk : Nat} [he : ElemTy P el z kk b] (hke : kk = Enc.k α) (hs : evO e s = some (.slice (some ⟨g, 0, none⟩) n c)) (hx : evO e x = some (.slice (some ⟨g1, 0, none⟩) 1 c1)) (hpl : pull i h = some (⟨g, el, tot, xs⟩, r)) (hpl1 : pull j h = some (⟨g1, el', tot1, cs1⟩, r1)) (hu : cs1 = Enc.enc u)
    (htot : tot = c * Enc.k α) (hxs : xs = flat us) (hn : n = us.length) (hc : c ≤ maxLen) (hb : (us.length + 1) * b ≤ 140737488355328) (hm : us.length + 1 ≤ maxLen)
    (hr : ∀ g2 c2, us.length + 1 ≤ c2 → c2 ≤ maxLen → RR .sq P ops N ((d, .slice (some ⟨g2, 0, none⟩) (us.length + 1) c2) :: e) (Wd w0 (⟨g2, el, c2 * Enc.k α, flat (us ++ [u])⟩ :: r)) l Q) : RR .sq P ops N e (Wd w0 h) (o :: l) Q := by
  subst hke
  subst hxs hn hu
  have hone : flat [u] = Enc.enc u := by simp [flat]
  exact RS_append i hd ho hg hN hs hx hpl htot (flat_length us) hc (fun w hw => (hw.perm (pull_perm _ _ _ _ hpl1)).head.rd (by rw [Enc.len, Nat.one_mul])) (Enc.one u) hb hm fun g2 c2 h1 h2 => by
    have := hr g2 c2 h1 h2
    rwa [flat_append, hone] at this

/-! ### make -/
theorem made_flat {α : Type} [Enc α] (u : α) (z : Array Value) (hz : z.toList = Enc.enc u) (m : Nat) : (madeCells z (m * Enc.k α)).toList = flat (List.replicate m u) := by
  have hsz : z.size = Enc.k α := by rw [← Array.length_toList, hz, Enc.len]
  have hk := Enc.pos (α := α)
  apply List.ext_getElem?
  intro i
  by_cases hi : i < m * Enc.k α
  · have hq : i / Enc.k α < m := Nat.div_lt_of_lt_mul (by rw [Nat.mul_comm]; exact hi)
    have hr := Nat.mod_lt i hk
    have h1 := flat_at (l := List.replicate m u) (k := i / Enc.k α) (r := u) (by simp [hq])
    have h2 : (flat (List.replicate m u))[i]? = (Enc.enc u)[i % Enc.k α]? := by
      rw [← h1, List.getElem?_take, if_pos hr, List.getElem?_drop, Nat.mul_comm, Nat.div_add_mod]
    rw [h2, ← hz]
    simp [madeCells, hi, hsz, hr, getElem!_pos]
  · rw [List.getElem?_eq_none (by simp [madeCells]; omega), List.getElem?_eq_none (by rw [flat_length, List.length_replicate]; omega)]
theorem RS_make {α : Type} {hα : Enc α} {o : Oper} {t el : TypeId} {x y : Operand} {z : Value} {b : Nat} {n : Int} (m : Nat) (u : α) (hd : o.dst = some d) (ho : o.op = .makeSlice t x y) (hg : gd ops e o.guard = some true) (hN : Nat.blt d N = true)
    [ht : SliceTy P t el] {kk : Nat} [he : ElemTy P el z kk b] (hke : kk = Enc.k α) (hx : evO e x = some (.int .i64 n)) (hy : evO e y = some (.int .i64 n)) (hn : n = (m : Int)) (hz : cellsL z = Enc.enc u) (hb : m * b ≤ 281474976710656) (hm : m ≤ maxLen)
    (hr : ∀ g, RR .sq P ops N ((d, .slice (some ⟨g, 0, none⟩) m m) :: e) (Wd w0 (⟨g, el, m * Enc.k α, flat (List.replicate m u)⟩ :: h)) l Q) : RR .sq P ops N e (Wd w0 h) (o :: l) Q := by
  subst hke
  subst hn
  refine RS_run hd hg hN fun a w hf hw => ?_
  obtain ⟨i0, hi0, hz0, hz1, hz2⟩ := info_parts he.info
  have hb' : (i0.bytes : Int) * (m : Int) ≤ 281474976710656 := by
    rw [hz2]
    have : ((b * m : Nat) : Int) ≤ 281474976710656 := by rw [Nat.mul_comm]; omega
    rwa [Int.natCast_mul] at this
  have hrun := run_make (P := P) w t el i0 z ht.und hi0 hz0 .i64 .i64 (m : Int) (m : Int) (by omega) (by omega) hb' (by unfold maxLen at hm; omega)
  simp only [Int.toNat_natCast, hz1] at hrun
  refine ⟨.slice (some ⟨w.heap.size, 0, none⟩) m m, w.alloc (.cells (madeCells z.cells (m * Enc.k α)) el), by simp only [execOp, ho, hf.ev hx, hf.ev hy, Sem.run_bind, hrun, Result.andThen_ok, Sem.run_pure], fun a' hf' => hr w.heap.size a' _ hf' ?_⟩
  have := hw.alloc (madeCells z.cells (m * Enc.k α)) el (flat (List.replicate m u)) (by rw [made_flat u z.cells ((cellsL_eq z).trans hz)]; exact List.prefix_refl _)
  rwa [size_madeCells] at this

/-! ### slices of slices -/
theorem run_sliceAt {t el : TypeId} [ht : SliceTy P t el] {z : Value} {k b : Nat} [he : ElemTy P el z k b] (A : Option Addr) (n c : Nat) (lo hi : Option Value) (p q' : Nat)
    (hlo : (lo = none ∧ p = 0) ∨ lo = some (.int .i64 (p : Int))) (hhi : (hi = none ∧ q' = n) ∨ hi = some (.int .i64 (q' : Int))) (h1 : p ≤ q') (h2 : q' ≤ n) (h3 : n ≤ c) (w : World) :
    (Instr.sliceAt t (.slice A n c) lo hi none).run P w = .ok (.slice (if c = p then A else A.map (·.add (p * k))) (q' - p) (c - p)) w := by
  obtain ⟨i0, hi0, _, hz1, _⟩ := info_parts he.info
  have e1 : q' ≤ c := by omega
  rcases hlo with ⟨rfl, rfl⟩ | rfl <;> rcases hhi with ⟨rfl, rfl⟩ | rfl <;>
    simp [Instr.sliceAt, Instr.slice, run_underlying ht.und, Instr.sliceBounds, Instr.sliceBound, asIntOf, sizeOf, typeInfo, hi0, hz1, h1, e1]
theorem Sl.cut {α : Type} [Enc α] {w : World} {A : Option Addr} {n c : Nat} {xs : List α} (hs : Sl w (.slice A n c) xs) {p q' : Nat} (h1 : p ≤ q') (h2 : q' ≤ n) :
    Sl w (.slice (if c = p then A else A.map (·.add (p * Enc.k α))) (q' - p) (c - p)) ((xs.take q').drop p) := by
  obtain ⟨A', n', c', hv, hn, hc, hm, hp⟩ := hs
  injection hv with e1 e2 e3
  subst e1 e2 e3
  refine ⟨_, _, _, rfl, by rw [List.length_drop, List.length_take]; omega, by omega, by omega, fun h0 => ?_⟩
  obtain ⟨ad, rfl, hpt⟩ := hp (by omega)
  rw [if_neg (by omega)]
  refine ⟨_, rfl, ?_⟩
  rw [flat_drop, flat_take]
  exact (hpt.take _).drop _
def evB (e : Env) : Option Operand → Option (Option Value)
  | none => some none
  | some x => match evO e x with
    | some v => some (some v)
    | none => none
theorem evB_ok {a : Act} (hf : Fr N e a) : ∀ (x : Option Operand) (v : Option Value), evB e x = some v → x.map a.eval = v
  | none, v, h => by simpa [evB] using h
  | some x, v, h => by
    simp only [evB] at h
    split at h
    · rename_i u hu; simp only [Option.some.injEq] at h; subst h; simp [hf.ev hu]
    · cases h
theorem RR_slice_own {α : Type} {hα : Enc α} {C : World → Prop} {q : QM} {o : Oper} {t el : TypeId} {x : Operand} {lo hi : Option Operand} {lo' hi' : Option Value} {z : Value} {b n c : Nat} {A : Option Addr} {xs : List α} (p q' : Nat) (hd : o.dst = some d) (ho : o.op = .slice t x lo hi none) (hg : gd ops e o.guard = some true) (hN : Nat.blt d N = true)
    [ht : SliceTy P t el] {kk : Nat} [he : ElemTy P el z kk b] (hx : evO e x = some (.slice A n c)) (hl : evB e lo = some lo') (hh : evB e hi = some hi') (hs : ∀ w, C w → Sl w (.slice A n c) xs) (hke : kk = Enc.k α) (hnc : n ≤ c)
    (hlo : (lo' = none ∧ p = 0) ∨ lo' = some (.int .i64 (p : Int))) (hhi : (hi' = none ∧ q' = n) ∨ hi' = some (.int .i64 (q' : Int))) (h1 : p ≤ q') (h2 : q' ≤ n)
    (hr : ∀ A1 n1 c1, (∀ w, C w → Sl w (.slice A1 n1 c1) ((xs.take q').drop p)) → RR q P ops N ((d, .slice A1 n1 c1) :: e) C l Q) : RR q P ops N e C (o :: l) Q := by
  subst hke
  refine RR_val hd hg hN (fun a w hf _ => ?_) (hr _ _ _ fun w hw => (hs w hw).cut h1 h2)
  have h := run_sliceAt (P := P) (t := t) A n c lo' hi' p q' hlo hhi h1 h2 hnc w
  have e1 := evB_ok hf lo lo' hl
  have e2 := evB_ok hf hi hi' hh
  simp only [execOp, ho, hf.ev hx, e1, e2, Option.map_none, Sem.run_bind, h, Result.andThen_ok, Sem.run_pure]
theorem RR_slice_old {α : Type} {hα : Enc α} {C : World → Prop} {q : QM} {o : Oper} {t el : TypeId} {x : Operand} {lo hi : Option Operand} {lo' hi' : Option Value} {z : Value} {b : Nat} {v : Value} {xs : List α} {w1 : World} (p q' : Nat) (hd : o.dst = some d) (ho : o.op = .slice t x lo hi none) (hg : gd ops e o.guard = some true) (hN : Nat.blt d N = true)
    [ht : SliceTy P t el] {kk : Nat} [he : ElemTy P el z kk b] (hx : evO e x = some v) (hl : evB e lo = some lo') (hh : evB e hi = some hi') (hs : Sl w1 v xs) (hke : kk = Enc.k α)
    (hlo : (lo' = none ∧ p = 0) ∨ lo' = some (.int .i64 (p : Int))) (hhi : (hi' = none ∧ q' = xs.length) ∨ hi' = some (.int .i64 (q' : Int))) (h1 : p ≤ q') (h2 : q' ≤ xs.length)
    (hr : ∀ A1 n1 c1, Sl w1 (.slice A1 n1 c1) ((xs.take q').drop p) → RR q P ops N ((d, .slice A1 n1 c1) :: e) C l Q) : RR q P ops N e C (o :: l) Q := by
  subst hke
  have hs' := hs
  obtain ⟨A, n, c, rfl, rfl, hnc, _⟩ := hs'
  refine RR_val hd hg hN (fun a w hf _ => ?_) (hr _ _ _ (hs.cut h1 h2))
  have h := run_sliceAt (P := P) (t := t) A xs.length c lo' hi' p q' hlo hhi h1 h2 hnc w
  have e1 := evB_ok hf lo lo' hl
  have e2 := evB_ok hf hi hi' hh
  simp only [execOp, ho, hf.ev hx, e1, e2, Option.map_none, Sem.run_bind, h, Result.andThen_ok, Sem.run_pure]
end

section
variable {P : Program} {N : Nat} {e : Env} {C : World → Prop} {Q : Exit → Act → World → Prop}

def CS (P : Program) (N : Nat) (e : Env) (C : World → Prop) (c : Code) (Q : Exit → Act → World → Prop) : Prop := ∀ a w, Fr N e a → C w → c.wp P Q a w
def Post (N : Nat) (e : Env) (C : World → Prop) (x : Exit) (Q : Exit → Act → World → Prop) : Prop := ∀ a w, Fr N e a → C w → Q x a w

theorem CS_skip (h : Post N e C .normal Q) : CS P N e C .skip Q := fun a w hf hc => wp_skip (h a w hf hc)
theorem CS_ret (h : Post N e C .ret Q) : CS P N e C .ret Q := fun a w hf hc => wp_ret (h a w hf hc)
theorem CS_exit {id : Nat} (h : Post N e C (.exit id) Q) : CS P N e C (.exit id) Q := fun a w hf hc => wp_exit (h a w hf hc)
theorem CS_block {id : Nat} {c : Code} (h : CS P N e C c (Exit.inBlock id Q)) : CS P N e C (.block id c) Q := fun a w hf hc => wp_block (h a w hf hc)
theorem CS_seq {x y : Code} (h : CS P N e C x (Exit.then (y.wp P Q) Q)) : CS P N e C (.seq x y) Q := fun a w hf hc => wp_seq (h a w hf hc)
theorem CS_region {id : Nat} {l : List Oper} (h : RR .sq P l.toArray N e C l Q) : CS P N e C (.region id l.toArray false) Q := fun a w hf hc => wp_region_lit (h a w hf hc)
theorem CS_regionq {id : Nat} {l : List Oper} (hm : P.follows .mixedOrders = true) (hB : Region.lexB .any l.toArray = true) (hC : ∀ w, C w → C { w with drawn := w.drawn + 1 })
    (h : RR .qu P l.toArray N e C l Q) : CS P N e C (.region id l.toArray true) Q := fun a w hf hc => wp_region_quiet hm hB (hC w hc) (h a hf)
theorem CS_regionq_wd {w0 : World} {h : List Ent} {id : Nat} {l : List Oper} (hm : P.follows .mixedOrders = true) (hB : Region.lexB .any l.toArray = true)
    (hr : RR .qu P l.toArray N e (Wd w0 h) l Q) : CS P N e (Wd w0 h) (.region id l.toArray true) Q := CS_regionq hm hB (fun _ hw => hw.drew) hr
theorem CS_cond {c : Operand} {x y : Code} {b : Bool} (hc : evO e c = some (.bool b)) (h1 : b = true → CS P N e C x Q) (h0 : b = false → CS P N e C y Q) : CS P N e C (.cond c x y) Q :=
  fun a w hf hw => wp_cond_split (hf.ev hc) (fun h => h1 h a w hf hw) (fun h => h0 h a w hf hw)
theorem CS_cond_t {c : Operand} {x y : Code} (hc : evO e c = some (.bool true)) (h1 : CS P N e C x Q) : CS P N e C (.cond c x y) Q :=
  fun a w hf hw => wp_cond_true (hf.ev hc) (h1 a w hf hw)
theorem CS_cond_f {c : Operand} {x y : Code} (hc : evO e c = some (.bool false)) (h1 : CS P N e C y Q) : CS P N e C (.cond c x y) Q :=
  fun a w hf hw => wp_cond_false (hf.ev hc) (h1 a w hf hw)
theorem CS_sub {e' : Env} {C' : World → Prop} {c : Code} (hs : SubE e e') (hC : ∀ w, C w → C' w) (h : CS P N e' C' c Q) : CS P N e C c Q := fun a w hf hw => h a w (hf.sub hs) (hC w hw)
/-- A loop: what holds of the frame and of the world at each round's head, by a number (or whatever) that names the round. -/
theorem CS_loop {ι : Type} (E : ι → Env) (D : ι → World → Prop) (ok : ι → Prop) (μ : ι → Nat) (i0 : ι) {c : Code} (h0 : ok i0) (hE : SubE e (E i0)) (hD : ∀ w, C w → D i0 w)
    (round : ∀ i, ok i → CS P N (E i) (D i) c (Exit.then (fun a w => ∃ j, ok j ∧ μ j < μ i ∧ Fr N (E j) a ∧ D j w) Q)) : CS P N e C (.loop c) Q := by
  intro a w hf hw
  refine wp_loop_ghost (fun n a w => ∃ i, μ i = n ∧ ok i ∧ Fr N (E i) a ∧ D i w) (μ i0) ⟨i0, rfl, h0, hf.sub hE, hD w hw⟩ ?_
  rintro n a w ⟨i, rfl, hi, hf, hd⟩
  refine wp_mono (round i hi a w hf hd) ?_
  intro x a' w' hq
  cases x with
  | normal =>
    obtain ⟨j, h1, h2, h3, h4⟩ := hq
    exact ⟨μ j, h2, j, rfl, h1, h3, h4⟩
  | exit id => exact hq
  | goto l => exact hq
  | ret => exact hq
  | panic ch => exact hq
  | outgrown => exact hq

/-! ### how a piece ends -/
theorem post_seq {y : Code} (h : CS P N e C y Q) : Post N e C .normal (Exit.then (y.wp P Q) Q) := h
theorem post_round {ι : Type} {E : ι → Env} {D : ι → World → Prop} {ok : ι → Prop} {μ : ι → Nat} {i : ι} (j : ι) (h1 : ok j) (h2 : μ j < μ i) (h3 : SubE e (E j)) (h4 : ∀ w, C w → D j w) :
    Post N e C .normal (Exit.then (fun a w => ∃ j, ok j ∧ μ j < μ i ∧ Fr N (E j) a ∧ D j w) Q) := fun _ w hf hw => ⟨j, h1, h2, hf.sub h3, h4 w hw⟩
theorem post_then_ret {K : Act → World → Prop} (h : Post N e C .ret Q) : Post N e C .ret (Exit.then K Q) := h
theorem post_then_exit {K : Act → World → Prop} {id : Nat} (h : Post N e C (.exit id) Q) : Post N e C (.exit id) (Exit.then K Q) := h
theorem post_block_n {id : Nat} (h : Post N e C .normal Q) : Post N e C .normal (Exit.inBlock id Q) := h
theorem post_block_ret {id : Nat} (h : Post N e C .ret Q) : Post N e C .ret (Exit.inBlock id Q) := h
theorem post_block_eq {id : Nat} (h : Post N e C .normal Q) : Post N e C (.exit id) (Exit.inBlock id Q) := fun a w hf hw => by
  show (if id = id then _ else _)
  rw [if_pos rfl]; exact h a w hf hw
theorem post_block_ne {id id' : Nat} (hne : Nat.beq id' id = false) (h : Post N e C (.exit id') Q) : Post N e C (.exit id') (Exit.inBlock id Q) := fun a w hf hw => by
  show (if id' = id then _ else _)
  rw [if_neg (fun he => by subst he; simp at hne)]; exact h a w hf hw

/-! ### results -/
def ResOk (P : Program) (e : Env) (C : World → Prop) : List ResultVar → List Value → Prop
  | [], [] => True
  | .tmp t :: rs, v :: vs => look e t = some v ∧ ResOk P e C rs vs
  | .cell a t :: rs, v :: vs => (∃ ad, look e a = some (.pointer (some ad)) ∧ ∀ w, C w → (Instr.loadAt t (.pointer (some ad))).run P w = .ok v w) ∧ ResOk P e C rs vs
  | _, _ => False
theorem ResOk.run {a : Act} {w : World} (hf : Fr N e a) (hw : C w) : ∀ {rs : List ResultVar} {vs : List Value}, ResOk P e C rs vs →
    (rs.mapM (m := Sem) fun | .tmp t => pure (a.tmps.getD t undef) | .cell b t => do loadVar t (← asAddr (a.tmps.getD b undef))).run P w = .ok vs w
  | [], [], _ => by simp
  | .tmp t :: rs, v :: vs, h => by
    have ih := ResOk.run hf hw h.2
    simp only [List.mapM_cons, Sem.run_bind, Sem.run_pure, Result.andThen_ok, hf.at_ t v h.1]
    rw [ih]; rfl
  | .cell b t :: rs, v :: vs, h => by
    obtain ⟨⟨ad, h1, h2⟩, h3⟩ := h
    have ih := ResOk.run hf hw h3
    have h4 := h2 w hw
    simp only [Instr.loadAt, Instr.sureAddr, Sem.run_bind, Sem.run_pure, Result.andThen_ok] at h4
    have h5 : (asAddr (a.tmps.getD b undef)).run P w = .ok ad w := by rw [hf.at_ b _ h1]; rfl
    simp only [List.mapM_cons, Sem.run_bind, Sem.run_pure, Result.andThen_ok, h5, h4]
    rw [ih]; rfl
  | [], _ :: _, h => h.elim
  | .tmp _ :: _, [], h => h.elim
  | .cell _ _ :: _, [], h => h.elim
theorem post_ret {fn : Func} {R : Ending → World → Prop} {vs : List Value} {v : Value} (h : ResOk P e C fn.results.toList vs) (hv : (if h : vs.toArray.size = 1 then vs.toArray[0] else .tuple vs.toArray) = v) (hR : ∀ w, C w → R (.returned v) w) :
    Post N e C .ret (bodyPost P fn R) := fun a w hf hw => by
  refine ⟨hf.defers, v, ?_, hR w hw⟩
  have h1 := h.run hf hw
  unfold results
  rw [Sem.run_bind]
  have h2 : (fn.results.mapM (m := Sem) fun | .tmp t => pure (a.tmps.getD t undef) | .cell b t => do loadVar t (← asAddr (a.tmps.getD b undef))).run P w = .ok vs.toArray w := by
    rw [Array.mapM_eq_mapM_toList, Sem.run_map, h1]; rfl
  have h3 := congrArg (fun r : Result (Array Value) => r.andThen fun vs w' => (pure (if h : vs.size = 1 then vs[0] else .tuple vs) : Sem Value).run P w') h2
  subst hv
  exact h3.trans rfl
theorem post_ret1 {fn : Func} {R : Ending → World → Prop} {t : Tmp} {v : Value} (hr : fn.results = #[.tmp t]) (hv : look e t = some v) (hR : ∀ w, C w → R (.returned v) w) :
    Post N e C .ret (bodyPost P fn R) := post_ret (vs := [v]) (by rw [hr]; exact ⟨hv, trivial⟩) rfl hR
theorem post_ret2 {fn : Func} {R : Ending → World → Prop} {t u : Tmp} {v x : Value} (hr : fn.results = #[.tmp t, .tmp u]) (hv : look e t = some v) (hx : look e u = some x) (hR : ∀ w, C w → R (.returned (.tuple #[v, x])) w) :
    Post N e C .ret (bodyPost P fn R) := post_ret (vs := [v, x]) (by rw [hr]; exact ⟨hv, hx, trivial⟩) rfl hR
theorem post_ret3 {fn : Func} {R : Ending → World → Prop} {t u s : Tmp} {v x y : Value} (hr : fn.results = #[.tmp t, .tmp u, .tmp s]) (hv : look e t = some v) (hx : look e u = some x) (hy : look e s = some y) (hR : ∀ w, C w → R (.returned (.tuple #[v, x, y])) w) :
    Post N e C .ret (bodyPost P fn R) := post_ret (vs := [v, x, y]) (by rw [hr]; exact ⟨hv, hx, hy, trivial⟩) rfl hR
theorem post_ret4 {fn : Func} {R : Ending → World → Prop} {t u s r : Tmp} {v x y z : Value} (hr : fn.results = #[.tmp t, .tmp u, .tmp s, .tmp r]) (hv : look e t = some v) (hx : look e u = some x) (hy : look e s = some y) (hz : look e r = some z) (hR : ∀ w, C w → R (.returned (.tuple #[v, x, y, z])) w) :
    Post N e C .ret (bodyPost P fn R) := post_ret (vs := [v, x, y, z]) (by rw [hr]; exact ⟨hv, hx, hy, hz, trivial⟩) rfl hR
/-- a function without results, at its end -/
theorem post_end {fn : Func} {R : Ending → World → Prop} (hr : fn.results = #[]) (hR : ∀ w, C w → R (.returned (.tuple #[])) w) : Post N e C .normal (bodyPost P fn R) := fun a w hf hw =>
  post_ret (P := P) (vs := []) (by rw [hr]; exact trivial) rfl hR a w hf hw
theorem post_end_ret {fn : Func} {R : Ending → World → Prop} (hr : fn.results = #[]) (hR : ∀ w, C w → R (.returned (.tuple #[])) w) : Post N e C .ret (bodyPost P fn R) := fun a w hf hw =>
  post_ret (P := P) (vs := []) (by rw [hr]; exact trivial) rfl hR a w hf hw

/-! ### entering -/
def envOf : Nat → List Value → Env
  | _, [] => []
  | i, v :: vs => (i, v) :: envOf (i + 1) vs
theorem look_envOf : ∀ (vs : List Value) (i t : Nat) (v : Value), look (envOf i vs) t = some v → i ≤ t ∧ vs[t - i]? = some v
  | [], i, t, v, h => by simp [envOf, look] at h
  | u :: vs, i, t, v, h => by
    rw [envOf, look_cons] at h
    by_cases hd : i = t
    · subst hd; simp only [if_true, Option.some.injEq] at h; subst h; simp
    · rw [if_neg hd] at h
      obtain ⟨h1, h2⟩ := look_envOf vs (i + 1) t v h
      refine ⟨by omega, ?_⟩
      rw [show t - i = (t - (i + 1)) + 1 from by omega]; simpa using h2
theorem enter {f : FuncId} {fn : Func} {c : Code} {vs : List Value} {w0 : World} {R : Ending → World → Prop} (hf : P.funcs[f]? = some fn) (hb : fn.body = some c) (hn : fn.ntmps = N) (hl : Nat.ble vs.length N = true)
    (h : CS P N (envOf 0 vs) (Wd w0 []) c (bodyPost P fn R)) : Calls P f vs.toArray w0 R := by
  refine calls_of_wp hf hb (h _ w0 ⟨rfl, ?_, fun t v ht => ?_⟩ (Wd.refl w0))
  · have := Nat.le_of_ble_eq_true hl
    simp [hn]; omega
  · obtain ⟨_, h2⟩ := look_envOf vs 0 t v ht
    simp only [Nat.sub_zero] at h2
    have h3 := (List.getElem?_eq_some_iff.1 h2).1
    rw [Array.getD_eq_getD_getElem?, Array.getElem?_append_left (by simpa using h3)]
    simp [h2]
/-- Entering with own memory of the caller's: the frame rule is the caller's class itself. -/
theorem enter_in {f : FuncId} {fn : Func} {c : Code} {vs : List Value} {w0 w : World} {h : List Ent} {R : Ending → World → Prop} (hw : Wd w0 h w) (hf : P.funcs[f]? = some fn) (hb : fn.body = some c) (hn : fn.ntmps = N) (hl : Nat.ble vs.length N = true)
    (h : CS P N (envOf 0 vs) (Wd w0 h) c (bodyPost P fn R)) : Calls P f vs.toArray w R := by
  refine calls_of_wp hf hb (h _ w ⟨rfl, ?_, fun t v ht => ?_⟩ hw)
  · have := Nat.le_of_ble_eq_true hl
    simp [hn]; omega
  · obtain ⟨_, h2⟩ := look_envOf vs 0 t v ht
    simp only [Nat.sub_zero] at h2
    have h3 := (List.getElem?_eq_some_iff.1 h2).1
    rw [Array.getD_eq_getD_getElem?, Array.getElem?_append_left (by simpa using h3)]
    simp [h2]

/-! ### what a call leaves -/
/-- It gives v; nothing that was there has turned. -/
def Gives (v : Value) (w : World) : Ending → World → Prop := fun x w' => x = .returned v ∧ Bl w.heap.size w w'
theorem Gives.of {v : Value} {w0 w : World} {h : List Ent} (hw : Wd w0 h w) : Gives v w0 (.returned v) w := ⟨rfl, hw.below⟩
theorem Wd.gives {w0 w w' : World} {h : List Ent} (hw : Wd w0 h w) (hb : Bl w.heap.size w w') : Wd w0 h w' := by
  have := hw.call (h' := []) (⟨hb, fun _ h => (by cases h), List.Pairwise.nil⟩ : Wd w [] w')
  simpa using this
end
section
variable {P : Program} {ops : Array Oper} {N : Nat} {e : Env} {Q : Exit → Act → World → Prop} {q : QM} {l : List Oper} {d : Nat} {w0 : World} {h : List Ent}
/-- a call by a contract that gives a known value -/
theorem RR_call {o : Oper} {f : Nat} {xs : Array Operand} {ts : Array TypeId} {vs : List Value} {v : Value} (hd : o.dst = some d) (ho : o.op = .call { callee := .value (.func f), args := xs, argTypes := ts })
    (hg : gd ops e o.guard = some true) (hN : Nat.blt d N = true) (hx : evL e xs.toList = some vs) [hk : FnOk P f] [hq : CanCall q]
    (hc : ∀ w, Wd w0 h w → Calls P f vs.toArray w (Gives v w)) (hr : RR q P ops N ((d, v) :: e) (Wd w0 h) l Q) : RR q P ops N e (Wd w0 h) (o :: l) Q :=
  RR_callv hd ho hg hN hx (fun w hw => (hc w hw).mono fun _ _ ⟨h1, h2⟩ => ⟨h1, hw.gives h2⟩) hr
/-- a call by a contract that gives a value and new blocks -/
theorem RS_callx {o : Oper} {f : Nat} {xs : Array Operand} {ts : Array TypeId} {vs : List Value} {ι : Type} {ok : ι → Prop} {val : ι → Value} {hp : ι → List Ent} (hd : o.dst = some d) (ho : o.op = .call { callee := .value (.func f), args := xs, argTypes := ts })
    (hg : gd ops e o.guard = some true) (hN : Nat.blt d N = true) (hx : evL e xs.toList = some vs) [hk : FnOk P f]
    (hc : ∀ w, Wd w0 h w → Calls P f vs.toArray w (fun x w' => ∃ i, ok i ∧ x = .returned (val i) ∧ Wd w (hp i) w')) (hr : ∀ i, ok i → RR .sq P ops N ((d, val i) :: e) (Wd w0 (hp i ++ h)) l Q) : RR .sq P ops N e (Wd w0 h) (o :: l) Q :=
  RS_call (R := fun w x w' => ∃ i, ok i ∧ x = .returned (val i) ∧ Wd w (hp i) w') ho hg hx hc fun w x w' hw ⟨i, h1, h2, h3⟩ => ⟨val i, h2, fun a hf => by rw [hd]; exact hr i h1 _ w' (hf.put hN _) (hw.call h3)⟩
/-- a call that turns own memory: the class behind it is said by the contract -/
theorem RS_callf {o : Oper} {f : Nat} {xs : Array Operand} {ts : Array TypeId} {vs : List Value} {ι : Type} {ok : ι → Prop} {val : ι → Value} {hp : ι → List Ent} (hd : o.dst = some d) (ho : o.op = .call { callee := .value (.func f), args := xs, argTypes := ts })
    (hg : gd ops e o.guard = some true) (hN : Nat.blt d N = true) (hx : evL e xs.toList = some vs) [hk : FnOk P f]
    (hc : ∀ w, Wd w0 h w → Calls P f vs.toArray w (fun x w' => ∃ i, ok i ∧ x = .returned (val i) ∧ Wd w0 (hp i) w')) (hr : ∀ i, ok i → RR .sq P ops N ((d, val i) :: e) (Wd w0 (hp i)) l Q) : RR .sq P ops N e (Wd w0 h) (o :: l) Q :=
  RS_call (R := fun _ x w' => ∃ i, ok i ∧ x = .returned (val i) ∧ Wd w0 (hp i) w') ho hg hx hc fun w x w' hw ⟨i, h1, h2, h3⟩ => ⟨val i, h2, fun a hf => by rw [hd]; exact hr i h1 _ w' (hf.put hN _) h3⟩
end
/-! ### the walk's own shapes -/
section
variable {P : Program} {ops : Array Oper} {N : Nat} {e : Env} {C : World → Prop} {Q : Exit → Act → World → Prop} {q : QM} {l : List Oper} {d : Nat}
theorem RR_end (h : Post N e C .normal Q) : RR q P ops N e C [] Q := RR_nil h
theorem RR_caseg {o : Oper} {j : Nat} {want b : Bool} (hg : o.guard = some (j, want)) (hd : (ops[j]?).bind (·.dst) = some d) (hl : look e d = some (.bool b))
    (h1 : b = true → RR q P ops N ((d, .bool true) :: e) C (o :: l) Q) (h0 : b = false → RR q P ops N ((d, .bool false) :: e) C (o :: l) Q) : RR q P ops N e C (o :: l) Q :=
  have _ := hg
  have _ := hd
  RR_case hl h1 h0
theorem RR_casep {o : Oper} {x y : Operand} {b : Bool} (ho : o.op = .pick (.tmp d) x y) (hl : look e d = some (.bool b))
    (h1 : b = true → RR q P ops N ((d, .bool true) :: e) C (o :: l) Q) (h0 : b = false → RR q P ops N ((d, .bool false) :: e) C (o :: l) Q) : RR q P ops N e C (o :: l) Q :=
  have _ := ho
  RR_case hl h1 h0
end

section
variable {P : Program} {ops : Array Oper} {N : Nat} {e : Env} {C : World → Prop} {Q : Exit → Act → World → Prop} {q : QM} {l : List Oper} {d : Nat}
/-! tests over propositions -/
theorem CS_cond_d {c : Operand} {x y : Code} {p : Prop} {inst : Decidable p} (hc : evO e c = some (.bool (decide p))) (h1 : p → CS P N e C x Q) (h0 : ¬ p → CS P N e C y Q) : CS P N e C (.cond c x y) Q :=
  CS_cond hc (fun h => h1 (of_decide_eq_true h)) (fun h => h0 (of_decide_eq_false h))
theorem CS_cond_nd {c : Operand} {x y : Code} {p : Prop} {inst : Decidable p} (hc : evO e c = some (.bool (!decide p))) (h1 : ¬ p → CS P N e C x Q) (h0 : p → CS P N e C y Q) : CS P N e C (.cond c x y) Q :=
  CS_cond hc (fun h => h1 (of_decide_eq_false (by simpa using h))) (fun h => h0 (of_decide_eq_true (by simpa using h)))
theorem CS_cond_n {c : Operand} {x y : Code} {b : Bool} (hc : evO e c = some (.bool (!b))) (h1 : b = false → CS P N e C x Q) (h0 : b = true → CS P N e C y Q) : CS P N e C (.cond c x y) Q :=
  CS_cond hc (fun h => h1 (by simpa using h)) (fun h => h0 (by simpa using h))
theorem RR_case_d {p : Prop} {inst : Decidable p} (hd : look e d = some (.bool (decide p))) (h1 : p → RR q P ops N ((d, .bool true) :: e) C l Q)
    (h0 : ¬ p → RR q P ops N ((d, .bool false) :: e) C l Q) : RR q P ops N e C l Q :=
  RR_case hd (fun h => h1 (of_decide_eq_true h)) (fun h => h0 (of_decide_eq_false h))
theorem RR_case_nd {p : Prop} {inst : Decidable p} (hd : look e d = some (.bool (!decide p))) (h1 : ¬ p → RR q P ops N ((d, .bool true) :: e) C l Q)
    (h0 : p → RR q P ops N ((d, .bool false) :: e) C l Q) : RR q P ops N e C l Q :=
  RR_case hd (fun h => h1 (of_decide_eq_false (by simpa using h))) (fun h => h0 (of_decide_eq_true (by simpa using h)))
theorem RR_case_n {b : Bool} (hd : look e d = some (.bool (!b))) (h1 : b = false → RR q P ops N ((d, .bool true) :: e) C l Q)
    (h0 : b = true → RR q P ops N ((d, .bool false) :: e) C l Q) : RR q P ops N e C l Q :=
  RR_case hd (fun h => h1 (by simpa using h)) (fun h => h0 (by simpa using h))
section
variable {ds : Option Tmp} {op : Op} {ty : TypeId} {ps : String} {af : Array Edge} {j : Nat} {want : Bool}
theorem LR_caseg_d {p : Prop} {inst : Decidable p} (hj : (ops[j]?).bind (·.dst) = some d) (hd : look e d = some (.bool (decide p)))
    (h1 : p → RR q P ops N ((d, .bool true) :: e) C (⟨ds, op, ty, ps, af, some (j, want)⟩ :: l) Q) (h0 : ¬ p → RR q P ops N ((d, .bool false) :: e) C (⟨ds, op, ty, ps, af, some (j, want)⟩ :: l) Q) : RR q P ops N e C (⟨ds, op, ty, ps, af, some (j, want)⟩ :: l) Q :=
  have _ := hj
  RR_case_d hd h1 h0
theorem LR_caseg_nd {p : Prop} {inst : Decidable p} (hj : (ops[j]?).bind (·.dst) = some d) (hd : look e d = some (.bool (!decide p)))
    (h1 : ¬ p → RR q P ops N ((d, .bool true) :: e) C (⟨ds, op, ty, ps, af, some (j, want)⟩ :: l) Q) (h0 : p → RR q P ops N ((d, .bool false) :: e) C (⟨ds, op, ty, ps, af, some (j, want)⟩ :: l) Q) : RR q P ops N e C (⟨ds, op, ty, ps, af, some (j, want)⟩ :: l) Q :=
  have _ := hj
  RR_case_nd hd h1 h0
theorem LR_caseg_n {b : Bool} (hj : (ops[j]?).bind (·.dst) = some d) (hd : look e d = some (.bool (!b)))
    (h1 : b = false → RR q P ops N ((d, .bool true) :: e) C (⟨ds, op, ty, ps, af, some (j, want)⟩ :: l) Q) (h0 : b = true → RR q P ops N ((d, .bool false) :: e) C (⟨ds, op, ty, ps, af, some (j, want)⟩ :: l) Q) : RR q P ops N e C (⟨ds, op, ty, ps, af, some (j, want)⟩ :: l) Q :=
  have _ := hj
  RR_case_n hd h1 h0
variable {gu : Option (Nat × Bool)} {x y : Operand}
theorem LR_casep_d {p : Prop} {inst : Decidable p} (hd : look e d = some (.bool (decide p)))
    (h1 : p → RR q P ops N ((d, .bool true) :: e) C (⟨ds, .pick (.tmp d) x y, ty, ps, af, gu⟩ :: l) Q) (h0 : ¬ p → RR q P ops N ((d, .bool false) :: e) C (⟨ds, .pick (.tmp d) x y, ty, ps, af, gu⟩ :: l) Q) : RR q P ops N e C (⟨ds, .pick (.tmp d) x y, ty, ps, af, gu⟩ :: l) Q :=
  RR_case_d hd h1 h0
theorem LR_casep_nd {p : Prop} {inst : Decidable p} (hd : look e d = some (.bool (!decide p)))
    (h1 : ¬ p → RR q P ops N ((d, .bool true) :: e) C (⟨ds, .pick (.tmp d) x y, ty, ps, af, gu⟩ :: l) Q) (h0 : p → RR q P ops N ((d, .bool false) :: e) C (⟨ds, .pick (.tmp d) x y, ty, ps, af, gu⟩ :: l) Q) : RR q P ops N e C (⟨ds, .pick (.tmp d) x y, ty, ps, af, gu⟩ :: l) Q :=
  RR_case_nd hd h1 h0
theorem LR_casep_n {b : Bool} (hd : look e d = some (.bool (!b)))
    (h1 : b = false → RR q P ops N ((d, .bool true) :: e) C (⟨ds, .pick (.tmp d) x y, ty, ps, af, gu⟩ :: l) Q) (h0 : b = true → RR q P ops N ((d, .bool false) :: e) C (⟨ds, .pick (.tmp d) x y, ty, ps, af, gu⟩ :: l) Q) : RR q P ops N e C (⟨ds, .pick (.tmp d) x y, ty, ps, af, gu⟩ :: l) Q :=
  RR_case_n hd h1 h0
end
/-! what is handed back, where nothing that was there has turned -/
variable {w0 : World} {h : List Ent} {fn : Func} {t : Tmp}
theorem ret_bool {b b' : Bool} (hr : fn.results = #[.tmp t]) (hv : look e t = some (.bool b')) (hb : b' = b) : Post N e (Wd w0 h) .ret (bodyPost P fn (Gives (.bool b) w0)) :=
  post_ret1 hr hv fun _ hw => ⟨by rw [hb], hw.below⟩
theorem ret_int {b b' : Int} (hr : fn.results = #[.tmp t]) (hv : look e t = some (.int .i64 b')) (hb : b' = b) : Post N e (Wd w0 h) .ret (bodyPost P fn (Gives (.int .i64 b) w0)) :=
  post_ret1 hr hv fun _ hw => ⟨by rw [hb], hw.below⟩
theorem ret_val {b b' : Value} (hr : fn.results = #[.tmp t]) (hv : look e t = some b') (hb : b' = b) : Post N e (Wd w0 h) .ret (bodyPost P fn (Gives b w0)) :=
  post_ret1 hr hv fun _ hw => ⟨by rw [hb], hw.below⟩
end
/-! ## the rules at operations that are written out -/
section
variable {P : Program} {ops : Array Oper} {N : Nat} {e : Env} {Q : Exit → Act → World → Prop} {q : QM} {l : List Oper} {d : Nat} {w0 : World} {h r : List Ent} {C : World → Prop}
theorem LR_skip {q : QM} {op : Op} {ty : TypeId} {ps : String} {af : Array Edge} {gu : Option (Nat × Bool)} {l : List Oper} {d : Nat} (hg : gd ops e gu = some false) (hN : Nat.blt d N = true) (hr : RR q P ops N ((d, undef) :: e) C l Q) : RR q P ops N e C (⟨(some d), op, ty, ps, af, gu⟩ :: l) Q :=
  RR_skip rfl hg hN hr
theorem LR_pure {C : World → Prop} {op : Op} {ty : TypeId} {ps : String} {af : Array Edge} {gu : Option (Nat × Bool)} {v : Value} (hg : gd ops e gu = some true) (hN : Nat.blt d N = true) (hv : pureOp e op = some v) (hr : RR q P ops N ((d, v) :: e) C l Q) : RR q P ops N e C (⟨(some d), op, ty, ps, af, gu⟩ :: l) Q :=
  RR_pure rfl hg hN hv hr
theorem LR_add {C : World → Prop} {ty : TypeId} {ps : String} {af : Array Edge} {gu : Option (Nat × Bool)} {t t' : TypeId} {x y : Operand} {m n : Int} (hg : gd ops e gu = some true) (hN : Nat.blt d N = true) (hx : evO e x = some (.int .i64 m)) (hy : evO e y = some (.int .i64 n)) (h1 : -9223372036854775808 ≤ m + n) (h2 : m + n ≤ 9223372036854775807) (hr : RR q P ops N ((d, .int .i64 (m + n)) :: e) C l Q) : RR q P ops N e C (⟨(some d), (.binOp .add t x y t'), ty, ps, af, gu⟩ :: l) Q :=
  RR_add rfl rfl hg hN hx hy h1 h2 hr
theorem LR_neg {C : World → Prop} {ty : TypeId} {ps : String} {af : Array Edge} {gu : Option (Nat × Bool)} {t : TypeId} {x : Operand} {m : Int} (hg : gd ops e gu = some true) (hN : Nat.blt d N = true) (hx : evO e x = some (.int .i64 m)) (h1 : -9223372036854775808 ≤ -m) (h2 : -m ≤ 9223372036854775807) (hr : RR q P ops N ((d, .int .i64 (-m)) :: e) C l Q) : RR q P ops N e C (⟨(some d), (.unOp .neg t x), ty, ps, af, gu⟩ :: l) Q :=
  RR_val rfl hg hN (fun a w hf _ => by
    unfold execOp
    simp only [hf.ev hx, Op.unary, Op.intArith, show (0 : Int) - m = -m from by omega, wrap_in _ h1 h2]; rfl) hr
theorem LR_sub {C : World → Prop} {ty : TypeId} {ps : String} {af : Array Edge} {gu : Option (Nat × Bool)} {t t' : TypeId} {x y : Operand} {m n : Int} (hg : gd ops e gu = some true) (hN : Nat.blt d N = true) (hx : evO e x = some (.int .i64 m)) (hy : evO e y = some (.int .i64 n)) (h1 : -9223372036854775808 ≤ m - n) (h2 : m - n ≤ 9223372036854775807) (hr : RR q P ops N ((d, .int .i64 (m - n)) :: e) C l Q) : RR q P ops N e C (⟨(some d), (.binOp .sub t x y t'), ty, ps, af, gu⟩ :: l) Q :=
  RR_sub rfl rfl hg hN hx hy h1 h2 hr
theorem LR_mul {C : World → Prop} {ty : TypeId} {ps : String} {af : Array Edge} {gu : Option (Nat × Bool)} {t t' : TypeId} {x y : Operand} {m n : Int} (hg : gd ops e gu = some true) (hN : Nat.blt d N = true) (hx : evO e x = some (.int .i64 m)) (hy : evO e y = some (.int .i64 n)) (h1 : -9223372036854775808 ≤ m * n) (h2 : m * n ≤ 9223372036854775807) (hr : RR q P ops N ((d, .int .i64 (m * n)) :: e) C l Q) : RR q P ops N e C (⟨(some d), (.binOp .mul t x y t'), ty, ps, af, gu⟩ :: l) Q :=
  RR_mul rfl rfl hg hN hx hy h1 h2 hr
theorem LR_quo {C : World → Prop} {ty : TypeId} {ps : String} {af : Array Edge} {gu : Option (Nat × Bool)} {t t' : TypeId} {x y : Operand} {m n : Int} (hg : gd ops e gu = some true) (hN : Nat.blt d N = true) (hx : evO e x = some (.int .i64 m)) (hy : evO e y = some (.int .i64 n)) (h1 : 0 ≤ m) (h2 : m ≤ 9223372036854775807) (h3 : 0 < n) (hr : RR q P ops N ((d, .int .i64 (m / n)) :: e) C l Q) : RR q P ops N e C (⟨(some d), (.binOp .quo t x y t'), ty, ps, af, gu⟩ :: l) Q :=
  RR_quo rfl rfl hg hN hx hy h1 h2 h3 hr
theorem LR_rem {C : World → Prop} {ty : TypeId} {ps : String} {af : Array Edge} {gu : Option (Nat × Bool)} {t t' : TypeId} {x y : Operand} {m n : Int} (hg : gd ops e gu = some true) (hN : Nat.blt d N = true) (hx : evO e x = some (.int .i64 m)) (hy : evO e y = some (.int .i64 n)) (h1 : 0 ≤ m) (h3 : 0 < n) (hr : RR q P ops N ((d, .int .i64 (m % n)) :: e) C l Q) : RR q P ops N e C (⟨(some d), (.binOp .rem t x y t'), ty, ps, af, gu⟩ :: l) Q :=
  RR_rem rfl rfl hg hN hx hy h1 h3 hr
theorem LR_min {C : World → Prop} {ty : TypeId} {ps : String} {af : Array Edge} {gu : Option (Nat × Bool)} {x y : Operand} {ts : Array TypeId} {m n : Int} (hg : gd ops e gu = some true) (hN : Nat.blt d N = true) (hx : evO e x = some (.int .i64 m)) (hy : evO e y = some (.int .i64 n)) (hr : RR q P ops N ((d, .int .i64 (min m n)) :: e) C l Q) : RR q P ops N e C (⟨(some d), (.call { callee := .builtin .min, args := #[x, y], argTypes := ts }), ty, ps, af, gu⟩ :: l) Q :=
  RR_min rfl rfl hg hN hx hy hr
theorem LR_max {C : World → Prop} {ty : TypeId} {ps : String} {af : Array Edge} {gu : Option (Nat × Bool)} {x y : Operand} {ts : Array TypeId} {m n : Int} (hg : gd ops e gu = some true) (hN : Nat.blt d N = true) (hx : evO e x = some (.int .i64 m)) (hy : evO e y = some (.int .i64 n)) (hr : RR q P ops N ((d, .int .i64 (max m n)) :: e) C l Q) : RR q P ops N e C (⟨(some d), (.call { callee := .builtin .max, args := #[x, y], argTypes := ts }), ty, ps, af, gu⟩ :: l) Q :=
  RR_max rfl rfl hg hN hx hy hr
theorem LR_conv {C : World → Prop} {ty : TypeId} {ps : String} {af : Array Edge} {gu : Option (Nat × Bool)} {s t : TypeId} {x : Operand} {m : Int} (hg : gd ops e gu = some true) (hN : Nat.blt d N = true) (hx : evO e x = some (.int .u8 m)) [hs : U8Ty P s] [ht : I64Ty P t] (h1 : 0 ≤ m) (h2 : m ≤ 255) (hr : RR q P ops N ((d, .int .i64 m) :: e) C l Q) : RR q P ops N e C (⟨(some d), (.convert s t x), ty, ps, af, gu⟩ :: l) Q :=
  RR_conv rfl rfl hg hN hx h1 h2 hr
theorem LR_len {C : World → Prop} {ty : TypeId} {ps : String} {af : Array Edge} {gu : Option (Nat × Bool)} {x : Operand} {t : TypeId} {A : Option Addr} {n c : Nat} {el : TypeId} (hg : gd ops e gu = some true) (hN : Nat.blt d N = true) (hx : evO e x = some (.slice A n c)) [ht : SliceTy P t el] (hr : RR q P ops N ((d, .int .i64 (n : Int)) :: e) C l Q) : RR q P ops N e C (⟨(some d), (.call { callee := .builtin .len, args := #[x], argTypes := #[t] }), ty, ps, af, gu⟩ :: l) Q :=
  RR_len rfl rfl hg hN hx hr
theorem LR_len_sl {C : World → Prop} {α : Type} {hα : Enc α} {ty : TypeId} {ps : String} {af : Array Edge} {gu : Option (Nat × Bool)} {x : Operand} {t : TypeId} {v : Value} {xs : List α} {w0 : World} {el : TypeId} (hg : gd ops e gu = some true) (hN : Nat.blt d N = true) (hx : evO e x = some v) (hs : Sl w0 v xs) [ht : SliceTy P t el] (hr : RR q P ops N ((d, .int .i64 (xs.length : Int)) :: e) C l Q) : RR q P ops N e C (⟨(some d), (.call { callee := .builtin .len, args := #[x], argTypes := #[t] }), ty, ps, af, gu⟩ :: l) Q :=
  RR_len_sl rfl rfl hg hN hx hs hr
theorem LR_field {C : World → Prop} {ty : TypeId} {ps : String} {af : Array Edge} {gu : Option (Nat × Bool)} {s : TypeId} {x : Operand} {f k : Nat} {ad : Addr} (hg : gd ops e gu = some true) (hN : Nat.blt d N = true) (hx : evO e x = some (.pointer (some ad))) [ht : FieldTy P s f k] (hr : RR q P ops N ((d, .pointer (some (ad.add k))) :: e) C l Q) : RR q P ops N e C (⟨(some d), (.fieldAddr s x f), ty, ps, af, gu⟩ :: l) Q :=
  RR_field rfl rfl hg hN hx hr
theorem LR_field_own {C : World → Prop} {ty : TypeId} {ps : String} {af : Array Edge} {gu : Option (Nat × Bool)} {s : TypeId} {x : Operand} {f k g off : Nat} (hg : gd ops e gu = some true) (hN : Nat.blt d N = true) (hx : evO e x = some (.pointer (some ⟨g, off, none⟩))) [ht : FieldTy P s f k] (hr : RR q P ops N ((d, .pointer (some ⟨g, off + k, none⟩)) :: e) C l Q) : RR q P ops N e C (⟨(some d), (.fieldAddr s x f), ty, ps, af, gu⟩ :: l) Q :=
  RR_field_own rfl rfl hg hN hx hr
theorem LR_index_old {C : World → Prop} {α : Type} {hα : Enc α} {ty : TypeId} {ps : String} {af : Array Edge} {gu : Option (Nat × Bool)} {x ix : Operand} {t el : TypeId} {z : Value} {b : Nat} {v : Value} {xs : List α} {w0 : World} {i : Int} (k : Nat) {r : α} (hg : gd ops e gu = some true) (hN : Nat.blt d N = true) (hx : evO e x = some v) (hix : evO e ix = some (.int .i64 i)) (hs : Sl w0 v xs) (hi : i = (k : Int)) (hk : xs[k]? = some r) [ht : SliceTy P t el] {kk : Nat} [he : ElemTy P el z kk b] (hke : kk = Enc.k α) (hr : ∀ ad, Pt w0 ad (Enc.enc r) → RR q P ops N ((d, .pointer (some ad)) :: e) C l Q) : RR q P ops N e C (⟨(some d), (.indexAddr t x ix), ty, ps, af, gu⟩ :: l) Q :=
  RR_index_old k rfl rfl hg hN hx hix hs hi hk hke hr
theorem LR_index_own {C : World → Prop} {ty : TypeId} {ps : String} {af : Array Edge} {gu : Option (Nat × Bool)} {x ix : Operand} {t el : TypeId} {z : Value} {b k g n c : Nat} {i : Int} (j : Nat) (hg : gd ops e gu = some true) (hN : Nat.blt d N = true) (hx : evO e x = some (.slice (some ⟨g, 0, none⟩) n c)) (hix : evO e ix = some (.int .i64 i)) (hi : i = (j : Int)) (hj : j < n) [ht : SliceTy P t el] [he : ElemTy P el z k b] (hr : RR q P ops N ((d, .pointer (some ⟨g, j * k, none⟩)) :: e) C l Q) : RR q P ops N e C (⟨(some d), (.indexAddr t x ix), ty, ps, af, gu⟩ :: l) Q :=
  RR_index_own j rfl rfl hg hN hx hix hi hj hr
theorem LR_load_old {h : List Ent} {ty : TypeId} {ps : String} {af : Array Edge} {gu : Option (Nat × Bool)} {x : Operand} {t : TypeId} {ad : Addr} {k : Nat} {cs : List Value} {v : Value} {w0 : World} (hg : gd ops e gu = some true) (hN : Nat.blt d N = true) (hx : evO e x = some (.pointer (some (ad.add k)))) [ht : OneTy P t] (hp : Pt w0 ad cs) (hv : nth cs k = some v) (hr : RR q P ops N ((d, v) :: e) (Wd w0 h) l Q) : RR q P ops N e (Wd w0 h) (⟨(some d), (.load t x), ty, ps, af, gu⟩ :: l) Q :=
  RR_load_old rfl rfl hg hN hx hp hv hr
theorem LR_load_old0 {h : List Ent} {ty : TypeId} {ps : String} {af : Array Edge} {gu : Option (Nat × Bool)} {x : Operand} {t : TypeId} {ad : Addr} {cs : List Value} {v : Value} {w0 : World} (hg : gd ops e gu = some true) (hN : Nat.blt d N = true) (hx : evO e x = some (.pointer (some ad))) [ht : OneTy P t] (hp : Pt w0 ad cs) (hv : nth cs 0 = some v) (hr : RR q P ops N ((d, v) :: e) (Wd w0 h) l Q) : RR q P ops N e (Wd w0 h) (⟨(some d), (.load t x), ty, ps, af, gu⟩ :: l) Q :=
  RR_load_old0 rfl rfl hg hN hx hp hv hr
theorem LR_load_old_agg {h : List Ent} {ty : TypeId} {ps : String} {af : Array Edge} {gu : Option (Nat × Bool)} {x : Operand} {t : TypeId} {n : Nat} {ad : Addr} {cs us : List Value} {w0 : World} (hg : gd ops e gu = some true) (hN : Nat.blt d N = true) (hx : evO e x = some (.pointer (some ad))) [ht : AggTy P t n] (hp : Pt w0 ad cs) (hv : takeF cs n = some us) (hr : RR q P ops N ((d, .agg us.toArray) :: e) (Wd w0 h) l Q) : RR q P ops N e (Wd w0 h) (⟨(some d), (.load t x), ty, ps, af, gu⟩ :: l) Q :=
  RR_load_old_agg rfl rfl hg hN hx hp hv hr
theorem LR_load_old_aggk {h : List Ent} {ty : TypeId} {ps : String} {af : Array Edge} {gu : Option (Nat × Bool)} {x : Operand} {t : TypeId} {n k : Nat} {ad : Addr} {cs us : List Value} {w0 : World} (hg : gd ops e gu = some true) (hN : Nat.blt d N = true) (hx : evO e x = some (.pointer (some (ad.add k)))) [ht : AggTy P t n] (hp : Pt w0 ad cs) (hv : takeF (dropN cs k) n = some us) (hr : RR q P ops N ((d, .agg us.toArray) :: e) (Wd w0 h) l Q) : RR q P ops N e (Wd w0 h) (⟨(some d), (.load t x), ty, ps, af, gu⟩ :: l) Q :=
  RR_load_old_aggk rfl rfl hg hN hx hp hv hr
theorem LR_load_own {h r : List Ent} {ty : TypeId} {ps : String} {af : Array Edge} {gu : Option (Nat × Bool)} {x : Operand} {t T : TypeId} {g tot off : Nat} {cs : List Value} {v : Value} {w0 : World} (i : Nat) (hg : gd ops e gu = some true) (hN : Nat.blt d N = true) (hx : evO e x = some (.pointer (some ⟨g, off, none⟩))) [ht : OneTy P t] (hp : pull i h = some (⟨g, T, tot, cs⟩, r)) (hv : nth cs off = some v) (hr : RR q P ops N ((d, v) :: e) (Wd w0 h) l Q) : RR q P ops N e (Wd w0 h) (⟨(some d), (.load t x), ty, ps, af, gu⟩ :: l) Q :=
  RR_load_own i rfl rfl hg hN hx hp hv hr
theorem LR_load_own_agg {h r : List Ent} {ty : TypeId} {ps : String} {af : Array Edge} {gu : Option (Nat × Bool)} {x : Operand} {t T : TypeId} {n g tot off : Nat} {cs us : List Value} {w0 : World} (i : Nat) (hg : gd ops e gu = some true) (hN : Nat.blt d N = true) (hx : evO e x = some (.pointer (some ⟨g, off, none⟩))) [ht : AggTy P t n] (hp : pull i h = some (⟨g, T, tot, cs⟩, r)) (hv : takeF (dropN cs off) n = some us) (hr : RR q P ops N ((d, .agg us.toArray) :: e) (Wd w0 h) l Q) : RR q P ops N e (Wd w0 h) (⟨(some d), (.load t x), ty, ps, af, gu⟩ :: l) Q :=
  RR_load_own_agg i rfl rfl hg hN hx hp hv hr
theorem LS_box {ty : TypeId} {ps : String} {af : Array Edge} {gu : Option (Nat × Bool)} {T : TypeId} {x : Operand} {v : Value} {cs : List Value} (hg : gd ops e gu = some true) (hN : Nat.blt d N = true) (hx : evO e x = some v) (hc : forceL (cellsL v) = some cs) (hr : ∀ g, RR .sq P ops N ((d, .pointer (some ⟨g, 0, none⟩)) :: e) (Wd w0 (⟨g, T, cs.length, cs⟩ :: h)) l Q) : RR .sq P ops N e (Wd w0 h) (⟨(some d), (.box T x), ty, ps, af, gu⟩ :: l) Q :=
  RS_box rfl rfl hg hN hx hc hr
theorem LS_alloc {ty : TypeId} {ps : String} {af : Array Edge} {gu : Option (Nat × Bool)} {T : TypeId} {z : Value} {k b : Nat} {cs : List Value} (hg : gd ops e gu = some true) (hN : Nat.blt d N = true) [he : ElemTy P T z k b] (hc : forceL (cellsL z) = some cs) (hr : ∀ g, RR .sq P ops N ((d, .pointer (some ⟨g, 0, none⟩)) :: e) (Wd w0 (⟨g, T, cs.length, cs⟩ :: h)) l Q) : RR .sq P ops N e (Wd w0 h) (⟨(some d), (.alloc T), ty, ps, af, gu⟩ :: l) Q :=
  RS_alloc rfl rfl hg hN hc hr
theorem LS_store1 {ty : TypeId} {ps : String} {af : Array Edge} {gu : Option (Nat × Bool)} {t T : TypeId} {p x : Operand} {g tot off : Nat} {cs cs' : List Value} {v : Value} (i : Nat) (hg : gd ops e gu = some true) (hp : evO e p = some (.pointer (some ⟨g, off, none⟩))) (hx : evO e x = some v) [ht : OneTy P t] (h1 : v.oneCell' = true) (hpl : pull i h = some (⟨g, T, tot, cs⟩, r)) (hput : putF cs off [v] = some cs') (hr : RR .sq P ops N e (Wd w0 (⟨g, T, tot, cs'⟩ :: r)) l Q) : RR .sq P ops N e (Wd w0 h) (⟨(none), (.store t p x), ty, ps, af, gu⟩ :: l) Q :=
  RS_store1 i rfl rfl hg hp hx h1 hpl hput hr
theorem LS_store_agg {ty : TypeId} {ps : String} {af : Array Edge} {gu : Option (Nat × Bool)} {t T : TypeId} {p x : Operand} {n g tot off : Nat} {cs cs' us : List Value} {cv : Array Value} (i : Nat) (hg : gd ops e gu = some true) (hp : evO e p = some (.pointer (some ⟨g, off, none⟩))) (hx : evO e x = some (.agg cv)) [ht : AggTy P t n] (hc : forceL cv.toList = some us) (hn : us.length = n) (h1 : (us.all Value.oneCell') = true) (hpl : pull i h = some (⟨g, T, tot, cs⟩, r)) (hput : putF cs off us = some cs') (hr : RR .sq P ops N e (Wd w0 (⟨g, T, tot, cs'⟩ :: r)) l Q) : RR .sq P ops N e (Wd w0 h) (⟨(none), (.store t p x), ty, ps, af, gu⟩ :: l) Q :=
  RS_store_agg i rfl rfl hg hp hx hc hn h1 hpl hput hr
theorem LS_buildSlice {ty : TypeId} {ps : String} {af : Array Edge} {gu : Option (Nat × Bool)} {t el : TypeId} {n : Nat} {parts : Array (Nat × Operand)} {z : Value} {k b : Nat} {vs cs : List Value} (hg : gd ops e gu = some true) (hN : Nat.blt d N = true) [ht : SliceTy P t el] [he : ElemTy P el z k b] (hv : evParts e 0 parts.toList = some vs) (hn : vs.length = n) (hk : (vs.all fun v => Nat.beq (cellsL v).length k) = true) (hb : Nat.ble (vs.length * k) 16777216 = true) (hc : forceL (flatC vs) = some cs) (hr : ∀ g, RR .sq P ops N ((d, .slice (some ⟨g, 0, none⟩) n n) :: e) (Wd w0 (⟨g, el, n * k, cs⟩ :: h)) l Q) : RR .sq P ops N e (Wd w0 h) (⟨(some d), (.buildSlice t n parts), ty, ps, af, gu⟩ :: l) Q :=
  RS_buildSlice rfl rfl hg hN hv hn hk hb hc hr
theorem LR_build {C : World → Prop} {q : QM} {ty : TypeId} {ps : String} {af : Array Edge} {gu : Option (Nat × Bool)} {t : TypeId} {parts : Array (Nat × Operand)} {places : List (Nat × Nat)} {zs cs : List Value} {vs : List (Nat × Value)} (hg : gd ops e gu = some true) (hN : Nat.blt d N = true) [ht : BuildTy P t places zs] (hv : evP e parts.toList = some vs) (hc : fillF places zs vs = some cs) (hr : RR q P ops N ((d, .agg cs.toArray) :: e) C l Q) : RR q P ops N e C (⟨(some d), (.build t parts), ty, ps, af, gu⟩ :: l) Q :=
  RR_build rfl rfl hg hN hv hc hr
theorem LS_append {ty : TypeId} {ps : String} {af : Array Edge} {gu : Option (Nat × Bool)} {t el : TypeId} {s x : Operand} {z : Value} {g tot n c m k b : Nat} {xs news : List Value} {xv : Value} (i : Nat) (hg : gd ops e gu = some true) (hN : Nat.blt d N = true) [ht : SliceTy P t el] [he : ElemTy P el z k b] (hs : evO e s = some (.slice (some ⟨g, 0, none⟩) n c)) (hx : evO e x = some xv) (hpl : pull i h = some (⟨g, el, tot, xs⟩, r)) (htot : tot = c * k) (hl : xs.length = n * k) (hc : c ≤ maxLen) (hrd : ∀ w, Wd w0 h w → Rd w xv m k news) (h1 : ∀ u ∈ news, u.oneCell' = true) (hb : (n + m) * b ≤ 140737488355328) (hm : n + m ≤ maxLen) (hr : ∀ g2 c2, n + m ≤ c2 → c2 ≤ maxLen → RR .sq P ops N ((d, .slice (some ⟨g2, 0, none⟩) (n + m) c2) :: e) (Wd w0 (⟨g2, el, c2 * k, xs ++ news⟩ :: r)) l Q) : RR .sq P ops N e (Wd w0 h) (⟨(some d), (.call { callee := .builtin .append, args := #[s, x], argTypes := #[t, t] }), ty, ps, af, gu⟩ :: l) Q :=
  RS_append i rfl rfl hg hN hs hx hpl htot hl hc hrd h1 hb hm hr
theorem LS_append_sl {α : Type} {hα : Enc α} {ty : TypeId} {ps : String} {af : Array Edge} {gu : Option (Nat × Bool)} {t el : TypeId} {s x : Operand} {z : Value} {g tot n c b : Nat} {xs : List Value} {xv : Value} (i : Nat) (us ms : List α) (hg : gd ops e gu = some true) (hN : Nat.blt d N = true) [ht : SliceTy P t el] {kk : Nat} [he : ElemTy P el z kk b] (hke : kk = Enc.k α) (hs : evO e s = some (.slice (some ⟨g, 0, none⟩) n c)) (hx : evO e x = some xv) (hpl : pull i h = some (⟨g, el, tot, xs⟩, r)) (htot : tot = c * Enc.k α) (hxs : xs = flat us) (hn : n = us.length) (hc : c ≤ maxLen) (hrd : ∀ w, Wd w0 h w → Sl w xv ms) (hb : (us.length + ms.length) * b ≤ 140737488355328) (hm : us.length + ms.length ≤ maxLen) (hr : ∀ g2 c2, us.length + ms.length ≤ c2 → c2 ≤ maxLen → RR .sq P ops N ((d, .slice (some ⟨g2, 0, none⟩) (us ++ ms).length c2) :: e) (Wd w0 (⟨g2, el, c2 * Enc.k α, flat (us ++ ms)⟩ :: r)) l Q) : RR .sq P ops N e (Wd w0 h) (⟨(some d), (.call { callee := .builtin .append, args := #[s, x], argTypes := #[t, t] }), ty, ps, af, gu⟩ :: l) Q :=
  RS_append_sl i us ms rfl rfl hg hN hke hs hx hpl htot hxs hn hc hrd hb hm hr
theorem LS_append_one {α : Type} {hα : Enc α} {ty : TypeId} {ps : String} {af : Array Edge} {gu : Option (Nat × Bool)} {t el el' : TypeId} {s x : Operand} {z : Value} {g tot n c b g1 c1 tot1 : Nat} {xs cs1 : List Value} {r1 : List Ent} (i j : Nat) (us : List α) (u : α) (hg : gd ops e gu = some true) (hN : Nat.blt d N = true) [ht : SliceTy P t el] {kk : Nat} [he : ElemTy P el z kk b] (hke : kk = Enc.k α) (hs : evO e s = some (.slice (some ⟨g, 0, none⟩) n c)) (hx : evO e x = some (.slice (some ⟨g1, 0, none⟩) 1 c1)) (hpl : pull i h = some (⟨g, el, tot, xs⟩, r)) (hpl1 : pull j h = some (⟨g1, el', tot1, cs1⟩, r1)) (hu : cs1 = Enc.enc u) (htot : tot = c * Enc.k α) (hxs : xs = flat us) (hn : n = us.length) (hc : c ≤ maxLen) (hb : (us.length + 1) * b ≤ 140737488355328) (hm : us.length + 1 ≤ maxLen) (hr : ∀ g2 c2, us.length + 1 ≤ c2 → c2 ≤ maxLen → RR .sq P ops N ((d, .slice (some ⟨g2, 0, none⟩) (us.length + 1) c2) :: e) (Wd w0 (⟨g2, el, c2 * Enc.k α, flat (us ++ [u])⟩ :: r)) l Q) : RR .sq P ops N e (Wd w0 h) (⟨(some d), (.call { callee := .builtin .append, args := #[s, x], argTypes := #[t, t] }), ty, ps, af, gu⟩ :: l) Q :=
  RS_append_one i j us u rfl rfl hg hN hke hs hx hpl hpl1 hu htot hxs hn hc hb hm hr
theorem LS_make {α : Type} {hα : Enc α} {ty : TypeId} {ps : String} {af : Array Edge} {gu : Option (Nat × Bool)} {t el : TypeId} {x y : Operand} {z : Value} {b : Nat} {n : Int} (m : Nat) (u : α) (hg : gd ops e gu = some true) (hN : Nat.blt d N = true) [ht : SliceTy P t el] {kk : Nat} [he : ElemTy P el z kk b] (hke : kk = Enc.k α) (hx : evO e x = some (.int .i64 n)) (hy : evO e y = some (.int .i64 n)) (hn : n = (m : Int)) (hz : cellsL z = Enc.enc u) (hb : m * b ≤ 281474976710656) (hm : m ≤ maxLen) (hr : ∀ g, RR .sq P ops N ((d, .slice (some ⟨g, 0, none⟩) m m) :: e) (Wd w0 (⟨g, el, m * Enc.k α, flat (List.replicate m u)⟩ :: h)) l Q) : RR .sq P ops N e (Wd w0 h) (⟨(some d), (.makeSlice t x y), ty, ps, af, gu⟩ :: l) Q :=
  RS_make m u rfl rfl hg hN hke hx hy hn hz hb hm hr
theorem LR_slice_own {α : Type} {hα : Enc α} {C : World → Prop} {q : QM} {ty : TypeId} {ps : String} {af : Array Edge} {gu : Option (Nat × Bool)} {t el : TypeId} {x : Operand} {lo hi : Option Operand} {lo' hi' : Option Value} {z : Value} {b n c : Nat} {A : Option Addr} {xs : List α} (p q' : Nat) (hg : gd ops e gu = some true) (hN : Nat.blt d N = true) [ht : SliceTy P t el] {kk : Nat} [he : ElemTy P el z kk b] (hx : evO e x = some (.slice A n c)) (hl : evB e lo = some lo') (hh : evB e hi = some hi') (hs : ∀ w, C w → Sl w (.slice A n c) xs) (hke : kk = Enc.k α) (hnc : n ≤ c) (hlo : (lo' = none ∧ p = 0) ∨ lo' = some (.int .i64 (p : Int))) (hhi : (hi' = none ∧ q' = n) ∨ hi' = some (.int .i64 (q' : Int))) (h1 : p ≤ q') (h2 : q' ≤ n) (hr : ∀ A1 n1 c1, (∀ w, C w → Sl w (.slice A1 n1 c1) ((xs.take q').drop p)) → RR q P ops N ((d, .slice A1 n1 c1) :: e) C l Q) : RR q P ops N e C (⟨(some d), (.slice t x lo hi none), ty, ps, af, gu⟩ :: l) Q :=
  RR_slice_own p q' rfl rfl hg hN hx hl hh hs hke hnc hlo hhi h1 h2 hr
theorem LR_slice_old {α : Type} {hα : Enc α} {C : World → Prop} {q : QM} {ty : TypeId} {ps : String} {af : Array Edge} {gu : Option (Nat × Bool)} {t el : TypeId} {x : Operand} {lo hi : Option Operand} {lo' hi' : Option Value} {z : Value} {b : Nat} {v : Value} {xs : List α} {w1 : World} (p q' : Nat) (hg : gd ops e gu = some true) (hN : Nat.blt d N = true) [ht : SliceTy P t el] {kk : Nat} [he : ElemTy P el z kk b] (hx : evO e x = some v) (hl : evB e lo = some lo') (hh : evB e hi = some hi') (hs : Sl w1 v xs) (hke : kk = Enc.k α) (hlo : (lo' = none ∧ p = 0) ∨ lo' = some (.int .i64 (p : Int))) (hhi : (hi' = none ∧ q' = xs.length) ∨ hi' = some (.int .i64 (q' : Int))) (h1 : p ≤ q') (h2 : q' ≤ xs.length) (hr : ∀ A1 n1 c1, Sl w1 (.slice A1 n1 c1) ((xs.take q').drop p) → RR q P ops N ((d, .slice A1 n1 c1) :: e) C l Q) : RR q P ops N e C (⟨(some d), (.slice t x lo hi none), ty, ps, af, gu⟩ :: l) Q :=
  RR_slice_old p q' rfl rfl hg hN hx hl hh hs hke hlo hhi h1 h2 hr
theorem LR_call {ty : TypeId} {ps : String} {af : Array Edge} {gu : Option (Nat × Bool)} {f : Nat} {xs : Array Operand} {ts : Array TypeId} {vs : List Value} {v : Value} (hg : gd ops e gu = some true) (hN : Nat.blt d N = true) (hx : evL e xs.toList = some vs) [hk : FnOk P f] [hq : CanCall q] (hc : ∀ w, Wd w0 h w → Calls P f vs.toArray w (Gives v w)) (hr : RR q P ops N ((d, v) :: e) (Wd w0 h) l Q) : RR q P ops N e (Wd w0 h) (⟨(some d), (.call { callee := .value (.func f), args := xs, argTypes := ts }), ty, ps, af, gu⟩ :: l) Q :=
  RR_call rfl rfl hg hN hx hc hr
theorem LS_callx {ty : TypeId} {ps : String} {af : Array Edge} {gu : Option (Nat × Bool)} {f : Nat} {xs : Array Operand} {ts : Array TypeId} {vs : List Value} {ι : Type} {ok : ι → Prop} {val : ι → Value} {hp : ι → List Ent} (hg : gd ops e gu = some true) (hN : Nat.blt d N = true) (hx : evL e xs.toList = some vs) [hk : FnOk P f] (hc : ∀ w, Wd w0 h w → Calls P f vs.toArray w (fun x w' => ∃ i, ok i ∧ x = .returned (val i) ∧ Wd w (hp i) w')) (hr : ∀ i, ok i → RR .sq P ops N ((d, val i) :: e) (Wd w0 (hp i ++ h)) l Q) : RR .sq P ops N e (Wd w0 h) (⟨(some d), (.call { callee := .value (.func f), args := xs, argTypes := ts }), ty, ps, af, gu⟩ :: l) Q :=
  RS_callx rfl rfl hg hN hx hc hr
theorem LS_callf {ty : TypeId} {ps : String} {af : Array Edge} {gu : Option (Nat × Bool)} {f : Nat} {xs : Array Operand} {ts : Array TypeId} {vs : List Value} {ι : Type} {ok : ι → Prop} {val : ι → Value} {hp : ι → List Ent} (hg : gd ops e gu = some true) (hN : Nat.blt d N = true) (hx : evL e xs.toList = some vs) [hk : FnOk P f] (hc : ∀ w, Wd w0 h w → Calls P f vs.toArray w (fun x w' => ∃ i, ok i ∧ x = .returned (val i) ∧ Wd w0 (hp i) w')) (hr : ∀ i, ok i → RR .sq P ops N ((d, val i) :: e) (Wd w0 (hp i)) l Q) : RR .sq P ops N e (Wd w0 h) (⟨(some d), (.call { callee := .value (.func f), args := xs, argTypes := ts }), ty, ps, af, gu⟩ :: l) Q :=
  RS_callf rfl rfl hg hN hx hc hr
theorem LR_caseg {op : Op} {ds : Option Tmp} {ty : TypeId} {ps : String} {af : Array Edge} {j : Nat} {want b : Bool} (hd : (ops[j]?).bind (·.dst) = some d) (hl : look e d = some (.bool b)) (h1 : b = true → RR q P ops N ((d, .bool true) :: e) C (⟨ds, op, ty, ps, af, (some (j, want))⟩ :: l) Q) (h0 : b = false → RR q P ops N ((d, .bool false) :: e) C (⟨ds, op, ty, ps, af, (some (j, want))⟩ :: l) Q) : RR q P ops N e C (⟨ds, op, ty, ps, af, (some (j, want))⟩ :: l) Q :=
  RR_caseg rfl hd hl h1 h0
theorem LR_casep {ds : Option Tmp} {ty : TypeId} {ps : String} {af : Array Edge} {gu : Option (Nat × Bool)} {x y : Operand} {b : Bool} (hl : look e d = some (.bool b)) (h1 : b = true → RR q P ops N ((d, .bool true) :: e) C (⟨ds, (.pick (.tmp d) x y), ty, ps, af, gu⟩ :: l) Q) (h0 : b = false → RR q P ops N ((d, .bool false) :: e) C (⟨ds, (.pick (.tmp d) x y), ty, ps, af, gu⟩ :: l) Q) : RR q P ops N e C (⟨ds, (.pick (.tmp d) x y), ty, ps, af, gu⟩ :: l) Q :=
  RR_casep rfl hl h1 h0
end

section
variable {P : Program} {ops : Array Oper} {N : Nat} {e : Env} {Q : Exit → Act → World → Prop} {q : QM} {l : List Oper} {d : Nat} {C : World → Prop} {ty : TypeId} {ps : String} {af : Array Edge} {gu : Option (Nat × Bool)}
/-- an element of a slice that came in, at whatever index within -/
theorem LR_index_any {α : Type} {hα : Enc α} {x ix : Operand} {t el : TypeId} {z : Value} {b : Nat} {v : Value} {xs : List α} {w0 : World} {i : Int} (hg : gd ops e gu = some true) (hN : Nat.blt d N = true)
    (hx : evO e x = some v) (hix : evO e ix = some (.int .i64 i)) (hs : Sl w0 v xs) (h0 : 0 ≤ i) (h1 : i < xs.length) [ht : SliceTy P t el] {kk : Nat} [he : ElemTy P el z kk b] (hke : kk = Enc.k α)
    (hr : ∀ ad r, xs[i.toNat]? = some r → Pt w0 ad (Enc.enc r) → RR q P ops N ((d, .pointer (some ad)) :: e) C l Q) : RR q P ops N e C (⟨(some d), (.indexAddr t x ix), ty, ps, af, gu⟩ :: l) Q :=
  have hk : xs[i.toNat]? = some (xs[i.toNat]'(by omega)) := List.getElem?_eq_getElem (by omega)
  LR_index_old i.toNat hg hN hx hix hs (by omega) hk hke fun ad hp => hr ad _ hk hp
theorem ofInt_i64 (a : Nat) (ha : a < 9223372036854775808) : (BitVec.ofInt 64 (a : Int)).toNat = a := by
  rw [BitVec.ofInt_natCast, BitVec.toNat_ofNat]; exact Nat.mod_eq_of_lt (by omega)
theorem xor_nonneg (a b : Int) (ha : 0 ≤ a) (ha' : a ≤ 9223372036854775807) (hb : 0 ≤ b) (hb' : b ≤ 9223372036854775807) : 0 ≤ bits .xor .i64 a b := by
  obtain ⟨m, rfl⟩ := Int.eq_ofNat_of_zero_le ha
  obtain ⟨n, rfl⟩ := Int.eq_ofNat_of_zero_le hb
  have hx : m ^^^ n < 2 ^ 63 := Nat.xor_lt_two_pow (by omega) (by omega)
  show 0 ≤ IntKind.i64.wrap ((BitVec.ofInt 64 (m : Int) ^^^ BitVec.ofInt 64 (n : Int)).toNat : Int)
  rw [BitVec.toNat_xor, ofInt_i64 m (by omega), ofInt_i64 n (by omega), IntKind.wrap_i64]
  omega
theorem LR_xor {t t' : TypeId} {x y : Operand} {m n : Int} (hg : gd ops e gu = some true) (hN : Nat.blt d N = true) (hx : evO e x = some (.int .i64 m)) (hy : evO e y = some (.int .i64 n))
    (h1 : 0 ≤ m) (h2 : m ≤ 9223372036854775807) (h3 : 0 ≤ n) (h4 : n ≤ 9223372036854775807) (hr : ∀ z, 0 ≤ z → RR q P ops N ((d, .int .i64 z) :: e) C l Q) : RR q P ops N e C (⟨(some d), (.binOp .xor t x y t'), ty, ps, af, gu⟩ :: l) Q :=
  RR_bin rfl rfl hg hN hx hy (fun w => by rw [binOp_xor, intBits_xor]; rfl) (hr _ (xor_nonneg m n h1 h2 h3 h4))
end

section
variable {P : Program} {ops : Array Oper} {N : Nat} {e : Env} {Q : Exit → Act → World → Prop} {q : QM} {l : List Oper} {d : Nat} {C : World → Prop} {ty : TypeId} {ps : String} {af : Array Edge} {gu : Option (Nat × Bool)}
/-- an element of a slice that reads so in every world of the class -/
theorem LR_index_cls {α : Type} {hα : Enc α} {x ix : Operand} {t el : TypeId} {z : Value} {b n c : Nat} {ad0 : Addr} {xs : List α} {i : Int} (hg : gd ops e gu = some true) (hN : Nat.blt d N = true)
    (hx : evO e x = some (.slice (some ad0) n c)) (hix : evO e ix = some (.int .i64 i)) (hs : ∀ w, C w → Sl w (.slice (some ad0) n c) xs) (hn : n = xs.length) (h0 : 0 ≤ i) (h1 : i < xs.length) [ht : SliceTy P t el] {kk : Nat} [he : ElemTy P el z kk b] (hke : kk = Enc.k α)
    (hr : ∀ ad r, xs[i.toNat]? = some r → (∀ w, C w → Pt w ad (Enc.enc r)) → RR q P ops N ((d, .pointer (some ad)) :: e) C l Q) : RR q P ops N e C (⟨(some d), (.indexAddr t x ix), ty, ps, af, gu⟩ :: l) Q := by
  obtain ⟨k, rfl⟩ := Int.eq_ofNat_of_zero_le h0
  have hlt : k < xs.length := by omega
  have hk : xs[k]? = some xs[k] := List.getElem?_eq_getElem hlt
  subst hke
  refine RR_val rfl hg hN (fun a w hf _ => ?_) (hr (ad0.add (k * Enc.k α)) xs[k] (by simp) fun w hw => ?_)
  · simp only [execOp, hf.ev hx, hf.ev hix, Sem.run_bind, run_indexAt (P := P) (t := t) (show k < n by omega) w, Result.andThen_ok, Sem.run_pure]
  · obtain ⟨ad, n', c', hv, _, _, hp⟩ := (hs w hw).elem hk
    simp only [Value.slice.injEq, Option.some.injEq] at hv
    obtain ⟨rfl, _, _⟩ := hv
    exact hp
theorem LR_load_cls0 {x : Operand} {t : TypeId} {ad : Addr} {cs : List Value} {v : Value} (hg : gd ops e gu = some true) (hN : Nat.blt d N = true)
    (hx : evO e x = some (.pointer (some ad))) [ht : OneTy P t] (hp : ∀ w, C w → Pt w ad cs) (hv : nth cs 0 = some v) (hr : RR q P ops N ((d, v) :: e) C l Q) : RR q P ops N e C (⟨(some d), (.load t x), ty, ps, af, gu⟩ :: l) Q :=
  RR_val rfl hg hN (fun a w hf hw => by
    rw [nth_eq] at hv
    have := (hp w hw) 0 v hv
    rw [Addr.add_zero'] at this
    simp only [execOp, hf.ev hx, Sem.run_bind, run_load_one this, Result.andThen_ok, Sem.run_pure]) hr
theorem LR_load_cls {x : Operand} {t : TypeId} {ad : Addr} {k : Nat} {cs : List Value} {v : Value} (hg : gd ops e gu = some true) (hN : Nat.blt d N = true)
    (hx : evO e x = some (.pointer (some (ad.add k)))) [ht : OneTy P t] (hp : ∀ w, C w → Pt w ad cs) (hv : nth cs k = some v) (hr : RR q P ops N ((d, v) :: e) C l Q) : RR q P ops N e C (⟨(some d), (.load t x), ty, ps, af, gu⟩ :: l) Q :=
  RR_val rfl hg hN (fun a w hf hw => by
    rw [nth_eq] at hv
    simp only [execOp, hf.ev hx, Sem.run_bind, run_load_one ((hp w hw) k v hv), Result.andThen_ok, Sem.run_pure]) hr
theorem LR_load_cls_agg {x : Operand} {t : TypeId} {n : Nat} {ad : Addr} {cs us : List Value} (hg : gd ops e gu = some true) (hN : Nat.blt d N = true)
    (hx : evO e x = some (.pointer (some ad))) [ht : AggTy P t n] (hp : ∀ w, C w → Pt w ad cs) (hv : takeF cs n = some us) (hr : RR q P ops N ((d, .agg us.toArray) :: e) C l Q) : RR q P ops N e C (⟨(some d), (.load t x), ty, ps, af, gu⟩ :: l) Q :=
  RR_val rfl hg hN (fun a w hf hw => by
    obtain ⟨h1, h2⟩ := takeF_eq _ _ _ hv
    have h3 := ((hp w hw).take n)
    rw [h1] at h3
    simp only [execOp, hf.ev hx, Sem.run_bind, run_load_agg h2 h3, Result.andThen_ok, Sem.run_pure]) hr
end
theorem Wd.drop1 {w0 w : World} {x a : Ent} {h : List Ent} (hw : Wd w0 (x :: a :: h) w) : Wd w0 (x :: h) w := hw.sub ((List.sublist_cons_self _ _).cons_cons _)
theorem Wd.drop2 {w0 w : World} {x a b : Ent} {h : List Ent} (hw : Wd w0 (x :: a :: b :: h) w) : Wd w0 (x :: h) w := hw.drop1.drop1
theorem Wd.drop3 {w0 w : World} {x a b c : Ent} {h : List Ent} (hw : Wd w0 (x :: a :: b :: c :: h) w) : Wd w0 (x :: h) w := hw.drop1.drop2
theorem Wd.drop4 {w0 w : World} {x a b c d : Ent} {h : List Ent} (hw : Wd w0 (x :: a :: b :: c :: d :: h) w) : Wd w0 (x :: h) w := hw.drop1.drop3

/-! ### equality of truth values and of aggregates of ints -/
class BoolTy (P : Program) (t : TypeId) : Prop where
  und : P.underlying t = some .bool
section
variable {P : Program} {ops : Array Oper} {N : Nat} {e : Env} {Q : Exit → Act → World → Prop} {q : QM} {l : List Oper} {d : Nat} {C : World → Prop} {ty : TypeId} {ps : String} {af : Array Edge} {gu : Option (Nat × Bool)}
theorem LR_eqb {t t' : TypeId} {x y : Operand} {a b : Bool} (hg : gd ops e gu = some true) (hN : Nat.blt d N = true) (hx : evO e x = some (.bool a)) (hy : evO e y = some (.bool b)) [ht : BoolTy P t]
    (hr : RR q P ops N ((d, .bool (a == b)) :: e) C l Q) : RR q P ops N e C (⟨(some d), (.binOp .eql t x y t'), ty, ps, af, gu⟩ :: l) Q :=
  RR_val rfl hg hN (fun ac w hf _ => by
    have h1 : ((do eqGuard .eql t x y (.bool a) (.bool b); binOp .eql t (.bool a) (.bool b)) : Sem Value).run P w = .ok (.bool (a == b)) w := by
      rw [eqGuard_at_bool]
      simp [binOp, run_equal_bool w t a b ht.und]
    simp only [execOp, hf.ev hx, hf.ev hy]
    rw [Sem.run_bind, h1]; rfl) hr
theorem LR_neqb {t t' : TypeId} {x y : Operand} {a b : Bool} (hg : gd ops e gu = some true) (hN : Nat.blt d N = true) (hx : evO e x = some (.bool a)) (hy : evO e y = some (.bool b)) [ht : BoolTy P t]
    (hr : RR q P ops N ((d, .bool (!(a == b))) :: e) C l Q) : RR q P ops N e C (⟨(some d), (.binOp .neq t x y t'), ty, ps, af, gu⟩ :: l) Q :=
  RR_val rfl hg hN (fun ac w hf _ => by
    have h1 : ((do eqGuard .neq t x y (.bool a) (.bool b); binOp .neq t (.bool a) (.bool b)) : Sem Value).run P w = .ok (.bool (!(a == b))) w := by
      rw [eqGuard_at_bool]
      simp [binOp, run_equal_bool w t a b ht.und]
    simp only [execOp, hf.ev hx, hf.ev hy]
    rw [Sem.run_bind, h1]; rfl) hr
end
end Go.Proofs.YtbgfkhliideegaaGreat
