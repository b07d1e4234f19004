/- The contracts of slices.SortFunc at rules and at pairs, by the library's own. No condition beyond those that each theorem states. -/
import Derived.Test.YtbgfkhliideegaaGreatWOr1
import Derived.Test.YtbgfkhliideegaaGreatLay
import Derived.Shelf.SlSortCmp.WholeK
import Derived.Shelf.SlSortCmp.Whole1
import Derived.Lib.QuietBelow
namespace Go.Proofs.YtbgfkhliideegaaGreat
open Go.RowKit Go.Sort Go.Shelf
theorem Bl.grown_eq {w w' : World} (h : Bl w.heap.size w w') : ∃ q os', w' = grow (w.drewN q) os' := by
  obtain ⟨p, rfl⟩ := regrown_of_below h.b
  have hd : w.drawn ≤ p.d := h.dr
  refine ⟨p.d - w.drawn, p.os, ?_⟩
  have e : redrawn w p.d = w.drewN (p.d - w.drawn) := by
    show ({ w with drawn := p.d } : World) = { w with drawn := w.drawn + (p.d - w.drawn) }
    rw [Nat.add_sub_cancel' hd]
  rw [e]
theorem Calls.grown {P : Program} {f : FuncId} {args : Array Value} {w : World} {v : Value} (h : Calls P f args w (Gives v w)) : Calls P f args w fun e w' => e = .returned v ∧ ∃ q os', w' = grow (w.drewN q) os' :=
  h.mono fun _ _ ⟨he, hb⟩ => ⟨he, hb.grown_eq⟩
theorem get_bang {α : Type} [Inhabited α] (d : Array α) (j : Nat) (h : j < d.size) : d[j]! = d[j] := getElem!_pos d j h
theorem putRow_map {β : Type} [Inhabited β] (enc : β → Value) (w : World) (g : Nat) (d : Array β) : putRow enc w g 0 d = putRow id w g 0 (d.map enc) := by
  unfold putRow
  congr 1
  funext c
  unfold putCells
  apply Array.ext_getElem?
  intro k
  simp only [Array.getElem?_mapIdx, Array.size_map, Nat.sub_zero, Nat.zero_add, Nat.zero_le, true_and]
  cases c[k]? with
  | none => rfl
  | some y =>
    simp only [Option.map_some]
    by_cases hk : k < d.size
    · rw [if_pos hk, if_pos hk, get_bang _ _ hk, get_bang _ _ (by simpa using hk)]; simp
    · rw [if_neg hk, if_neg hk]
theorem holds_map {β : Type} [Inhabited β] {enc : β → Value} {w : World} {g : Nat} {d : Array β} (h : Holds id w g 0 (d.map enc)) : Holds enc w g 0 d := fun j hj => by
  have := h j (by simpa using hj)
  rw [get_bang _ _ (by simpa using hj)] at this
  rw [get_bang _ _ hj]
  simpa using this
theorem holds_at {w : World} {g : Nat} {T : TypeId} {tot : Nat} {F : Array Value} (h : (⟨g, T, tot, F.toList⟩ : Ent).At w) : Holds id w g 0 F := fun j hj => by
  have hc := h.cell (i := j) (v := F[j]!) (by simp [hj])
  rw [Nat.zero_add]
  exact ⟨hc, h.frozen j⟩
theorem wd_putRow {w0 w : World} {g : Nat} {T : TypeId} {tot : Nat} {cs : List Value} {h : List Ent} (hw : Wd w0 (⟨g, T, tot, cs⟩ :: h) w) (F : Array Value) (hF : F.size = cs.length) (n : Nat) (os : Array Obj) :
    Wd w0 (⟨g, T, tot, F.toList⟩ :: h) (grow (putRow id (Go.Sort.ahead w n) g 0 F) os) := by
  obtain ⟨cur, hc, hs, t, ht⟩ := hw.head
  simp only at hc hs ht
  have hlt : g < w.heap.size := (Array.getElem?_eq_some_iff.1 hc).1
  have hcs : cs.length ≤ cur.size := by rw [← Array.length_toList, ← ht, List.length_append]; omega
  have heap_eq : ∀ k, k < w.heap.size → (grow (putRow id (Go.Sort.ahead w n) g 0 F) os).heap[k]? = (w.heap.modify g (onCells (putCells id 0 F)))[k]? := fun k hk => by
    show ((w.heap.modify g (onCells (putCells id 0 F))) ++ os)[k]? = _
    rw [Array.getElem?_append_left (by simpa using hk)]
  refine hw.swap (w' := grow (putRow id (Go.Sort.ahead w n) g 0 F) os) ⟨rfl, rfl, rfl, ?_, fun k hk hne => ?_⟩ ?_ ⟨g, T, tot, F.toList⟩ ⟨putCells id 0 F cur, ?_, ?_, ?_⟩ (.inl rfl)
  · show w.heap.size ≤ ((w.heap.modify g (onCells (putCells id 0 F))) ++ os).size
    simp
  · rw [heap_eq k hk, Array.getElem?_modify]
    rw [if_neg (fun e => hne (by rw [e]))]
  · show w.drawn ≤ w.drawn + n
    omega
  · show (grow (putRow id (Go.Sort.ahead w n) g 0 F) os).heap[g]? = _
    rw [heap_eq g hlt, Array.getElem?_modify, if_pos rfl, hc]
    rfl
  · show (putCells id 0 F cur).size = tot
    simp [putCells, hs]
  · refine ⟨cur.toList.drop F.size, ?_⟩
    show F.toList ++ _ = (putCells id 0 F cur).toList
    apply List.ext_getElem?
    intro k
    simp only [putCells, Array.toList_mapIdx, List.getElem?_mapIdx, Nat.zero_add, Nat.sub_zero, Nat.zero_le, true_and]
    by_cases hk : k < F.size
    · rw [List.getElem?_append_left (by simpa using hk)]
      have hk2 : k < cur.size := by omega
      rw [show cur.toList[k]? = some cur[k] by simp [hk2]]
      simp [hk]
    · rw [List.getElem?_append_right (by simpa using hk), List.getElem?_drop, Array.length_toList, show F.size + (k - F.size) = k by omega]
      cases cur.toList[k]? with
      | none => rfl
      | some y => simp [hk]
theorem flatK_flat {α : Type} [Enc α] [Inhabited α] (l : List α) : (flatK Enc.enc (Enc.k α) l.toArray).toList = flat l := by
  have hK := Enc.pos (α := α)
  apply List.ext_getElem?
  intro t
  by_cases ht : t < l.length * Enc.k α
  · obtain ⟨q, hq⟩ : ∃ q, q = t / Enc.k α := ⟨_, rfl⟩
    obtain ⟨r, hr⟩ : ∃ r, r = t % Enc.k α := ⟨_, rfl⟩
    have hql : q < l.length := by rw [hq]; exact Nat.div_lt_of_lt_mul (by rw [Nat.mul_comm]; exact ht)
    have hrl : r < Enc.k α := by rw [hr]; exact Nat.mod_lt _ hK
    have htq : t = q * Enc.k α + r := by rw [hq, hr, Nat.mul_comm]; exact (Nat.div_add_mod t _).symm
    have h1 : (flatK Enc.enc (Enc.k α) l.toArray).toList[t]? = some ((Enc.enc l[q])[r]'(by rw [Enc.len]; exact hrl)) := by
      have h2 := get_flatK (Enc.enc (α := α)) (Enc.k α) l.toArray t (by simpa using ht)
      rw [get_bang _ _ (by simpa using ht)] at h2
      rw [Array.getElem?_toList, Array.getElem?_eq_getElem (by simpa using ht), h2, ← hq, ← hr]
      rw [get_bang _ _ (by simpa using hql)]
      simp only [List.getElem_toArray]
      rw [getElem!_pos _ r (by rw [Enc.len]; exact hrl)]
    have h3 := flat_at (List.getElem?_eq_getElem hql)
    have h4 : (flat l)[t]? = (Enc.enc l[q])[r]? := by
      rw [← h3, List.getElem?_take, if_pos hrl, List.getElem?_drop, htq]
    rw [h1, h4, List.getElem?_eq_getElem]
  · rw [List.getElem?_eq_none (by simp; omega), List.getElem?_eq_none (by rw [flat_length]; omega)]
theorem perm_of_in {α : Type} [Inhabited α] {d d' : Array α} (h : PermIn 0 d.size d d') : d'.size = d.size ∧ d'.toList.Perm d.toList := by
  refine ⟨h.1, ?_⟩
  have h2 := h.2.2
  rw [show d'.extract 0 d.size = d' by rw [← h.1]; simp, show d.extract 0 d.size = d by simp] at h2
  exact h2
instance : Inhabited Ru := ⟨⟨0, 0, 0, 0, 0, 0, 0, ⟨⟨0, 0⟩, none, 0, 0, [], 0⟩⟩⟩
theorem cfR_swo : SWO (ltOf cfR) where
  irrefl x := by simp only [ltOf, decide_eq_false_iff_not, cfR_lt]; exact bef_irrefl x
  trans x y z h1 h2 := by simp only [ltOf, decide_eq_true_eq, cfR_lt] at *; exact bef_trans h1 h2
  ntrans x y z h1 h2 := by simp only [ltOf, decide_eq_false_iff_not, cfR_lt] at *; exact bef_ntrans h1 h2
theorem sortRu_ok (w0 : World) (h : List Ent) (w : World) (g c : Nat) (l : List Ru) (hw : Wd w0 (ruE g c l :: h) w) (hl : l.length ≤ 1000000) : Calls Tryz.prog 119 #[.slice (some ⟨g, 0, none⟩) l.length c, .func (.func 120) #[] #[]] w
    (fun x w' => ∃ l' : List Ru, (l'.Perm l ∧ l'.Pairwise fun a b => ¬ bef b a) ∧ x = .returned (.tuple #[]) ∧ Wd w0 (ruE g c l' :: h) w') := by
  have hat := hw.head
  have hF := flatK_flat l
  have hH : HoldsK Enc.enc 11 w g 0 l.toArray := by
    show Holds id w g 0 (flatK Enc.enc (Enc.k Ru) l.toArray)
    exact holds_at (T := 71) (tot := c * Enc.k Ru) (by rw [hF]; exact hat)
  have eg : ∀ args w, (callFunc 120 args).run Tryz.prog w = .ok (.enter 120 args) w := FnOk.call
  have hcmp : CmpLays Tryz.prog 120 #[] Enc.enc 11 cfR g 0 l.toArray.size w := fun m os dk _ x y => by
    have := Calls.grown (cmpRu_ok x y (sortWorldK Enc.enc 11 w g 0 m dk os))
    rw [Array.append_empty]
    exact this
  have hcon := AnyQ.slices_SortFunc sortRuL 11 (fun w => AggTy.agg (P := Tryz.prog) (t := 71) w) (fun w => AggTy.size (P := Tryz.prog) (t := 71) w) Enc.enc (fun x => Enc.len x) (fun x v hv => Enc.one x v hv) cfR cfR_swo 120 #[] g 0 c l.toArray w eg hcmp hH hat.lt (by simp; omega)
  change Calls Tryz.prog 119 _ _ _ at hcon
  rw [List.size_toArray] at hcon
  refine hcon.mono fun e w' ⟨he, d', n, os, hp, hs, hw'⟩ => ?_
  obtain ⟨hsz, hpp⟩ := perm_of_in (d := l.toArray) (d' := d') (by simpa using hp)
  refine ⟨d'.toList, ⟨by simpa using hpp, ?_⟩, he, ?_⟩
  · rw [List.pairwise_iff_getElem]
    intro i j hi hj hij
    have h3 := hs i j (Nat.zero_le _) hij (by simp at hsz; simpa [hsz] using hj)
    rw [get_bang _ _ (by simpa using hj), get_bang _ _ (by simpa using hi)] at h3
    simp only [ltOf, decide_eq_false_iff_not, cfR_lt] at h3
    simpa using h3
  · have hF' := flatK_flat d'.toList
    have e1 : d'.toList.toArray = d' := by simp
    rw [e1] at hF'
    have := wd_putRow hw (flatK Enc.enc (Enc.k Ru) d') (by rw [size_flatK, flat_length, hsz, List.size_toArray]) n os
    rw [hF'] at this
    rw [hw']
    exact this
/-! ### pairs -/
/-- a pair in a block of its own -/
structure Pp where
  g : Nat
  c : Nat
  a : Int
  b : Int
instance : Enc Pp := ⟨1, fun x => [.slice (some ⟨x.g, 0, none⟩) 2 x.c], fun _ => rfl, by omega, fun _ v hv => by simp at hv; subst hv; rfl⟩
abbrev ppE (g c : Nat) (ps : List Pp) : Ent := ⟨g, 25, c * Enc.k Pp, flat ps⟩
abbrev pEnt (p : Pp) : Ent := intE p.g p.c [p.a, p.b]
abbrev pVal (p : Pp) : Value := .slice (some ⟨p.g, 0, none⟩) 2 p.c
abbrev pPr (p : Pp) : Int × Int := (p.a, p.b)
theorem cfP_swo {α : Type} (f : α → Int × Int) : SWO (ltOf fun x y => cfP (f x) (f y)) where
  irrefl x := by simp only [ltOf, decide_eq_false_iff_not, cfP_lt]; exact lex_irrefl _
  trans x y z h1 h2 := by simp only [ltOf, decide_eq_true_eq, cfP_lt] at *; exact lex_trans h1 h2
  ntrans x y z h1 h2 := by simp only [ltOf, decide_eq_false_iff_not, cfP_lt] at *; unfold lex at *; omega
theorem flat_pp (ps : List Pp) : flat ps = ps.map pVal := by
  induction ps with
  | nil => rfl
  | cons p ps ih => rw [flat_cons, ih]; rfl
theorem sortPp_ok (w0 : World) (h : List Ent) (w : World) (g c : Nat) (ps : List Pp) (hne : ps ≠ []) (hw : Wd w0 (ppE g c ps :: h) w) (hps : ∀ p ∈ ps, pEnt p ∈ h ∧ 2 ≤ p.c ∧ p.c ≤ maxLen) (hl : ps.length ≤ 1000000) :
    Calls Tryz.prog 149 #[.slice (some ⟨g, 0, none⟩) ps.length c, .func (.func 150) #[] #[]] w
    (fun x w' => ∃ l' : List Pp, (l'.Perm ps ∧ l'.Pairwise fun a b => ¬ lex (pPr b) (pPr a)) ∧ x = .returned (.tuple #[]) ∧ Wd w0 (ppE g c l' :: h) w') := by
  have hat := hw.head
  have hap := (List.pairwise_cons.1 hw.apart).1
  obtain ⟨p0, hp0⟩ := List.exists_mem_of_ne_nil ps hne
  let α := { p : Pp // p ∈ ps }
  haveI : Inhabited α := ⟨⟨p0, hp0⟩⟩
  let enc : α → Value := fun x => pVal x.1
  let d : Array α := ps.attach.toArray
  have hdl : d.size = ps.length := by
    show ps.attach.toArray.size = _
    rw [List.size_toArray]; exact List.length_attach
  have hdm : (d.map enc).toList = flat ps := by
    rw [flat_pp]
    simp only [d, enc, Array.toList_map]
    rw [show (fun x : α => pVal x.1) = pVal ∘ Subtype.val from rfl, ← List.map_map, List.attach_map_subtype_val]
  have hH : Holds enc w g 0 d := holds_map (holds_at (T := 25) (tot := c * Enc.k Pp) (by rw [hdm]; exact hat))
  have eg : ∀ args w, (callFunc 150 args).run Tryz.prog w = .ok (.enter 150 args) w := FnOk.call
  have hread : ∀ (m : Nat) (os : Array Obj) (dk : Array α) (x : α), Sl (sortWorld enc w g 0 m dk os) (enc x) [x.1.a, x.1.b] := fun m os dk x => by
    obtain ⟨hm, h2, h3⟩ := hps x.1 x.2
    have hent := (hw.at_ _ (List.mem_cons_of_mem _ hm)).2
    have hng : x.1.g ≠ g := fun e => hap _ hm e.symm
    refine Ent.At.sl (g := x.1.g) (T := 3) (tot := x.1.c * Enc.k Int) (cs := flat [x.1.a, x.1.b]) ?_ rfl rfl h2 h3
    refine hent.of_block ?_
    show ((w.heap.modify g (onCells (putCells enc 0 dk))) ++ os)[x.1.g]? = w.heap[x.1.g]?
    rw [Array.getElem?_append_left (by simpa using hent.lt), Array.getElem?_modify, if_neg (fun e => hng e.symm)]
  have hcmp : CmpLays1 Tryz.prog 150 #[] enc (fun x y => cfP (pPr x.1) (pPr y.1)) g 0 d.size w := fun m os dk _ x y => by
    have := Calls.grown (cmpPr_ok (enc x) (enc y) (pPr x.1) (pPr y.1) (sortWorld enc w g 0 m dk os) (hread m os dk x) (hread m os dk y))
    rw [Array.append_empty]
    exact this
  have hcon := Any.slices_SortFunc sortPrL enc (fun _ => rfl) (fun x y => cfP (pPr x.1) (pPr y.1)) (cfP_swo fun x : α => pPr x.1) 150 #[] g 0 c d w eg hcmp hH hat.lt (by rw [hdl]; omega)
  change Calls Tryz.prog 149 _ _ _ at hcon
  rw [hdl] at hcon
  refine hcon.mono fun e w' ⟨he, d', n, os, hp, hs, hw'⟩ => ?_
  obtain ⟨hsz, hpp⟩ := perm_of_in (d := d) (d' := d') (by rw [hdl]; exact hp)
  refine ⟨d'.toList.map Subtype.val, ⟨?_, ?_⟩, he, ?_⟩
  · have := hpp.map Subtype.val
    simpa [d] using this
  · rw [List.pairwise_map, List.pairwise_iff_getElem]
    intro i j hi hj hij
    have h3 := hs i j (Nat.zero_le _) hij (by rw [← hdl, ← hsz]; simpa using hj)
    rw [get_bang _ _ (by simpa using hj), get_bang _ _ (by simpa using hi)] at h3
    simp only [ltOf, decide_eq_false_iff_not, cfP_lt] at h3
    simpa using h3
  · have hdm' : (d'.map enc).toList = flat (d'.toList.map Subtype.val) := by
      rw [flat_pp, Array.toList_map, List.map_map]
      rfl
    have := wd_putRow hw (d'.map enc) (by rw [Array.size_map, hsz, hdl, flat_length]; show _ = ps.length * 1; omega) n os
    rw [hdm'] at this
    rw [hw']
    show Wd w0 _ (grow (putRow enc (Go.Sort.ahead w n) g 0 d') os)
    rw [putRow_map]
    exact this
end Go.Proofs.YtbgfkhliideegaaGreat
