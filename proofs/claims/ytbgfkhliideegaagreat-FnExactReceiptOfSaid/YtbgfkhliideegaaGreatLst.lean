/- Storing into a list that lies in cells. No condition beyond those that each theorem states. -/
import Derived.Test.YtbgfkhliideegaaGreatTy
namespace Go.Proofs.YtbgfkhliideegaaGreat
open Go.RowKit
theorem forceL_some : ∀ l : List Value, forceL l = some l
  | [] => rfl
  | x :: l => by simp only [forceL, forceL_some l]
theorem putF_some : ∀ (l : List Value) (n : Nat) (vs : List Value), n + vs.length ≤ l.length → putF l n vs = some (l.take n ++ vs ++ l.drop (n + vs.length))
  | l, 0, [], _ => by unfold putF; simp [forceL_some]
  | [], 0, _ :: _, h => by simp at h
  | x :: l, 0, v :: vs, h => by
    have ih := putF_some l 0 vs (by simp only [List.length_cons] at h; omega)
    unfold putF
    simp only [ih]
    simp
  | [], n + 1, vs, h => by simp at h
  | x :: l, n + 1, vs, h => by
    have ih := putF_some l n vs (by simp only [List.length_cons] at h; omega)
    unfold putF
    simp only [ih]
    simp [show n + 1 + vs.length = n + vs.length + 1 from by omega]
section
variable {α : Type} [Enc α]
theorem putF_set (xs : List α) (k : Nat) (u : α) (hk : k < xs.length) : putF (flat xs) (k * Enc.k α) (Enc.enc u) = some (flat (xs.set k u)) := by
  have h1 : k * Enc.k α + Enc.k α ≤ xs.length * Enc.k α := by
    rw [← Nat.succ_mul]; exact Nat.mul_le_mul_right _ hk
  rw [putF_some _ _ _ (by rw [flat_length, Enc.len]; exact h1), flat_set hk, Enc.len]
theorem putF_fld (xs : List α) (k : Nat) (u u' : α) (o : Nat) (v : Value) (hk : xs[k]? = some u) (ho : o < Enc.k α) (hu : Enc.enc u' = (Enc.enc u).take o ++ [v] ++ (Enc.enc u).drop (o + 1)) : putF (flat xs) (k * Enc.k α + o) [v] = some (flat (xs.set k u')) := by
  have hlt := (List.getElem?_eq_some_iff.1 hk).1
  have h1 : k * Enc.k α + Enc.k α ≤ xs.length * Enc.k α := by
    rw [← Nat.succ_mul]; exact Nat.mul_le_mul_right _ hlt
  have h2 : xs.take k ++ u :: xs.drop (k + 1) = xs := by
    have := List.take_append_drop k xs
    rw [List.drop_eq_getElem_cons hlt, (List.getElem?_eq_some_iff.1 hk).2] at this
    exact this
  have h3 : (flat (xs.take k)).length = k * Enc.k α := by rw [flat_length, List.length_take, Nat.min_eq_left (Nat.le_of_lt hlt)]
  have h4 : flat xs = flat (xs.take k) ++ Enc.enc u ++ flat (xs.drop (k + 1)) := by
    conv => lhs; rw [← h2, flat_append, flat_cons, ← List.append_assoc]
  have h5 : xs.set k u' = xs.take k ++ u' :: xs.drop (k + 1) := by rw [List.set_eq_take_append_cons_drop, if_pos hlt]
  rw [putF_some _ _ _ (by rw [flat_length]; simp only [List.length_cons, List.length_nil]; omega), h5, flat_append, flat_cons, hu, h4]
  have e1 : (flat (xs.take k) ++ Enc.enc u ++ flat (xs.drop (k + 1))).take (k * Enc.k α + o) = flat (xs.take k) ++ (Enc.enc u).take o := by
    rw [List.append_assoc, List.take_append, h3, List.take_of_length_le (by omega), Nat.add_sub_cancel_left, List.take_append_of_le_length (by rw [Enc.len]; omega)]
  have e2 : (flat (xs.take k) ++ Enc.enc u ++ flat (xs.drop (k + 1))).drop (k * Enc.k α + o + 1) = (Enc.enc u).drop (o + 1) ++ flat (xs.drop (k + 1)) := by
    rw [List.append_assoc, List.drop_append, h3, List.drop_eq_nil_of_le (by omega), List.nil_append, show k * Enc.k α + o + 1 - k * Enc.k α = o + 1 from by omega, List.drop_append_of_le_length (by rw [Enc.len]; omega)]
  rw [e1, List.length_singleton, e2]
  simp
end
section
variable {P : Program} {N : Nat} {e : Env} {w0 : World} {h r : List Ent}
/-- a result that lies in a cell of the call's own, of an aggregate -/
theorem post_ret_cell {fn : Func} {R : Ending → World → Prop} {a : Nat} {t T : TypeId} {n g tot off : Nat} {cs us : List Value} (i : Nat) (hr : fn.results = #[.cell a t]) (hp : look e a = some (.pointer (some ⟨g, off, none⟩))) [ht : AggTy P t n]
    (hpl : pull i h = some (⟨g, T, tot, cs⟩, r)) (hv : takeF (dropN cs off) n = some us) (hR : ∀ w, Wd w0 h w → R (.returned (.agg us.toArray)) w) : Post N e (Wd w0 h) .ret (bodyPost P fn R) := by
  refine post_ret (vs := [.agg us.toArray]) ?_ rfl hR
  rw [hr]
  refine ⟨⟨_, hp, fun w hw => ?_⟩, trivial⟩
  obtain ⟨h1, h2⟩ := takeF_eq _ _ _ hv
  rw [dropN_eq] at h1
  have h3 := ((hw.perm (pull_perm _ _ _ _ hpl)).head.pt off).take n
  rw [h1] at h3
  exact run_load_agg h2 h3
end
/-- an own block reads as the list that lies in it -/
theorem own_sl {α : Type} [Enc α] {w0 w : World} {H r : List Ent} {g T tot n c : Nat} {cs : List Value} {xs : List α} (i : Nat) (hw : Wd w0 H w) (hp : pull i H = some (⟨g, T, tot, cs⟩, r)) (hcs : cs = flat xs) (hn : n = xs.length) (hc : n ≤ c) (hm : c ≤ maxLen) : Sl w (.slice (some ⟨g, 0, none⟩) n c) xs := by
  subst hn
  exact (hw.perm (pull_perm _ _ _ _ hp)).head.sl hcs rfl hc hm
/-! ## equality of aggregates of ints -/
def intsL : List Value → Option (List Int)
  | [] => some []
  | .int .i64 n :: l => match intsL l with
    | some r => some (n :: r)
    | none => none
  | _ :: _ => none
theorem intsL_eq : ∀ (l : List Value) (r : List Int), intsL l = some r → l = r.map (Value.int .i64)
  | [], r, h => by simp only [intsL, Option.some.injEq] at h; subst h; rfl
  | v :: l, r, h => by
    unfold intsL at h
    split at h
    · cases ‹_ :: _ = []›
    · rename_i n l' he
      simp only [List.cons.injEq] at he
      obtain ⟨rfl, rfl⟩ := he
      split at h
      · rename_i r' hr
        simp only [Option.some.injEq] at h
        subst h
        rw [intsL_eq l r' hr]; rfl
      · cases h
    · cases h
def intsFrom (P : Program) : Nat → List Field → Bool
  | _, [] => true
  | i, f :: fs => (f.name != "_") && (Nat.beq f.offset i && ((match P.underlying f.type with | some (.int .i64) => true | _ => false) && intsFrom P (i + 1) fs))
class EqTy (P : Program) (t : TypeId) : Prop where
  guard : P.eqGuardType P.depth t = false
  und : P.underlying t = some (.struct (P.fieldsOf t))
  held : P.stoodInHeld t = false
  ints : intsFrom P 0 (P.fieldsOf t).toList = true
section
variable {P : Program}
theorem isAgg_i64 {t : TypeId} (h : P.underlying t = some (.int .i64)) (w : World) : (isAgg t).run P w = .ok false w := by
  simp [isAgg, run_underlying h]
theorem part_i64 {t : TypeId} (h : P.underlying t = some (.int .i64)) (cs : Array Value) (off : Nat) (v : Value) (hv : cs[off]? = some v) (w : World) : (part t cs off).run P w = .ok v w := by
  simp [part, isAgg_i64 h, hv]
theorem eqFields_ints (d : Nat) (w : World) : ∀ (fs : List Field) (i : Nat) (xs ys : List Int) (pre pre' : List Value), intsFrom P i fs = true → pre.length = i → pre'.length = i → xs.length = fs.length → ys.length = fs.length →
    (Op.eqFields (d + 1) (pre ++ xs.map (Value.int .i64)).toArray (pre' ++ ys.map (Value.int .i64)).toArray fs).run P w = .ok (decide (xs = ys)) w
  | [], i, xs, ys, pre, pre', _, _, _, hx, hy => by
    have h1 := List.eq_nil_of_length_eq_zero hx
    have h2 := List.eq_nil_of_length_eq_zero hy
    subst h1 h2
    simp [Op.eqFields]
  | f :: fs, i, x :: xs, y :: ys, pre, pre', h, hp, hp', hx, hy => by
    simp only [intsFrom, Bool.and_eq_true, bne_iff_ne] at h
    obtain ⟨hn, ho, hk, hr⟩ := h
    have ho := Nat.eq_of_beq_eq_true ho
    split at hk
    · rename_i hu
      have a1 := part_i64 (P := P) hu (pre ++ (x :: xs).map (Value.int .i64)).toArray f.offset (.int .i64 x) (by simp [ho, ← hp]) w
      have a2 := part_i64 (P := P) hu (pre' ++ (y :: ys).map (Value.int .i64)).toArray f.offset (.int .i64 y) (by simp [ho, ← hp']) w
      have a3 := run_equalIn_int (P := P) w d f.type .i64 .i64 x y hu
      have ih := eqFields_ints d w fs (i + 1) xs ys (pre ++ [.int .i64 x]) (pre' ++ [.int .i64 y]) hr (by simp [hp]) (by simp [hp']) (by simpa using hx) (by simpa using hy)
      simp only [Op.eqFields]
      rw [if_pos hn]
      simp only [Sem.run_bind, a1, a2, a3, Result.andThen_ok]
      by_cases hxy : x = y
      · subst hxy
        simp only [beq_self_eq_true, Bool.not_true, Bool.false_eq_true, if_false]
        simpa using ih
      · have : (x == y) = false := by simpa using hxy
        simp [this, hxy]
    · cases hk
  | f :: fs, i, [], ys, pre, pre', h, hp, hp', hx, hy => by simp at hx
  | f :: fs, i, x :: xs, [], pre, pre', h, hp, hp', hx, hy => by simp at hy
theorem run_equal_ints {t : TypeId} [ht : EqTy P t] (a b : Array Value) (xs ys : List Int) (ha : intsL a.toList = some xs) (hb : intsL b.toList = some ys) (hx : xs.length = (P.fieldsOf t).size) (hy : ys.length = (P.fieldsOf t).size) (w : World) :
    (Op.equalIn 10000 t (.agg a) (.agg b)).run P w = .ok (decide (xs = ys)) w := by
  have ea : a = (([] : List Value) ++ xs.map (Value.int .i64)).toArray := by apply Array.ext'; simpa using intsL_eq _ _ ha
  have eb : b = (([] : List Value) ++ ys.map (Value.int .i64)).toArray := by apply Array.ext'; simpa using intsL_eq _ _ hb
  rw [run_equalIn_struct w 9999 t a b ht.und ht.held, ea, eb]
  exact eqFields_ints 9998 w _ 0 xs ys [] [] ht.ints rfl rfl (by simpa using hx) (by simpa using hy)
end
section
variable {P : Program} {ops : Array Oper} {N : Nat} {e : Env} {Q : Exit → Act → World → Prop} {q : QM} {l : List Oper} {d : Nat} {C : World → Prop} {ty : TypeId} {ps : String} {af : Array Edge} {gu : Option (Nat × Bool)}
theorem LR_neqs {t t' : TypeId} {x y : Operand} {a b : Array Value} {xs ys : List Int} (hg : gd ops e gu = some true) (hN : Nat.blt d N = true) (hx : evO e x = some (.agg a)) (hy : evO e y = some (.agg b)) [ht : EqTy P t] (h1 : intsL a.toList = some xs) (h2 : intsL b.toList = some ys) (h3 : xs.length = (P.fieldsOf t).size) (h4 : ys.length = (P.fieldsOf t).size)
    (hr : RR q P ops N ((d, .bool (!decide (xs = ys))) :: e) C l Q) : RR q P ops N e C (⟨(some d), (.binOp .neq t x y t'), ty, ps, af, gu⟩ :: l) Q :=
  RR_val rfl hg hN (fun ac w hf _ => by
    have h5 := run_equal_ints (P := P) (t := t) a b xs ys h1 h2 h3 h4 w
    have h1 : ((do eqGuard .neq t x y (.agg a) (.agg b); binOp .neq t (.agg a) (.agg b)) : Sem Value).run P w = .ok (.bool (!decide (xs = ys))) w := by
      rw [Sem.run_bind, run_eqGuard_agg w .neq t x y a b ht.guard, Result.andThen_ok, run_neq_struct, h5]
      rfl
    simp only [execOp, hf.ev hx, hf.ev hy]
    rw [Sem.run_bind, h1]; rfl) hr
theorem LR_neqs_same {t t' : TypeId} {x y : Operand} {a : Array Value} {xs : List Int} (hg : gd ops e gu = some true) (hN : Nat.blt d N = true) (hx : evO e x = some (.agg a)) (hy : evO e y = some (.agg a)) [ht : EqTy P t] (h1 : intsL a.toList = some xs) (h3 : xs.length = (P.fieldsOf t).size)
    (hr : RR q P ops N ((d, .bool false) :: e) C l Q) : RR q P ops N e C (⟨(some d), (.binOp .neq t x y t'), ty, ps, af, gu⟩ :: l) Q :=
  LR_neqs hg hN hx hy h1 h1 h3 h3 (by simpa using hr)
end
section
variable {P : Program} {ops : Array Oper} {N : Nat} {e : Env} {Q : Exit → Act → World → Prop} {q : QM} {l : List Oper} {d : Nat} {C : World → Prop} {ty : TypeId} {ps : String} {af : Array Edge} {gu : Option (Nat × Bool)} {w0 : World} {h : List Ent}
/-- a slice of a slice; D: whatever the reading rests on -/
theorem LR_slice_ent {α : Type} {hα : Enc α} {t el : TypeId} {x : Operand} {lo hi : Option Operand} {lo' hi' : Option Value} {z : Value} {b n c : Nat} {A : Option Addr} {xs : List α} (D : World → Prop) (p q' : Nat) (hg : gd ops e gu = some true) (hN : Nat.blt d N = true)
    [ht : SliceTy P t el] {kk : Nat} [he : ElemTy P el z kk b] (hx : evO e x = some (.slice A n c)) (hl : evB e lo = some lo') (hh : evB e hi = some hi') (hs : ∀ w, D w → Sl w (.slice A n c) xs) (hke : kk = Enc.k α) (hnc : n ≤ c)
    (hlo : (lo' = none ∧ p = 0) ∨ lo' = some (.int .i64 (p : Int))) (hhi : (hi' = none ∧ q' = n) ∨ hi' = some (.int .i64 (q' : Int))) (h1 : p ≤ q') (h2 : q' ≤ n)
    (hr : ∀ A1 n1 c1, (∀ w, D w → Sl w (.slice A1 n1 c1) ((xs.take q').drop p)) → RR q P ops N ((d, .slice A1 n1 c1) :: e) C l Q) : RR q P ops N e C (⟨(some d), (.slice t x lo hi none), ty, ps, af, gu⟩ :: l) Q := by
  subst hke
  refine RR_val rfl hg hN (fun a w hf _ => ?_) (hr _ _ _ fun w hw => (hs w hw).cut h1 h2)
  have h := run_sliceAt (P := P) (t := t) A n c lo' hi' p q' hlo hhi h1 h2 hnc w
  have e1 := evB_ok hf lo lo' hl
  have e2 := evB_ok hf hi hi' hh
  simp only [execOp, hf.ev hx, e1, e2, Option.map_none, Sem.run_bind, h, Result.andThen_ok, Sem.run_pure]
/-- a call behind which the world it leaves is the new ground -/
theorem LS_callr {f : Nat} {xs : Array Operand} {ts : Array TypeId} {vs : List Value} {ι : Type} {ok : ι → World → Prop} {val : ι → Value} (hg : gd ops e gu = some true) (hN : Nat.blt d N = true) (hx : evL e xs.toList = some vs) [hk : FnOk P f]
    (hc : ∀ w, Wd w0 h w → Calls P f vs.toArray w (fun x w' => ∃ i, ok i w' ∧ x = .returned (val i) ∧ Wd w [] w')) (hr : ∀ i w1, Wd w0 h w1 → ok i w1 → RR .sq P ops N ((d, val i) :: e) (Wd w1 []) l Q) : RR .sq P ops N e (Wd w0 h) (⟨(some d), (.call { callee := .value (.func f), args := xs, argTypes := ts }), ty, ps, af, gu⟩ :: l) Q :=
  RS_call (R := fun w x w' => ∃ i, ok i w' ∧ x = .returned (val i) ∧ Wd w [] w') rfl hg hx hc fun w x w' hw ⟨i, h1, h2, h3⟩ => ⟨val i, h2, fun a hf => hr i w' (by simpa using hw.call h3) h1 _ w' (hf.put hN _) (Wd.refl w')⟩
theorem ret_boolr {fn : Func} {w1 : World} {h0 : List Ent} {t : Nat} {b b' : Bool} (h01 : Wd w0 h0 w1) (hr : fn.results = #[.tmp t]) (hv : look e t = some (.bool b')) (hb : b' = b) : Post N e (Wd w1 h) .ret (bodyPost P fn (Gives (.bool b) w0)) :=
  post_ret1 hr hv fun _ hw => ⟨by rw [hb], h01.below.trans (hw.below.mono h01.size)⟩
end
/-- own blocks by their places, one after the other (each place is counted among those that are left) -/
def pickL : List Nat → List Ent → Option (List Ent)
  | [], _ => some []
  | i :: is, h => match pull i h with
    | some (x, r) => match pickL is r with
      | some t => some (x :: t)
      | none => none
    | none => none
theorem pickL_sub : ∀ (is : List Nat) (h h' : List Ent), pickL is h = some h' → ∃ l, h.Perm l ∧ h'.Sublist l
  | [], h, h', e => by simp only [pickL, Option.some.injEq] at e; subst e; exact ⟨h, List.Perm.refl _, List.nil_sublist _⟩
  | i :: is, h, h', e => by
    simp only [pickL] at e
    split at e
    · rename_i x r hp
      split at e
      · rename_i t ht
        simp only [Option.some.injEq] at e
        subst e
        obtain ⟨l, h1, h2⟩ := pickL_sub is r t ht
        exact ⟨x :: l, (pull_perm _ _ _ _ hp).trans (h1.cons x), h2.cons_cons x⟩
      · cases e
    · cases e
theorem Wd.picks {w0 w : World} {h h' : List Ent} (hw : Wd w0 h w) (is : List Nat) (e : pickL is h = some h') : Wd w0 h' w := by
  obtain ⟨l, h1, h2⟩ := pickL_sub is h h' e
  exact (hw.perm h1).sub h2
/-- own blocks in another order: those at the places first, then the others -/
def pickR : List Nat → List Ent → Option (List Ent)
  | [], h => some h
  | i :: is, h => match pull i h with
    | some (x, r) => match pickR is r with
      | some t => some (x :: t)
      | none => none
    | none => none
theorem pickR_perm : ∀ (is : List Nat) (h h' : List Ent), pickR is h = some h' → h.Perm h'
  | [], h, h', e => by simp only [pickR, Option.some.injEq] at e; subst e; exact List.Perm.refl _
  | i :: is, h, h', e => by
    simp only [pickR] at e
    split at e
    · rename_i x r hp
      split at e
      · rename_i t ht
        simp only [Option.some.injEq] at e
        subst e
        exact (pull_perm _ _ _ _ hp).trans ((pickR_perm is r t ht).cons x)
      · cases e
    · cases e
theorem Wd.reord {w0 w : World} {h h' : List Ent} (hw : Wd w0 h w) (is : List Nat) (e : pickR is h = some h') : Wd w0 h' w := hw.perm (pickR_perm is h h' e)
theorem mem_bd {x : Int} {xs : List Int} (h : x ∈ xs) (lo hi : Int) (hb : (xs.all fun y => decide (lo ≤ y) && decide (y ≤ hi)) = true) : lo ≤ x ∧ x ≤ hi := by
  have := List.all_eq_true.1 hb x h
  simpa using this
end Go.Proofs.YtbgfkhliideegaaGreat
