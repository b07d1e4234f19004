/- Storing into a list that lies in cells. No condition beyond those that each theorem states. -/
import Derived.Test.YtgklapdlambdlaaTy
namespace Go.Proofs.Ytgklapdlambdlaa
open Go.RowKit
theorem forceL_some : ∀ l : List Value, forceL l = some l
  | [] => rfl
  | x :: l => by simp only [forceL, forceL_some l]
theorem putF_some : ∀ (l : List Value) (n : Nat) (vs : List Value), n + vs.length ≤ l.length → putF l n vs = some (l.take n ++ vs ++ l.drop (n + vs.length))
  | l, 0, [], _ => by unfold putF; simp [forceL_some]
  | [], 0, _ :: _, h => by simp at h
  | x :: l, 0, v :: vs, h => by
    have ih := putF_some l 0 vs (by simp only [List.length_cons] at h; omega)
    unfold putF
    simp only [ih]
    simp
  | [], n + 1, vs, h => by simp at h
  | x :: l, n + 1, vs, h => by
    have ih := putF_some l n vs (by simp only [List.length_cons] at h; omega)
    unfold putF
    simp only [ih]
    simp [show n + 1 + vs.length = n + vs.length + 1 from by omega]
section
variable {α : Type} [Enc α]
theorem putF_set (xs : List α) (k : Nat) (u : α) (hk : k < xs.length) : putF (flat xs) (k * Enc.k α) (Enc.enc u) = some (flat (xs.set k u)) := by
  have h1 : k * Enc.k α + Enc.k α ≤ xs.length * Enc.k α := by
    rw [← Nat.succ_mul]; exact Nat.mul_le_mul_right _ hk
  rw [putF_some _ _ _ (by rw [flat_length, Enc.len]; exact h1), flat_set hk, Enc.len]
theorem putF_fld (xs : List α) (k : Nat) (u u' : α) (o : Nat) (v : Value) (hk : xs[k]? = some u) (ho : o < Enc.k α) (hu : Enc.enc u' = (Enc.enc u).take o ++ [v] ++ (Enc.enc u).drop (o + 1)) : putF (flat xs) (k * Enc.k α + o) [v] = some (flat (xs.set k u')) := by
  have hlt := (List.getElem?_eq_some_iff.1 hk).1
  have h1 : k * Enc.k α + Enc.k α ≤ xs.length * Enc.k α := by
    rw [← Nat.succ_mul]; exact Nat.mul_le_mul_right _ hlt
  have h2 : xs.take k ++ u :: xs.drop (k + 1) = xs := by
    have := List.take_append_drop k xs
    rw [List.drop_eq_getElem_cons hlt, (List.getElem?_eq_some_iff.1 hk).2] at this
    exact this
  have h3 : (flat (xs.take k)).length = k * Enc.k α := by rw [flat_length, List.length_take, Nat.min_eq_left (Nat.le_of_lt hlt)]
  have h4 : flat xs = flat (xs.take k) ++ Enc.enc u ++ flat (xs.drop (k + 1)) := by
    conv => lhs; rw [← h2, flat_append, flat_cons, ← List.append_assoc]
  have h5 : xs.set k u' = xs.take k ++ u' :: xs.drop (k + 1) := by rw [List.set_eq_take_append_cons_drop, if_pos hlt]
  rw [putF_some _ _ _ (by rw [flat_length]; simp only [List.length_cons, List.length_nil]; omega), h5, flat_append, flat_cons, hu, h4]
  have e1 : (flat (xs.take k) ++ Enc.enc u ++ flat (xs.drop (k + 1))).take (k * Enc.k α + o) = flat (xs.take k) ++ (Enc.enc u).take o := by
    rw [List.append_assoc, List.take_append, h3, List.take_of_length_le (by omega), Nat.add_sub_cancel_left, List.take_append_of_le_length (by rw [Enc.len]; omega)]
  have e2 : (flat (xs.take k) ++ Enc.enc u ++ flat (xs.drop (k + 1))).drop (k * Enc.k α + o + 1) = (Enc.enc u).drop (o + 1) ++ flat (xs.drop (k + 1)) := by
    rw [List.append_assoc, List.drop_append, h3, List.drop_eq_nil_of_le (by omega), List.nil_append, show k * Enc.k α + o + 1 - k * Enc.k α = o + 1 from by omega, List.drop_append_of_le_length (by rw [Enc.len]; omega)]
  rw [e1, List.length_singleton, e2]
  simp
end
section
variable {P : Program} {N : Nat} {e : Env} {w0 : World} {h r : List Ent}
/-- a result that lies in a cell of the call's own, of an aggregate -/
theorem post_ret_cell {fn : Func} {R : Ending → World → Prop} {a : Nat} {t T : TypeId} {n g tot off : Nat} {cs us : List Value} (i : Nat) (hr : fn.results = #[.cell a t]) (hp : look e a = some (.pointer (some ⟨g, off, none⟩))) [ht : AggTy P t n]
    (hpl : pull i h = some (⟨g, T, tot, cs⟩, r)) (hv : takeF (dropN cs off) n = some us) (hR : ∀ w, Wd w0 h w → R (.returned (.agg us.toArray)) w) : Post N e (Wd w0 h) .ret (bodyPost P fn R) := by
  refine post_ret (vs := [.agg us.toArray]) ?_ rfl hR
  rw [hr]
  refine ⟨⟨_, hp, fun w hw => ?_⟩, trivial⟩
  obtain ⟨h1, h2⟩ := takeF_eq _ _ _ hv
  rw [dropN_eq] at h1
  have h3 := ((hw.perm (pull_perm _ _ _ _ hpl)).head.pt off).take n
  rw [h1] at h3
  exact run_load_agg h2 h3
end
/-- an own block reads as the list that lies in it -/
theorem own_sl {α : Type} [Enc α] {w0 w : World} {H r : List Ent} {g T tot n c : Nat} {cs : List Value} {xs : List α} (i : Nat) (hw : Wd w0 H w) (hp : pull i H = some (⟨g, T, tot, cs⟩, r)) (hcs : cs = flat xs) (hn : n = xs.length) (hc : n ≤ c) (hm : c ≤ maxLen) : Sl w (.slice (some ⟨g, 0, none⟩) n c) xs := by
  subst hn
  exact (hw.perm (pull_perm _ _ _ _ hp)).head.sl hcs rfl hc hm
end Go.Proofs.Ytgklapdlambdlaa
