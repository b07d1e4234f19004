/- The walks of the helpers that turn, compare, measure and mark spans, guards and rules. No condition beyond those that each theorem states. -/
import Derived.Test.YtbgfkhliideegaaGreatWRu2
import Derived.Test.YtbgfkhliideegaaGreatReg
namespace Go.Proofs.YtbgfkhliideegaaGreat
open Go.RowKit
attribute [local irreducible] Calls
def reG (g : Gd) (b : Nat) : Gd := ⟨g.tot, some ⟨b, 0, none⟩, g.cs.length, g.cs.length, g.cs, g.cp⟩
def reR (r : Ru) (b : Nat) : Ru := ⟨r.num, r.lev, r.rank, r.grp, r.kind, r.val, r.cap, reG r.g b⟩
theorem reG_eq (g : Gd) (b : Nat) : EqG g (reG g b) := ⟨rfl, rfl, rfl⟩
theorem reR_eq (r : Ru) (b : Nat) : EqR r (reR r b) := ⟨rfl, rfl, rfl, rfl, rfl, rfl, rfl, reG_eq _ _⟩
theorem EqR.trans {a b c : Ru} (h : EqR a b) (h' : EqR b c) : EqR a c := by
  obtain ⟨e1, e2, e3, e4, e5, e6, e7, e8, e9, e10⟩ := h
  obtain ⟨f1, f2, f3, f4, f5, f6, f7, f8, f9, f10⟩ := h'
  exact ⟨e1.trans f1, e2.trans f2, e3.trans f3, e4.trans f4, e5.trans f5, e6.trans f6, e7.trans f7, e8.trans f8, e9.trans f9, e10.trans f10⟩
theorem EqL.trans {a b c : List Ru} (h : EqL a b) (h' : EqL b c) : EqL a c := by
  refine ⟨h.1.trans h'.1, fun j r r' hr hr' => ?_⟩
  have hj : j < b.length := by rw [← h.1]; exact (List.getElem?_eq_some_iff.1 hr).1
  have hb := List.getElem?_eq_getElem hj
  exact (h.2 j r _ hr hb).trans (h'.2 j _ r' hb hr')
theorem reG_ok {w0 w : World} {H r : List Ent} {b : Nat} {g : Gd} (i : Nat) (hw : Wd w0 H w) (hp : pull i H = some (spE b g.cs.length g.cs, r)) (hl : g.cs.length ≤ maxLen) : GOk w (reG g b) :=
  own_sl i hw hp rfl rfl (Nat.le_refl _) hl
theorem toSpan_ok (s : Sp) (w : World) : Calls Tryz.prog 137 #[spV s] w (Gives (spV s) w) := by
  refine enter (vs := [spV s]) Tryz.func137 rfl Tryz.ntmps137 rfl ?_
  repeat' first | ((with_reducible apply CS_seq)) | ((with_reducible apply CS_region)) | ((with_reducible apply RR_end)) | ((with_reducible apply LR_field_own); exact rfl; exact rfl; exact rfl) | ((with_reducible apply LR_load_own 2); exact rfl; exact rfl; exact rfl; exact rfl; exact rfl) | ((with_reducible apply LR_load_own_agg 0); exact rfl; exact rfl; exact rfl; exact rfl; exact rfl) | ((with_reducible apply LS_alloc); exact rfl; exact rfl; exact rfl; intro _) | ((with_reducible apply LS_box); exact rfl; exact rfl; exact rfl; exact rfl; intro _) | ((with_reducible apply LS_store1 0); exact rfl; exact rfl; exact rfl; exact rfl; exact rfl; exact rfl) | ((with_reducible apply LS_store_agg 1); exact rfl; exact rfl; exact rfl; exact rfl; exact rfl; exact rfl; exact rfl; exact rfl) | ((with_reducible apply post_seq)) | ((with_reducible apply CS_ret))
  refine post_ret_cell 0 rfl rfl rfl rfl fun w' hw' => ?_
  exact ⟨rfl, hw'.below⟩
theorem toSpanS_ok (v : Value) (l : List Sp) (w : World) (hs : Sl w v l) (hl : l.length ≤ 1048576) : Calls Tryz.prog 138 #[v] w (fun x w' => ∃ g : Nat, True ∧ x = .returned (.slice (some ⟨g, 0, none⟩) l.length l.length) ∧ Wd w [spE g l.length l] w') := by
  refine enter (vs := [v]) Tryz.func138 rfl Tryz.ntmps138 rfl ?_
  repeat' first | ((with_reducible apply (LS_make l.length (⟨0, 0⟩ : Sp))); exact rfl; exact rfl; exact rfl; exact rfl; exact rfl; exact rfl; exact rfl; omega; (unfold maxLen; omega); intro g) | ((with_reducible apply CS_seq)) | ((with_reducible apply CS_block)) | ((with_reducible apply CS_region)) | ((with_reducible apply RR_end)) | ((with_reducible apply LR_pure); exact rfl; exact rfl; exact rfl) | ((with_reducible apply LR_len_sl); exact rfl; exact rfl; exact rfl; assumption) | ((with_reducible apply post_seq))
  refine CS_loop (ι := Int) (fun i => [(0, v), (3, .slice (some ⟨g, 0, none⟩) l.length l.length), (4, .int .i64 i)]) (fun i => Wd w [spE g l.length (mix l (List.replicate l.length ⟨0, 0⟩) i.toNat)]) (fun i => 0 ≤ i ∧ i ≤ l.length) (fun i => (l.length - i).toNat) 0 ⟨by omega, by omega⟩ ⟨rfl, rfl, rfl, trivial⟩ (fun _ hw => by rw [show (0 : Int).toNat = 0 from rfl, mix_zero]; exact hw) ?_
  rintro i ⟨h0, h1⟩
  obtain ⟨k, rfl⟩ : ∃ k : Nat, i = k := ⟨i.toNat, by omega⟩
  simp only [Int.toNat_natCast]
  by_cases hi : k < l.length
  · obtain ⟨c, hc⟩ : ∃ c, l[k]? = some c := ⟨_, List.getElem?_eq_getElem hi⟩
    repeat' first | ((with_reducible apply (LR_call (f := 137))); exact rfl; exact rfl; exact rfl; exact fun w hw => toSpan_ok c w) | ((with_reducible apply (LR_index_old (k))); exact rfl; exact rfl; exact rfl; exact rfl; exact hs; omega; exact hc; exact rfl; intro _ _) | ((with_reducible apply (LR_index_own k)); exact rfl; exact rfl; exact rfl; exact rfl; omega; omega) | ((with_reducible apply (LS_store_agg 0)); exact rfl; exact rfl; exact rfl; exact rfl; exact rfl; exact rfl; exact rfl; exact putF_set (mix l (List.replicate l.length ⟨0, 0⟩) k) k c (by rw [mix_len (by simp)]; simpa using hi)) | ((with_reducible apply CS_seq)) | ((with_reducible apply CS_block)) | ((with_reducible apply CS_region)) | ((with_reducible apply RR_end)) | ((with_reducible apply LR_pure); exact rfl; exact rfl; exact rfl) | ((with_reducible apply LR_add); exact rfl; exact rfl; exact rfl; exact rfl; omega; omega) | ((with_reducible apply LR_load_old_agg); exact rfl; exact rfl; exact rfl; assumption; exact rfl) | ((with_reducible apply LR_len_sl); exact rfl; exact rfl; exact rfl; assumption) | ((with_reducible apply post_seq)) | ((with_reducible apply post_block_n)) | ((with_reducible apply CS_skip)) | ((with_reducible apply CS_cond_d); exact rfl; all_goals intro hb; all_goals try (exfalso; omega))
    refine post_round (i := (k : Int)) ((k : Int) + 1) ⟨by omega, by omega⟩ (by omega) ⟨rfl, rfl, rfl, trivial⟩ (fun _ hw => ?_)
    rw [mix_set (by simp) hc] at hw
    exact hw
  · have he : k = l.length := by omega
    repeat' first | ((with_reducible apply CS_seq)) | ((with_reducible apply CS_region)) | ((with_reducible apply RR_end)) | ((with_reducible apply LR_pure); exact rfl; exact rfl; exact rfl) | ((with_reducible apply LR_len_sl); exact rfl; exact rfl; exact rfl; assumption) | ((with_reducible apply post_seq)) | ((with_reducible apply post_then_exit)) | ((with_reducible apply post_block_eq)) | ((with_reducible apply CS_ret)) | ((with_reducible apply CS_exit)) | ((with_reducible apply CS_cond_d); exact rfl; all_goals intro hb; all_goals try (exfalso; omega))
    apply post_ret1; exact rfl; exact rfl; intro w' hw'; refine ⟨g, trivial, rfl, ?_⟩
    have hf : mix l (List.replicate l.length ⟨0, 0⟩) k = l := by
      rw [he]; have := mix_end (m := l) (l := List.replicate l.length (⟨0, 0⟩ : Sp)) (by simp)
      simpa using this
    rw [hf] at hw'
    exact hw'
theorem toGuard_ok (g : Gd) (w : World) (hg : GOk w g) (hl : g.cs.length ≤ 1048576) : Calls Tryz.prog 104 #[gdV g] w (fun x w' => ∃ b : Nat, True ∧ x = .returned (gdV (reG g b)) ∧ Wd w [spE b g.cs.length g.cs] w') := by
  refine enter (vs := [gdV g]) Tryz.func104 rfl Tryz.ntmps104 rfl ?_
  repeat' first | ((with_reducible apply (LR_call (f := 137))); exact rfl; exact rfl; exact rfl; exact fun w hw => toSpan_ok g.tot w) | ((with_reducible apply (LS_callx (f := 138))); exact rfl; exact rfl; exact rfl; exact fun w hw => toSpanS_ok _ g.cs w (hg.mono hw) hl; rintro b _) | ((with_reducible apply CS_seq)) | ((with_reducible apply CS_region)) | ((with_reducible apply RR_end)) | ((with_reducible apply LR_field_own); exact rfl; exact rfl; exact rfl) | ((with_reducible apply LR_load_own 2); exact rfl; exact rfl; exact rfl; exact rfl; exact rfl) | ((with_reducible apply LR_load_own 3); exact rfl; exact rfl; exact rfl; exact rfl; exact rfl) | ((with_reducible apply LR_load_own_agg 0); exact rfl; exact rfl; exact rfl; exact rfl; exact rfl) | ((with_reducible apply LR_load_own_agg 2); exact rfl; exact rfl; exact rfl; exact rfl; exact rfl) | ((with_reducible apply LS_alloc); exact rfl; exact rfl; exact rfl; intro _) | ((with_reducible apply LS_box); exact rfl; exact rfl; exact rfl; exact rfl; intro _) | ((with_reducible apply LS_store1 0); exact rfl; exact rfl; exact rfl; exact rfl; exact rfl; exact rfl) | ((with_reducible apply LS_store1 1); exact rfl; exact rfl; exact rfl; exact rfl; exact rfl; exact rfl) | ((with_reducible apply LS_store_agg 0); exact rfl; exact rfl; exact rfl; exact rfl; exact rfl; exact rfl; exact rfl; exact rfl) | ((with_reducible apply LS_store_agg 2); exact rfl; exact rfl; exact rfl; exact rfl; exact rfl; exact rfl; exact rfl; exact rfl) | ((with_reducible apply post_seq)) | ((with_reducible apply CS_ret))
  refine post_ret_cell 0 rfl rfl rfl rfl fun w' hw' => ?_
  exact ⟨b, trivial, rfl, by first | exact hw'.picks [2] rfl | exact hw'.picks [1] rfl | exact hw'.picks [3] rfl⟩
theorem toRule_ok (r : Ru) (w : World) (hg : ROk w r) (hl : r.g.cs.length ≤ 1048576) : Calls Tryz.prog 69 #[ruV r] w (fun x w' => ∃ b : Nat, True ∧ x = .returned (ruV (reR r b)) ∧ Wd w [spE b r.g.cs.length r.g.cs] w') := by
  refine enter (vs := [ruV r]) Tryz.func69 rfl Tryz.ntmps69 rfl ?_
  repeat' first | ((with_reducible apply (LS_callx (f := 104))); exact rfl; exact rfl; exact rfl; exact fun w hw => toGuard_ok r.g w (hg.mono hw) hl; rintro b _) | ((with_reducible apply CS_seq)) | ((with_reducible apply CS_region)) | ((with_reducible apply RR_end)) | ((with_reducible apply LR_field_own); exact rfl; exact rfl; exact rfl) | ((with_reducible apply LR_load_own 2); exact rfl; exact rfl; exact rfl; exact rfl; exact rfl) | ((with_reducible apply LR_load_own_agg 0); exact rfl; exact rfl; exact rfl; exact rfl; exact rfl) | ((with_reducible apply LR_load_own_agg 2); exact rfl; exact rfl; exact rfl; exact rfl; exact rfl) | ((with_reducible apply LS_alloc); exact rfl; exact rfl; exact rfl; intro _) | ((with_reducible apply LS_box); exact rfl; exact rfl; exact rfl; exact rfl; intro _) | ((with_reducible apply LS_store1 0); exact rfl; exact rfl; exact rfl; exact rfl; exact rfl; exact rfl) | ((with_reducible apply LS_store_agg 1); exact rfl; exact rfl; exact rfl; exact rfl; exact rfl; exact rfl; exact rfl; exact rfl) | ((with_reducible apply LS_store_agg 2); exact rfl; exact rfl; exact rfl; exact rfl; exact rfl; exact rfl; exact rfl; exact rfl) | ((with_reducible apply post_seq)) | ((with_reducible apply CS_ret))
  refine post_ret_cell 0 rfl rfl rfl rfl fun w' hw' => ?_
  exact ⟨b, trivial, rfl, by first | exact hw'.picks [2] rfl | exact hw'.picks [1] rfl | exact hw'.picks [3] rfl⟩
theorem eqSpan_ok (s : Sp) (w : World) : Calls Tryz.prog 139 #[spV s, spV s] w (Gives (.bool true) w) := by
  refine enter (vs := [spV s, spV s]) Tryz.func139 rfl Tryz.ntmps139 rfl ?_
  repeat' first | ((with_reducible apply CS_seq)) | ((with_reducible apply CS_region)) | ((with_reducible apply RR_end)) | ((with_reducible apply LR_pure); exact rfl; exact rfl; exact rfl) | ((with_reducible apply LR_field_own); exact rfl; exact rfl; exact rfl) | ((with_reducible apply LR_load_own 0); exact rfl; exact rfl; exact rfl; exact rfl; exact rfl) | ((with_reducible apply LR_load_own 1); exact rfl; exact rfl; exact rfl; exact rfl; exact rfl) | ((with_reducible apply LS_box); exact rfl; exact rfl; exact rfl; exact rfl; intro _) | ((with_reducible apply post_seq)) | ((with_reducible apply CS_skip)) | ((with_reducible apply CS_ret)) | ((with_reducible apply CS_cond_nd); exact rfl; all_goals intro hb; all_goals try (exfalso; omega))
  all_goals first | (exfalso; contradiction) | (exfalso; omega) | (exfalso; simp at hb <;> omega) | skip
  all_goals (apply ret_bool; exact rfl; exact rfl; rfl)
theorem eqSpanS_ok (v v' : Value) (l : List Sp) (w : World) (hs : Sl w v l) (hs' : Sl w v' l) : Calls Tryz.prog 140 #[v, v'] w (Gives (.bool true) w) := by
  have hlen := hs.len
  simp only [maxLen] at hlen
  refine enter (vs := [v, v']) Tryz.func140 rfl Tryz.ntmps140 rfl ?_
  repeat' first | ((with_reducible apply LR_len_sl); exact rfl; exact rfl; exact rfl; exact hs) | ((with_reducible apply LR_len_sl); exact rfl; exact rfl; exact rfl; exact hs') | ((with_reducible apply CS_seq)) | ((with_reducible apply CS_block)) | ((with_reducible apply CS_region)) | ((with_reducible apply RR_end)) | ((with_reducible apply LR_pure); exact rfl; exact rfl; exact rfl) | ((with_reducible apply post_seq)) | ((with_reducible apply CS_skip)) | ((with_reducible apply CS_cond_nd); exact rfl; all_goals intro hb; all_goals try (exfalso; omega))
  all_goals first | (exfalso; contradiction) | (exfalso; omega) | (exfalso; simp at hb <;> omega) | skip
  refine CS_loop (ι := Int) (fun i => [(0, v), (1, v'), (5, .int .i64 i)]) (fun _ => Wd w []) (fun i => 0 ≤ i ∧ i ≤ l.length) (fun i => (l.length - i).toNat) 0 ⟨by omega, by omega⟩ ⟨rfl, rfl, rfl, trivial⟩ (fun _ hw => hw) ?_
  rintro i ⟨h0, h1⟩
  obtain ⟨k, hk⟩ : ∃ k : Nat, i = k := ⟨i.toNat, by omega⟩
  by_cases hi : k < l.length
  · obtain ⟨c, hc⟩ : ∃ c, l[k]? = some c := ⟨_, List.getElem?_eq_getElem hi⟩
    repeat' first | ((with_reducible apply (LR_call (f := 139))); exact rfl; exact rfl; exact rfl; exact fun w hw => eqSpan_ok _ w) | ((with_reducible apply (LR_index_old (k))); exact rfl; exact rfl; exact rfl; exact rfl; exact hs; omega; exact hc; exact rfl; intro _ _) | ((with_reducible apply (LR_index_old (k))); exact rfl; exact rfl; exact rfl; exact rfl; exact hs'; omega; exact hc; exact rfl; intro _ _) | ((with_reducible apply CS_seq)) | ((with_reducible apply CS_block)) | ((with_reducible apply CS_region)) | ((with_reducible apply CS_regionq_wd); kernel_rfl; kernel_rfl) | ((with_reducible apply RR_end)) | ((with_reducible apply LR_pure); exact rfl; exact rfl; exact rfl) | ((with_reducible apply LR_add); exact rfl; exact rfl; exact rfl; exact rfl; omega; omega) | ((with_reducible apply LR_load_old_agg); exact rfl; exact rfl; exact rfl; assumption; exact rfl) | ((with_reducible apply LR_len_sl); exact rfl; exact rfl; exact rfl; assumption) | ((with_reducible apply post_seq)) | ((with_reducible apply post_block_n)) | ((with_reducible apply CS_skip)) | ((with_reducible apply CS_cond_f); exact rfl) | ((with_reducible apply CS_cond_d); exact rfl; all_goals intro hb; all_goals try (exfalso; omega))
    all_goals first | (exfalso; contradiction) | (exfalso; omega) | (exfalso; simp at hb <;> omega) | skip
    exact post_round (i := i) (i + 1) ⟨by omega, by omega⟩ (by omega) ⟨rfl, rfl, rfl, trivial⟩ (fun _ hw => hw.nil)
  · skip
    repeat' first | ((with_reducible apply LR_len_sl); exact rfl; exact rfl; exact rfl; exact hs) | ((with_reducible apply CS_seq)) | ((with_reducible apply CS_region)) | ((with_reducible apply RR_end)) | ((with_reducible apply LR_pure); exact rfl; exact rfl; exact rfl) | ((with_reducible apply post_seq)) | ((with_reducible apply post_then_exit)) | ((with_reducible apply post_block_eq)) | ((with_reducible apply CS_ret)) | ((with_reducible apply CS_exit)) | ((with_reducible apply CS_cond_d); exact rfl; all_goals intro hb; all_goals try (exfalso; omega))
    apply ret_bool; exact rfl; exact rfl; rfl
theorem eqGuard_ok (g g' : Gd) (w : World) (hg : GOk w g) (hg' : GOk w g') (he : EqG g g') : Calls Tryz.prog 105 #[gdV g, gdV g'] w (Gives (.bool true) w) := by
  obtain ⟨t, A, n, c, cs, cp⟩ := g
  obtain ⟨t', A', n', c', cs', cp'⟩ := g'
  obtain ⟨e1, e2, e3⟩ := he
  dsimp only at e1 e2 e3
  subst e1 e2 e3
  refine enter (vs := [_, _]) Tryz.func105 rfl Tryz.ntmps105 rfl ?_
  repeat' first | ((with_reducible apply (LR_call (f := 139))); exact rfl; exact rfl; exact rfl; exact fun w hw => eqSpan_ok t w) | ((with_reducible apply (LR_call (f := 140))); exact rfl; exact rfl; exact rfl; exact fun w hw => eqSpanS_ok _ _ cs w (hg.mono hw) (hg'.mono hw)) | ((with_reducible apply CS_seq)) | ((with_reducible apply CS_region)) | ((with_reducible apply RR_end)) | ((with_reducible apply LR_pure); exact rfl; exact rfl; exact rfl) | ((with_reducible apply LR_field_own); exact rfl; exact rfl; exact rfl) | ((with_reducible apply LR_load_own 0); exact rfl; exact rfl; exact rfl; exact rfl; exact rfl) | ((with_reducible apply LR_load_own 1); exact rfl; exact rfl; exact rfl; exact rfl; exact rfl) | ((with_reducible apply LR_load_own_agg 0); exact rfl; exact rfl; exact rfl; exact rfl; exact rfl) | ((with_reducible apply LR_load_own_agg 1); exact rfl; exact rfl; exact rfl; exact rfl; exact rfl) | ((with_reducible apply LS_box); exact rfl; exact rfl; exact rfl; exact rfl; intro _) | ((with_reducible apply post_seq)) | ((with_reducible apply post_then_ret)) | ((with_reducible apply CS_skip)) | ((with_reducible apply CS_ret)) | ((with_reducible apply CS_cond_f); exact rfl) | ((with_reducible apply CS_cond_nd); exact rfl; all_goals intro hb; all_goals try (exfalso; omega))
  all_goals first | (exfalso; contradiction) | (exfalso; omega) | (exfalso; simp at hb <;> omega) | skip
  all_goals (apply ret_bool; exact rfl; exact rfl; rfl)
theorem eqRule_ok (r r' : Ru) (w : World) (hg : ROk w r) (hg' : ROk w r') (he : EqR r r') : Calls Tryz.prog 72 #[ruV r, ruV r'] w (Gives (.bool true) w) := by
  obtain ⟨e1, e2, e3, e4, e5, e6, e7, e8⟩ := he
  refine enter (vs := [ruV r, ruV r']) Tryz.func72 rfl Tryz.ntmps72 rfl ?_
  repeat' first | ((with_reducible apply (LR_call (f := 105))); exact rfl; exact rfl; exact rfl; exact fun w hw => eqGuard_ok r.g r'.g w (hg.mono hw) (hg'.mono hw) e8) | ((with_reducible apply CS_seq)) | ((with_reducible apply CS_region)) | ((with_reducible apply RR_end)) | ((with_reducible apply LR_pure); exact rfl; exact rfl; exact rfl) | ((with_reducible apply LR_field_own); exact rfl; exact rfl; exact rfl) | ((with_reducible apply LR_load_own 0); exact rfl; exact rfl; exact rfl; exact rfl; exact rfl) | ((with_reducible apply LR_load_own 1); exact rfl; exact rfl; exact rfl; exact rfl; exact rfl) | ((with_reducible apply LR_load_own_agg 0); exact rfl; exact rfl; exact rfl; exact rfl; exact rfl) | ((with_reducible apply LR_load_own_agg 1); exact rfl; exact rfl; exact rfl; exact rfl; exact rfl) | ((with_reducible apply LS_box); exact rfl; exact rfl; exact rfl; exact rfl; intro _) | ((with_reducible apply post_seq)) | ((with_reducible apply CS_skip)) | ((with_reducible apply CS_ret)) | ((with_reducible apply CS_cond_f); exact rfl) | ((with_reducible apply CS_cond_nd); exact rfl; all_goals intro hb; all_goals try (exfalso; omega))
  all_goals first | (exfalso; contradiction) | (exfalso; omega) | (exfalso; simp at hb <;> omega) | skip
  all_goals (apply ret_bool; exact rfl; exact rfl; rfl)
/-- what a measure tells: that it is over, or that all is small -/
def szOk (left : Int) (len : Nat) (n : Int) : Prop := n = -1 ∨ (0 ≤ n ∧ n ≤ left ∧ len ≤ left)
theorem szSpanS_ok (v : Value) (l : List Sp) (left : Int) (w : World) (hs : Sl w v l) (h1 : 0 ≤ left) (h2 : left ≤ 1000000000) : Calls Tryz.prog 136 #[v, .int .i64 left] w (fun x w' => ∃ n : Int, szOk left l.length n ∧ x = .returned (.int .i64 n) ∧ Wd w [] w') := by
  have hlen := hs.len
  simp only [maxLen] at hlen
  refine enter (vs := [v, .int .i64 left]) Tryz.func136 rfl Tryz.ntmps136 rfl ?_
  repeat' first | ((with_reducible apply LR_len_sl); exact rfl; exact rfl; exact rfl; exact hs) | ((with_reducible apply CS_seq)) | ((with_reducible apply CS_region)) | ((with_reducible apply RR_end)) | ((with_reducible apply LR_pure); exact rfl; exact rfl; exact rfl) | ((with_reducible apply LR_sub); exact rfl; exact rfl; exact rfl; exact rfl; omega; omega) | ((with_reducible apply post_seq)) | ((with_reducible apply post_then_ret)) | ((with_reducible apply CS_skip)) | ((with_reducible apply CS_ret)) | ((with_reducible apply CS_cond_d); exact rfl; all_goals intro hb; all_goals try (exfalso; omega))
  all_goals (apply post_ret1; exact rfl; exact rfl; intro w' hw'; exact ⟨_, by unfold szOk; omega, rfl, hw'⟩)
theorem szGuard_ok (g : Gd) (left : Int) (w : World) (hg : GOk w g) (h1 : 0 ≤ left) (h2 : left ≤ 1000000000) : Calls Tryz.prog 103 #[gdV g, .int .i64 left] w (fun x w' => ∃ n : Int, szOk left g.cs.length n ∧ x = .returned (.int .i64 n) ∧ Wd w [] w') := by
  refine enter (vs := [gdV g, .int .i64 left]) Tryz.func103 rfl Tryz.ntmps103 rfl ?_
  repeat' first | ((with_reducible apply (LS_callx (f := 136))); exact rfl; exact rfl; exact rfl; exact fun w hw => szSpanS_ok _ g.cs left w (hg.mono hw) h1 h2; rintro n hn) | ((with_reducible apply CS_seq)) | ((with_reducible apply CS_region)) | ((with_reducible apply RR_end)) | ((with_reducible apply LR_pure); exact rfl; exact rfl; exact rfl) | ((with_reducible apply LR_field_own); exact rfl; exact rfl; exact rfl) | ((with_reducible apply LR_load_own 0); exact rfl; exact rfl; exact rfl; exact rfl; exact rfl) | ((with_reducible apply LS_box); exact rfl; exact rfl; exact rfl; exact rfl; intro _) | ((with_reducible apply post_seq)) | ((with_reducible apply post_then_ret)) | ((with_reducible apply CS_skip)) | ((with_reducible apply CS_ret)) | ((with_reducible apply CS_cond_d); exact rfl; all_goals intro hb; all_goals try (exfalso; omega))
  all_goals unfold szOk at hn
  all_goals (apply post_ret1; exact rfl; exact rfl; intro w' hw'; exact ⟨_, by unfold szOk; omega, rfl, hw'.nil⟩)
theorem szRule_ok (r : Ru) (left : Int) (w : World) (hg : ROk w r) (h1 : 0 ≤ left) (h2 : left ≤ 1000000000) : Calls Tryz.prog 66 #[ruV r, .int .i64 left] w (fun x w' => ∃ n : Int, szOk left r.g.cs.length n ∧ x = .returned (.int .i64 n) ∧ Wd w [] w') := by
  refine enter (vs := [ruV r, .int .i64 left]) Tryz.func66 rfl Tryz.ntmps66 rfl ?_
  repeat' first | ((with_reducible apply (LS_callx (f := 103))); exact rfl; exact rfl; exact rfl; exact fun w hw => szGuard_ok r.g left w (hg.mono hw) h1 h2; rintro n hn) | ((with_reducible apply CS_seq)) | ((with_reducible apply CS_region)) | ((with_reducible apply RR_end)) | ((with_reducible apply LR_pure); exact rfl; exact rfl; exact rfl) | ((with_reducible apply LR_field_own); exact rfl; exact rfl; exact rfl) | ((with_reducible apply LR_load_own_agg 0); exact rfl; exact rfl; exact rfl; exact rfl; exact rfl) | ((with_reducible apply LS_box); exact rfl; exact rfl; exact rfl; exact rfl; intro _) | ((with_reducible apply post_seq)) | ((with_reducible apply post_then_ret)) | ((with_reducible apply CS_skip)) | ((with_reducible apply CS_ret)) | ((with_reducible apply CS_cond_d); exact rfl; all_goals intro hb; all_goals try (exfalso; omega))
  all_goals unfold szOk at hn
  all_goals (apply post_ret1; exact rfl; exact rfl; intro w' hw'; exact ⟨_, by unfold szOk; omega, rfl, hw'.nil⟩)
end Go.Proofs.YtbgfkhliideegaaGreat
