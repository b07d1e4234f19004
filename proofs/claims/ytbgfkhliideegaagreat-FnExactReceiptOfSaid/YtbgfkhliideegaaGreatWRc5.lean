/- A receipt as a call's value that reads as it should, and the comparison of receipts. No condition beyond those that each theorem states. -/
import Derived.Test.YtbgfkhliideegaaGreatWRc3
import Derived.Test.YtbgfkhliideegaaGreatWRc4
import Derived.Test.YtbgfkhliideegaaGreatWOr7
namespace Go.Proofs.YtbgfkhliideegaaGreat
open Go.RowKit
attribute [local irreducible] Calls
instance : EqTy Tryz.prog 76 := ⟨by kernel_rfl, by kernel_rfl, by kernel_rfl, by kernel_rfl⟩
theorem equalNotes_ok (v v' : Value) (l : List Nt) (w : World) (hs : Sl w v l) (hs' : Sl w v' l) : Calls Tryz.prog 96 #[v, v'] w (Gives (.bool true) w) := by
  have hlen := hs.len
  simp only [maxLen] at hlen
  refine enter (vs := [v, v']) Tryz.func96 rfl Tryz.ntmps96 rfl ?_
  repeat' first | ((with_reducible apply LR_len_sl); exact rfl; exact rfl; exact rfl; exact hs) | ((with_reducible apply LR_len_sl); exact rfl; exact rfl; exact rfl; exact hs') | ((with_reducible apply CS_seq)) | ((with_reducible apply CS_block)) | ((with_reducible apply CS_region)) | ((with_reducible apply RR_end)) | ((with_reducible apply LR_pure); exact rfl; exact rfl; exact rfl) | ((with_reducible apply post_seq)) | ((with_reducible apply CS_skip)) | ((with_reducible apply CS_cond_nd); exact rfl; all_goals intro hb; all_goals try (exfalso; omega))
  all_goals first | (exfalso; contradiction) | skip
  refine CS_loop (ι := Int) (fun i => [(0, v), (1, v'), (5, .int .i64 i)]) (fun _ => Wd w []) (fun i => 0 ≤ i ∧ i ≤ l.length) (fun i => (l.length - i).toNat) 0 ⟨by omega, by omega⟩ ⟨rfl, rfl, rfl, trivial⟩ (fun _ hw => hw) ?_
  rintro i ⟨h0, h1⟩
  obtain ⟨k, hk⟩ : ∃ k : Nat, i = k := ⟨i.toNat, by omega⟩
  by_cases hi : k < l.length
  · obtain ⟨c, hc⟩ : ∃ c, l[k]? = some c := ⟨_, List.getElem?_eq_getElem hi⟩
    repeat' first | ((with_reducible apply (LR_index_old (k))); exact rfl; exact rfl; exact rfl; exact rfl; exact hs; omega; exact hc; exact rfl; intro _ _) | ((with_reducible apply (LR_index_old (k))); exact rfl; exact rfl; exact rfl; exact rfl; exact hs'; omega; exact hc; exact rfl; intro _ _) | ((with_reducible apply LR_neqs_same); exact rfl; exact rfl; exact rfl; exact rfl; exact rfl; kernel_rfl) | ((with_reducible apply CS_seq)) | ((with_reducible apply CS_block)) | ((with_reducible apply CS_region)) | ((with_reducible apply CS_regionq_wd); kernel_rfl; kernel_rfl) | ((with_reducible apply RR_end)) | ((with_reducible apply LR_pure); exact rfl; exact rfl; exact rfl) | ((with_reducible apply LR_add); exact rfl; exact rfl; exact rfl; exact rfl; omega; omega) | ((with_reducible apply LR_load_old_agg); exact rfl; exact rfl; exact rfl; assumption; exact rfl) | ((with_reducible apply LR_len_sl); exact rfl; exact rfl; exact rfl; assumption) | ((with_reducible apply post_seq)) | ((with_reducible apply post_block_n)) | ((with_reducible apply CS_skip)) | ((with_reducible apply CS_cond_f); exact rfl) | ((with_reducible apply CS_cond_d); exact rfl; all_goals intro hb; all_goals try (exfalso; omega))
    all_goals first | (exfalso; contradiction) | skip
    exact post_round (i := i) (i + 1) ⟨by omega, by omega⟩ (by omega) ⟨rfl, rfl, rfl, trivial⟩ (fun _ hw => hw.nil)
  · skip
    repeat' first | ((with_reducible apply CS_seq)) | ((with_reducible apply CS_region)) | ((with_reducible apply RR_end)) | ((with_reducible apply LR_pure); exact rfl; exact rfl; exact rfl) | ((with_reducible apply LR_len_sl); exact rfl; exact rfl; exact rfl; assumption) | ((with_reducible apply post_seq)) | ((with_reducible apply post_then_exit)) | ((with_reducible apply post_block_eq)) | ((with_reducible apply CS_ret)) | ((with_reducible apply CS_exit)) | ((with_reducible apply CS_cond_d); exact rfl; all_goals intro hb; all_goals try (exfalso; omega))
    apply ret_bool; exact rfl; exact rfl; rfl
theorem equalReceipt_ok (a b a' b' : Value) (xs : List Int) (ns : List Nt) (w : World) (h1 : Sl w a xs) (h2 : Sl w b ns) (h3 : Sl w a' xs) (h4 : Sl w b' ns) : Calls Tryz.prog 57 #[.agg #[a, b], .agg #[a', b']] w (Gives (.bool true) w) := by
  refine enter (vs := [.agg #[a, b], .agg #[a', b']]) Tryz.func57 rfl Tryz.ntmps57 rfl ?_
  repeat' first | ((with_reducible apply (LR_call (f := 23))); exact rfl; exact rfl; exact rfl; exact fun w hw => equalInts_ok a a' xs w (h1.mono hw) (h3.mono hw)) | ((with_reducible apply (LR_call (f := 96))); exact rfl; exact rfl; exact rfl; exact fun w hw => equalNotes_ok b b' ns w (h2.mono hw) (h4.mono hw)) | ((with_reducible apply CS_seq)) | ((with_reducible apply CS_region)) | ((with_reducible apply RR_end)) | ((with_reducible apply LR_pure); exact rfl; exact rfl; exact rfl) | ((with_reducible apply LR_field_own); exact rfl; exact rfl; exact rfl) | ((with_reducible apply LR_load_own 0); exact rfl; exact rfl; exact rfl; exact rfl; exact rfl) | ((with_reducible apply LR_load_own 1); exact rfl; exact rfl; exact rfl; exact rfl; exact rfl) | ((with_reducible apply LS_box); exact rfl; exact rfl; exact rfl; exact rfl; intro _) | ((with_reducible apply post_seq)) | ((with_reducible apply CS_ret))
  all_goals first | (exfalso; contradiction) | skip
  apply ret_bool; exact rfl; exact rfl; rfl
theorem iReceiptOf_r (v0 : Value) (s : List Ar) (v : Value) (c : List Ln) (v2 : Value) (cp : List Int) (v3 : Value) (rs : List Ru) (w : World) (hs0 : Sl w v0 s) (hs : Sl w v c) (hs2 : Sl w v2 cp) (hs3 : Sl w v3 rs) (hg : ROks w rs) : Calls Tryz.prog 44 #[v0, v, v2, v3] w
    (fun x w' => ∃ i : Value × Value × List Int × List Nt × Bool, (Sl w' i.1 i.2.2.1 ∧ Sl w' i.2.1 i.2.2.2.1 ∧ RcX s c cp rs i.2.2.2.2 i.2.2.1 i.2.2.2.1) ∧ x = .returned (.tuple #[.agg #[i.1, i.2.1], .bool i.2.2.2.2]) ∧ Wd w [] w') := by
  by_cases h : RcOk s c cp rs
  · have hl := (rcp_left (cp := cp) h.1 h.all).1
    exact (iReceiptOf_ok v0 s v c v2 cp v3 rs w hs0 hs hs2 hs3 hg h).mono fun x w' ⟨⟨g1, c1, g2, c2⟩, ⟨h1, h2, h3, h4⟩, he, hw⟩ => ⟨(_, _, (rcp s c cp (srt rs)).1, (rcp s c cp (srt rs)).2, true), ⟨own_sl 0 hw rfl rfl hl.symm h1 h2, own_sl 1 hw rfl rfl rfl h3 h4, fun _ => ⟨rfl, rfl, rfl⟩, fun h' => absurd h h'⟩, he, hw.nil⟩
  · exact (iReceiptOf_no v0 s v c v2 cp v3 rs w hs0 hs hs2 hs3 hg h).mono fun x w' ⟨he, hw⟩ => ⟨(_, _, [], [], false), ⟨Sl.nil w', Sl.nil w', fun h' => absurd h' h, fun _ => ⟨rfl, rfl, rfl⟩⟩, he, ⟨hw, fun _ h => (by cases h), List.Pairwise.nil⟩⟩
end Go.Proofs.YtbgfkhliideegaaGreat
