/- The walks of the reference's reader of codes. No condition beyond those that each theorem states. -/
import Derived.Test.YtbgfkhliideegaaGreatTy
namespace Go.Proofs.YtbgfkhliideegaaGreat
open Go.RowKit
/-- a byte -/
structure By where
  n : Int
instance : Enc By := ⟨1, fun x => [.int .u8 x.n], fun _ => rfl, by omega, fun _ v hv => by simp at hv; subst hv; rfl⟩
def BytesOk (l : List By) : Prop := ∀ x ∈ l, 0 ≤ x.n ∧ x.n ≤ 255
theorem newReader_ok (w0 : World) (h : List Ent) (w : World) (hw : Wd w0 h w) (v : Value) (l : List By) (hs : Sl w0 v l) (hby : BytesOk l) : Calls Tryz.prog 62 #[v] w
    (fun x w' => ∃ i : Nat × Value × List By, (Sl w0 i.2.1 i.2.2 ∧ BytesOk i.2.2 ∧ i.2.2.length ≤ 2000) ∧ x = .returned (.pointer (some ⟨i.1, 0, none⟩)) ∧ Wd w0 (⟨i.1, 121, 2, [i.2.1, .int .i64 0]⟩ :: h) w') := by
  have hlen := hs.len
  simp only [maxLen] at hlen
  have hs' := hs
  obtain ⟨A, n, c, rfl, _⟩ := hs'
  refine enter_in (vs := [.slice A n c]) hw Tryz.func62 rfl Tryz.ntmps62 rfl ?_
  repeat' first | ((with_reducible apply (LR_slice_old 0 2000)); exact rfl; exact rfl; exact rfl; exact rfl; exact rfl; exact hs; exact rfl; exact .inl ⟨rfl, rfl⟩; exact .inr rfl; omega; omega; intro _ _ _ hu) | ((with_reducible apply CS_seq)) | ((with_reducible apply CS_region)) | ((with_reducible apply RR_end)) | ((with_reducible apply LR_pure); exact rfl; exact rfl; exact rfl) | ((with_reducible apply LR_len); exact rfl; exact rfl; exact rfl) | ((with_reducible apply LS_box); exact rfl; exact rfl; exact rfl; exact rfl; intro _) | ((with_reducible apply LR_build); exact rfl; exact rfl; exact rfl; exact rfl) | ((with_reducible apply post_seq)) | ((with_reducible apply CS_skip)) | ((with_reducible apply CS_ret)) | ((with_reducible apply CS_cond_d); exact rfl; all_goals intro hb; all_goals try (exfalso; omega))
  · (apply post_ret1; exact rfl; exact rfl; intro w' hw; exact ⟨(_, _, _), ⟨by assumption, fun x hx => hby x (List.mem_of_mem_take (by simpa using hx)), by simp; omega⟩, rfl, hw⟩)
  · (apply post_ret1; exact rfl; exact rfl; intro w' hw; exact ⟨(_, _, _), ⟨hs, hby, by simp only; omega⟩, rfl, hw⟩)
theorem pick_ok (w0 : World) (h : List Ent) (w : World) (g tot : Nat) (bv : Value) (p n : Int) (l : List By) (hw : Wd w0 (⟨g, 121, tot, [bv, .int .i64 p]⟩ :: h) w) (hbv : Sl w0 bv l) (hby : BytesOk l) (hl : l.length ≤ 2000) (h0 : 0 ≤ p) (h1 : p ≤ 1000000) (hn : n ≤ 1000000) :
    Calls Tryz.prog 64 #[.pointer (some ⟨g, 0, none⟩), .int .i64 n] w
      (fun x w' => ∃ i : Int, (0 ≤ i ∧ (1 ≤ n → i < n) ∧ (n < 1 → i = 0)) ∧ x = .returned (.int .i64 i) ∧ Wd w0 (⟨g, 121, tot, [bv, .int .i64 (p + 1)]⟩ :: h) w') := by
  by_cases hn0 : n < 1
  · skip
    refine enter_in (vs := [.pointer (some ⟨g, 0, none⟩), .int .i64 n]) hw Tryz.func64 rfl Tryz.ntmps64 rfl ?_
    repeat' first | ((with_reducible apply CS_seq)) | ((with_reducible apply CS_region)) | ((with_reducible apply RR_end)) | ((with_reducible apply LR_pure); exact rfl; exact rfl; exact rfl) | ((with_reducible apply LR_skip); exact rfl; exact rfl) | ((with_reducible apply LR_add); exact rfl; exact rfl; exact rfl; exact rfl; omega; omega) | ((with_reducible apply LR_field_own); exact rfl; exact rfl; exact rfl) | ((with_reducible apply LR_load_own 0); exact rfl; exact rfl; exact rfl; exact rfl; exact rfl) | ((with_reducible apply LS_store1 0); exact rfl; exact rfl; exact rfl; exact rfl; exact rfl; exact rfl) | ((with_reducible apply post_seq)) | ((with_reducible apply post_then_ret)) | ((with_reducible apply CS_ret)) | ((with_reducible apply CS_cond_t); exact rfl) | ((with_reducible apply LR_caseg_d); exact rfl; exact rfl; all_goals intro hb; all_goals try (exfalso; omega))
    all_goals (apply post_ret1; exact rfl; exact rfl; intro w' hw; exact ⟨_, ⟨by omega, fun h => by omega, fun _ => rfl⟩, rfl, hw⟩)
  · by_cases hz : l.length = 0
    · skip
      refine enter_in (vs := [.pointer (some ⟨g, 0, none⟩), .int .i64 n]) hw Tryz.func64 rfl Tryz.ntmps64 rfl ?_
      repeat' first | ((with_reducible apply CS_seq)) | ((with_reducible apply CS_region)) | ((with_reducible apply RR_end)) | ((with_reducible apply LR_pure); exact rfl; exact rfl; exact rfl) | ((with_reducible apply LR_add); exact rfl; exact rfl; exact rfl; exact rfl; omega; omega) | ((with_reducible apply LR_field_own); exact rfl; exact rfl; exact rfl) | ((with_reducible apply LR_load_own 0); exact rfl; exact rfl; exact rfl; exact rfl; exact rfl) | ((with_reducible apply LR_len_sl); exact rfl; exact rfl; exact rfl; assumption) | ((with_reducible apply LS_store1 0); exact rfl; exact rfl; exact rfl; exact rfl; exact rfl; exact rfl) | ((with_reducible apply post_seq)) | ((with_reducible apply post_then_ret)) | ((with_reducible apply CS_ret)) | ((with_reducible apply CS_cond_d); exact rfl; all_goals intro hb; all_goals try (exfalso; omega)) | ((with_reducible apply LR_caseg_d); exact rfl; exact rfl; all_goals intro hb; all_goals try (exfalso; omega))
      all_goals (apply post_ret1; exact rfl; exact rfl; intro w' hw; exact ⟨_, ⟨by omega, fun h => by omega, fun h => by omega⟩, rfl, hw⟩)
    · have m0 : ∀ x : Int, 0 ≤ x % (l.length : Int) := fun x => Int.emod_nonneg _ (by omega)
      have m1 : ∀ x : Int, x % (l.length : Int) < l.length := fun x => Int.emod_lt_of_pos _ (by omega)
      have m2 : ∀ x : Int, 0 ≤ x → 0 ≤ x / (l.length : Int) := fun x h => Int.ediv_nonneg h (by omega)
      have m3 : ∀ x : Int, 0 ≤ x → x / (l.length : Int) ≤ x := fun x h => Int.ediv_le_self _ h
      have k0 := m0 (p + 1 - 1)
      have k1 := m1 (p + 1 - 1)
      have k2 := m0 ((p + 1 - 1) * 7 + 3)
      have k3 := m1 ((p + 1 - 1) * 7 + 3)
      have k4 := m2 (p + 1 - 1) (by omega)
      have k5 := m3 (p + 1 - 1) (by omega)
      clear m0 m1 m2 m3
      have r0 : ∀ x : Int, 0 ≤ x % n := fun x => Int.emod_nonneg _ (by omega)
      have r1 : ∀ x : Int, x % n < n := fun x => Int.emod_lt_of_pos _ (by omega)
      refine enter_in (vs := [.pointer (some ⟨g, 0, none⟩), .int .i64 n]) hw Tryz.func64 rfl Tryz.ntmps64 rfl ?_
      repeat' first | ((with_reducible apply LR_index_any); exact rfl; exact rfl; exact rfl; exact rfl; exact hbv; omega; omega; exact rfl; intro _ r hr _; have hrb := hby r (List.mem_of_getElem? hr)) | ((with_reducible apply CS_seq)) | ((with_reducible apply CS_region)) | ((with_reducible apply CS_regionq_wd); kernel_rfl; kernel_rfl) | ((with_reducible apply RR_end)) | ((with_reducible apply LR_pure); exact rfl; exact rfl; exact rfl) | ((with_reducible apply LR_add); exact rfl; exact rfl; exact rfl; exact rfl; omega; omega) | ((with_reducible apply LR_sub); exact rfl; exact rfl; exact rfl; exact rfl; omega; omega) | ((with_reducible apply LR_mul); exact rfl; exact rfl; exact rfl; exact rfl; omega; omega) | ((with_reducible apply LR_quo); exact rfl; exact rfl; exact rfl; exact rfl; omega; omega; omega) | ((with_reducible apply LR_rem); exact rfl; exact rfl; exact rfl; exact rfl; omega; omega) | ((with_reducible apply LR_field_own); exact rfl; exact rfl; exact rfl) | ((with_reducible apply LR_load_own 0); exact rfl; exact rfl; exact rfl; exact rfl; exact rfl) | ((with_reducible apply LR_load_old0); exact rfl; exact rfl; exact rfl; assumption; exact rfl) | ((with_reducible apply LR_len_sl); exact rfl; exact rfl; exact rfl; assumption) | ((with_reducible apply LR_conv); exact rfl; exact rfl; exact rfl; omega; omega) | ((with_reducible apply LR_xor); exact rfl; exact rfl; exact rfl; exact rfl; omega; omega; omega; omega; intro _ _) | ((with_reducible apply LS_store1 0); exact rfl; exact rfl; exact rfl; exact rfl; exact rfl; exact rfl) | ((with_reducible apply post_seq)) | ((with_reducible apply post_then_ret)) | ((with_reducible apply CS_skip)) | ((with_reducible apply CS_ret)) | ((with_reducible apply CS_cond_d); exact rfl; all_goals intro hb; all_goals try (exfalso; omega)) | ((with_reducible apply LR_caseg_d); exact rfl; exact rfl; all_goals intro hb; all_goals try (exfalso; omega))
      all_goals (apply post_ret1; exact rfl; exact rfl; intro w' hw; exact ⟨_, ⟨r0 _, fun _ => r1 _, fun h => absurd h hn0⟩, rfl, hw⟩)
theorem one_ok (w0 : World) (h : List Ent) (w : World) (g tot : Nat) (bv : Value) (p : Int) (l : List By) (ad0 : Addr) (c : Nat) (xs : List Int) (hs : ∀ w, Wd w0 h w → Sl w (.slice (some ad0) xs.length c) xs) (hne : 0 < xs.length) (hx : xs.length ≤ 1000) (hw : Wd w0 (⟨g, 121, tot, [bv, .int .i64 p]⟩ :: h) w) (hbv : Sl w0 bv l) (hby : BytesOk l) (hl : l.length ≤ 2000) (h0 : 0 ≤ p) (h1 : p ≤ 1000000) :
    Calls Tryz.prog 131 #[.pointer (some ⟨g, 0, none⟩), .slice (some ad0) xs.length c] w
      (fun x w' => ∃ i : Int, (i ∈ xs) ∧ x = .returned (.int .i64 i) ∧ Wd w0 (⟨g, 121, tot, [bv, .int .i64 (p + 1)]⟩ :: h) w') := by
  refine enter_in (vs := [.pointer (some ⟨g, 0, none⟩), .slice (some ad0) xs.length c]) hw Tryz.func131 rfl Tryz.ntmps131 rfl ?_
  repeat' first | ((with_reducible apply (LS_callf (f := 64))); exact rfl; exact rfl; exact rfl; exact fun w hw => pick_ok w0 h w g tot bv p _ l hw hbv hby hl h0 h1 (by omega); rintro i ⟨k0, k1, _⟩) | ((with_reducible apply LR_index_cls); exact rfl; exact rfl; exact rfl; exact rfl; exact fun w hw => hs w hw.tail; exact rfl; omega; omega; exact rfl; intro _ r hr _) | ((with_reducible apply CS_seq)) | ((with_reducible apply CS_region)) | ((with_reducible apply RR_end)) | ((with_reducible apply LR_pure); exact rfl; exact rfl; exact rfl) | ((with_reducible apply LR_len); exact rfl; exact rfl; exact rfl) | ((with_reducible apply LR_load_cls0); exact rfl; exact rfl; exact rfl; assumption; exact rfl) | ((with_reducible apply post_seq)) | ((with_reducible apply CS_ret))
  all_goals (apply post_ret1; exact rfl; exact rfl; intro w' hw'; exact ⟨_, List.mem_of_getElem? hr, rfl, hw'⟩)
def intsOf : List Value → Option (List Int)
  | [] => some []
  | .int .i64 n :: l => match intsOf l with
    | some r => some (n :: r)
    | none => none
  | _ :: _ => none
theorem intsOf_eq : ∀ (l : List Value) (r : List Int), intsOf l = some r → l = flat r
  | [], r, h => by simp only [intsOf, Option.some.injEq] at h; subst h; rfl
  | v :: l, r, h => by
    unfold intsOf at h
    split at h
    · cases ‹_ :: _ = []›
    · rename_i n l' he
      simp only [List.cons.injEq] at he
      obtain ⟨rfl, rfl⟩ := he
      split at h
      · rename_i r' hr
        simp only [Option.some.injEq] at h
        subst h
        rw [intsOf_eq l r' hr]; rfl
      · cases h
    · cases h
/-- The reader stands among the own blocks at place i. -/
structure Rd4 (w0 : World) (g tot : Nat) (bv : Value) (l : List By) : Prop where
  sl : Sl w0 bv l
  by_ : BytesOk l
  len : l.length ≤ 2000
abbrev rdE (g tot : Nat) (bv : Value) (p : Int) : Ent := ⟨g, 121, tot, [bv, .int .i64 p]⟩
theorem pick_at {w0 w : World} {H r : List Ent} {g tot : Nat} {bv : Value} {p n : Int} {l : List By} (i : Nat) (hw : Wd w0 H w) (hp : pull i H = some (rdE g tot bv p, r)) (hR : Rd4 w0 g tot bv l) (h0 : 0 ≤ p) (h1 : p ≤ 1000000) (hn : n ≤ 1000000) :
    Calls Tryz.prog 64 #[.pointer (some ⟨g, 0, none⟩), .int .i64 n] w
      (fun x w' => ∃ i : Int, (0 ≤ i ∧ (1 ≤ n → i < n) ∧ (n < 1 → i = 0)) ∧ x = .returned (.int .i64 i) ∧ Wd w0 (rdE g tot bv (p + 1) :: r) w') :=
  pick_ok w0 r w g tot bv p n l (hw.perm (pull_perm _ _ _ _ hp)) hR.sl hR.by_ hR.len h0 h1 hn
theorem one_at {w0 w : World} {H r r2 : List Ent} {g tot g2 T2 tot2 n c : Nat} {cs2 : List Value} {xs : List Int} {bv : Value} {p : Int} {l : List By} (i j : Nat) (hw : Wd w0 H w) (hp : pull i H = some (rdE g tot bv p, r)) (hp2 : pull j r = some (⟨g2, T2, tot2, cs2⟩, r2)) (hi : intsOf cs2 = some xs)
    (hn : n = xs.length) (hc : n ≤ c) (hm : c ≤ 1000) (hne : 0 < n) (hR : Rd4 w0 g tot bv l) (h0 : 0 ≤ p) (h1 : p ≤ 1000000) :
    Calls Tryz.prog 131 #[.pointer (some ⟨g, 0, none⟩), .slice (some ⟨g2, 0, none⟩) n c] w
      (fun x w' => ∃ i : Int, (i ∈ xs) ∧ x = .returned (.int .i64 i) ∧ Wd w0 (rdE g tot bv (p + 1) :: r) w') := by
  subst hn
  exact one_ok w0 r w g tot bv p l ⟨g2, 0, none⟩ c xs (fun w hw => (hw.perm (pull_perm _ _ _ _ hp2)).head.sl (intsOf_eq _ _ hi) rfl hc (by unfold maxLen; omega)) hne (by omega) (hw.perm (pull_perm _ _ _ _ hp)) hR.sl hR.by_ hR.len h0 h1
end Go.Proofs.YtbgfkhliideegaaGreat
