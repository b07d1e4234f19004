/- The walks of the helpers that compare and mark points and rules. No condition beyond those that each theorem states. -/
import Derived.Test.YtbgfkhliideegaaGreatWExR
import Derived.Test.YtbgfkhliideegaaGreatPPt
namespace Go.Proofs.YtbgfkhliideegaaGreat
open Go.RowKit
attribute [local irreducible] Calls
def mkS (k : Int) (n : Nat) : List Sp := (List.range n).map fun j : Nat => ⟨k + 2 * (j : Int), k + 2 * (j : Int) + 1⟩
theorem mkS_len (k : Int) (n : Nat) : (mkS k n).length = n := by simp [mkS]
theorem mkS_at {k : Int} {n j : Nat} (h : j < n) : (mkS k n)[j]? = some ⟨k + 2 * (j : Int), k + 2 * (j : Int) + 1⟩ := by simp [mkS, h]
theorem markSpanS_ok (w0 : World) (h : List Ent) (w : World) (g c : Nat) (xs : List Sp) (k0 : Int) (hw : Wd w0 (spE g c xs :: h) w) (hx : xs.length ≤ 1000000000) (h0 : 0 ≤ k0) (h1 : k0 ≤ 1000000000000000) :
    Calls Tryz.prog 73 #[.slice (some ⟨g, 0, none⟩) xs.length c, .int .i64 k0] w
      (fun x w' => ∃ _ : Unit, True ∧ x = .returned (.int .i64 (k0 + 2 * xs.length)) ∧ Wd w0 (spE g c (mkS k0 xs.length) :: h) w') := by
  have hm := mkS_len k0 xs.length
  refine enter_in (vs := [.slice (some ⟨g, 0, none⟩) xs.length c, .int .i64 k0]) hw Tryz.func73 rfl Tryz.ntmps73 rfl ?_
  repeat' first | ((with_reducible apply CS_seq)) | ((with_reducible apply CS_block)) | ((with_reducible apply CS_region)) | ((with_reducible apply RR_end)) | ((with_reducible apply LR_pure); exact rfl; exact rfl; exact rfl) | ((with_reducible apply post_seq))
  refine CS_loop (ι := Int) (fun i => [(0, .slice (some ⟨g, 0, none⟩) xs.length c), (1, .int .i64 (k0 + 2 * i)), (5, .int .i64 i)]) (fun i => Wd w0 (spE g c (mix (mkS k0 xs.length) xs i.toNat) :: h)) (fun i => 0 ≤ i ∧ i ≤ xs.length) (fun i => (xs.length - i).toNat) 0 ⟨by omega, by omega⟩ ⟨rfl, by rw [show k0 + 2 * 0 = k0 by omega]; rfl, rfl, trivial⟩ (fun _ hw => by rw [show (0 : Int).toNat = 0 from rfl, mix_zero]; exact hw) ?_
  rintro i ⟨h0, h1⟩
  obtain ⟨k, rfl⟩ : ∃ k : Nat, i = k := ⟨i.toNat, by omega⟩
  simp only [Int.toNat_natCast]
  by_cases hi : k < xs.length
  · have hml := mix_len hm k
    obtain ⟨c0, hc0⟩ : ∃ c, (mix (mkS k0 xs.length) xs k)[k]? = some c := ⟨_, List.getElem?_eq_getElem (show k < (mix (mkS k0 xs.length) xs k).length by omega)⟩
    have hc1 : ((mix (mkS k0 xs.length) xs k).set k ⟨k0 + 2 * (k : Int), c0.hi⟩)[k]? = some ⟨k0 + 2 * (k : Int), c0.hi⟩ := by rw [List.getElem?_set, if_pos rfl, if_pos (by omega)]
    repeat' first | ((with_reducible apply (LR_index_own k)); exact rfl; exact rfl; exact rfl; exact rfl; omega; omega) | ((with_reducible apply (LS_store1 0)); exact rfl; exact rfl; exact rfl; exact rfl; exact rfl; first | exact putF_fld _ k c0 ⟨k0 + 2 * (k : Int), c0.hi⟩ 0 _ hc0 (by decide) rfl | exact putF_fld _ k ⟨k0 + 2 * (k : Int), c0.hi⟩ ⟨k0 + 2 * (k : Int), k0 + 2 * (k : Int) + 1⟩ 1 _ hc1 (by decide) rfl) | ((with_reducible apply CS_seq)) | ((with_reducible apply CS_block)) | ((with_reducible apply CS_region)) | ((with_reducible apply RR_end)) | ((with_reducible apply LR_pure); exact rfl; exact rfl; exact rfl) | ((with_reducible apply LR_add); exact rfl; exact rfl; exact rfl; exact rfl; omega; omega) | ((with_reducible apply LR_field_own); exact rfl; exact rfl; exact rfl) | ((with_reducible apply LR_len); exact rfl; exact rfl; exact rfl) | ((with_reducible apply post_seq)) | ((with_reducible apply post_block_n)) | ((with_reducible apply CS_skip)) | ((with_reducible apply CS_cond_d); exact rfl; all_goals intro hb; all_goals try (exfalso; omega))
    refine post_round (i := (k : Int)) ((k : Int) + 1) ⟨by omega, by omega⟩ (by omega) ⟨rfl, by rw [show k0 + 2 * ((k : Int) + 1) = k0 + 2 * (k : Int) + 1 + 1 by omega]; rfl, rfl, trivial⟩ (fun _ hw => ?_)
    rw [List.set_set, mix_set hm (mkS_at hi)] at hw
    exact hw
  · have he : k = xs.length := by omega
    repeat' first | ((with_reducible apply CS_seq)) | ((with_reducible apply CS_region)) | ((with_reducible apply RR_end)) | ((with_reducible apply LR_pure); exact rfl; exact rfl; exact rfl) | ((with_reducible apply LR_len); exact rfl; exact rfl; exact rfl) | ((with_reducible apply post_seq)) | ((with_reducible apply post_then_exit)) | ((with_reducible apply post_block_eq)) | ((with_reducible apply CS_ret)) | ((with_reducible apply CS_exit)) | ((with_reducible apply CS_cond_d); exact rfl; all_goals intro hb; all_goals try (exfalso; omega))
    apply post_ret1; exact rfl; exact rfl; intro w' hw'; refine ⟨(), trivial, by rw [he], ?_⟩
    rw [he, mix_end hm] at hw'
    exact hw'
theorem markIntS_nil (k0 : Int) (w : World) : Calls Tryz.prog 40 #[.slice none 0 0, .int .i64 k0] w (Gives (.int .i64 k0) w) := by
  refine enter (vs := [.slice none 0 0, .int .i64 k0]) Tryz.func40 rfl Tryz.ntmps40 rfl ?_
  repeat' first | ((with_reducible apply CS_seq)) | ((with_reducible apply CS_block)) | ((with_reducible apply CS_region)) | ((with_reducible apply RR_end)) | ((with_reducible apply LR_pure); exact rfl; exact rfl; exact rfl) | ((with_reducible apply post_seq))
  refine CS_loop (ι := Unit) (fun _ => [(0, .slice none 0 0), (1, .int .i64 k0), (5, .int .i64 0)]) (fun _ => Wd w []) (fun _ => True) (fun _ => 0) () trivial ⟨rfl, rfl, rfl, trivial⟩ (fun _ hw => hw) ?_
  rintro _ _
  repeat' first | ((with_reducible apply CS_seq)) | ((with_reducible apply CS_region)) | ((with_reducible apply RR_end)) | ((with_reducible apply LR_pure); exact rfl; exact rfl; exact rfl) | ((with_reducible apply LR_len); exact rfl; exact rfl; exact rfl) | ((with_reducible apply post_seq)) | ((with_reducible apply post_then_exit)) | ((with_reducible apply post_block_eq)) | ((with_reducible apply CS_ret)) | ((with_reducible apply CS_exit)) | ((with_reducible apply CS_cond_f); exact rfl)
  all_goals first | (exfalso; contradiction) | (exfalso; omega) | (exfalso; simp at hb <;> omega) | skip
  apply ret_int; exact rfl; exact rfl; rfl
end Go.Proofs.YtbgfkhliideegaaGreat
