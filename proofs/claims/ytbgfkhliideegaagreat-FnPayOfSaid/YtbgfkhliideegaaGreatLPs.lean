/- The walks of the laws on what is to be paid: what rules save together. No condition beyond those that each theorem states. -/
import Derived.Test.YtbgfkhliideegaaGreatWRc5
import Derived.Test.YtbgfkhliideegaaGreatWDrX
namespace Go.Proofs.YtbgfkhliideegaaGreat
open Go.RowKit
attribute [local irreducible] Calls
set_option maxHeartbeats 4000000 in
theorem FnPayOf_ok (v : Value) (l : List By) (w : World) (hs : Sl w v l) (hby : BytesOk l) : Calls Tryz.prog 13 #[v] w (Gives (.bool true) w) := by
  have hlen := hs.len; have hml : maxLen = 9223372036854775807 := rfl; simp only [maxLen] at hlen
  refine enter (vs := [v]) Tryz.func13 rfl Tryz.ntmps13 rfl ?_
  repeat' first | ((with_reducible apply LR_len_sl); exact rfl; exact rfl; exact rfl; exact hs) | ((with_reducible apply (LS_callr (f := 48))); exact rfl; exact rfl; exact rfl; exact fun w hw => DrawPayOf_ok v l w (hs.mono hw) hby; rintro ⟨v0, s, v1, c, v2, cp, v3, rs⟩ w1 k1 ⟨z0, z1, z2, z3, zg, zc, zp, zr⟩; dsimp only at z0 z1 z2 z3 zg zc zp zr ⊢) | ((with_reducible apply CS_seq)) | ((with_reducible apply CS_region)) | ((with_reducible apply RR_end)) | ((with_reducible apply LR_pure); exact rfl; exact rfl; exact rfl) | ((with_reducible apply post_seq)) | ((with_reducible apply post_then_ret)) | ((with_reducible apply CS_skip)) | ((with_reducible apply CS_ret)) | ((with_reducible apply CS_cond_d); exact rfl; all_goals intro hb; all_goals try (exfalso; omega))
  · apply ret_bool; exact rfl; exact rfl; rfl
  by_cases hR : RcOk s c cp rs
  · obtain ⟨n, hn⟩ := payX_ex s c cp rs
    have hn1 := hn.1 hR
    have hpb := payB_bd hR
    have hl6 := hR.2.2.1.1
    have hsv := svL_bd (rs := rs) (ns := (rcp s c cp (srt rs)).2) (ru_bd8 hR)
    have hall := svL_all hR
    have hru := ru_bd8 hR
    repeat' first | ((with_reducible apply (LR_call (f := 25))); exact rfl; exact rfl; exact rfl; exact fun w hw => iPayOf_g v0 s v1 c v2 cp v3 rs w (z0.mono hw) (z1.mono hw) (z2.mono hw) (z3.mono hw) (fun r hr => (zg r hr).mono hw) n hn) | ((with_reducible apply (LR_call (f := 49))); exact rfl; exact rfl; exact rfl; exact fun w hw => sPayOf_g v0 s v1 c v2 cp v3 rs w (z0.mono hw) (z1.mono hw) (z2.mono hw) (z3.mono hw) (fun r hr => (zg r hr).mono hw) n hn) | ((with_reducible apply CS_seq)) | ((with_reducible apply CS_block)) | ((with_reducible apply CS_region)) | ((with_reducible apply RR_end)) | ((with_reducible apply LR_pure); exact rfl; exact rfl; exact rfl) | ((with_reducible apply post_seq)) | ((with_reducible apply CS_skip)) | ((with_reducible apply CS_cond_d); exact rfl; all_goals intro hb; all_goals try (exfalso; omega)) | ((with_reducible apply LR_caseg_nd); exact rfl; exact rfl; all_goals intro hb; all_goals try (exfalso; omega))
    all_goals first | (exfalso; contradiction) | (exfalso; omega) | (exfalso; simp at hb <;> omega) | skip
    refine CS_loop (ι := Nat) (fun i => [(3, v0), (4, v1), (5, v2), (6, v3), (7, .int .i64 n), (8, .int .i64 (svL rs (rcp s c cp (srt rs)).2 i)), (9, .int .i64 (i : Int))]) (fun i => Wd w1 []) (fun i => i ≤ rs.length) (fun i => rs.length - i) 0 (by omega) ⟨rfl, rfl, rfl, rfl, rfl, rfl, rfl, trivial⟩ (fun _ hw => hw.nil) ?_
    intro k hkl
    try dsimp only at hkl ⊢
    have hsk := hsv k
    by_cases hk : k < rs.length
    · obtain ⟨r, hr⟩ : ∃ y, rs[k]? = some y := ⟨_, List.getElem?_eq_getElem hk⟩
      have hrb := hru r.num
      have hst := svL_succ (ns := (rcp s c cp (srt rs)).2) hr
      repeat' first | ((with_reducible apply LR_len_sl); exact rfl; exact rfl; exact rfl; exact z3) | ((with_reducible apply (LR_index_old (k))); exact rfl; exact rfl; exact rfl; exact rfl; exact z3; omega; exact hr; exact rfl; intro _ _) | ((with_reducible apply (LR_call (f := 58))); exact rfl; exact rfl; exact rfl; exact fun w hw => iSavedBy_g v0 s v1 c v2 cp v3 rs w (z0.mono hw) (z1.mono hw) (z2.mono hw) (z3.mono hw) (fun r hr => (zg r hr).mono hw) r.num _ ⟨fun _ => rfl, fun h' => absurd hR h'⟩) | ((with_reducible apply CS_seq)) | ((with_reducible apply CS_block)) | ((with_reducible apply CS_region)) | ((with_reducible apply RR_end)) | ((with_reducible apply LR_pure); exact rfl; exact rfl; exact rfl) | ((with_reducible apply LR_add); exact rfl; exact rfl; exact rfl; exact rfl; omega; omega) | ((with_reducible apply LR_field); exact rfl; exact rfl; exact rfl) | ((with_reducible apply LR_load_old); exact rfl; exact rfl; exact rfl; assumption; exact rfl) | ((with_reducible apply post_seq)) | ((with_reducible apply post_block_n)) | ((with_reducible apply CS_skip)) | ((with_reducible apply CS_cond_d); exact rfl; all_goals intro hb; all_goals try (exfalso; omega))
      all_goals first | (exfalso; contradiction) | (exfalso; omega) | (exfalso; simp at hb <;> omega) | skip
      all_goals exact post_round (i := k) (k + 1) (by omega) (by omega) ⟨rfl, rfl, rfl, rfl, rfl, by rw [hst]; rfl, rfl, trivial⟩ (fun _ hw => hw.nil)
    · have hke : k = rs.length := by omega
      subst hke
      repeat' first | ((with_reducible apply LR_len_sl); exact rfl; exact rfl; exact rfl; exact z3) | ((with_reducible apply (LR_call (f := 50))); exact rfl; exact rfl; exact rfl; exact fun w hw => iTotalOf_ok v0 s v1 c w (z0.mono hw) (z1.mono hw) hR.1) | ((with_reducible apply CS_seq)) | ((with_reducible apply CS_region)) | ((with_reducible apply RR_end)) | ((with_reducible apply LR_pure); exact rfl; exact rfl; exact rfl) | ((with_reducible apply LR_add); exact rfl; exact rfl; exact rfl; exact rfl; omega; omega) | ((with_reducible apply post_seq)) | ((with_reducible apply post_then_exit)) | ((with_reducible apply post_block_eq)) | ((with_reducible apply CS_ret)) | ((with_reducible apply CS_exit)) | ((with_reducible apply CS_cond_d); exact rfl; all_goals intro hb; all_goals try (exfalso; omega)) | ((with_reducible apply LR_caseg_d); exact rfl; exact rfl; all_goals intro hb; all_goals try (exfalso; omega))
      all_goals first | (exfalso; contradiction) | (exfalso; omega) | (exfalso; simp at hb <;> omega) | skip
      all_goals (apply ret_boolr k1; exact rfl; exact rfl; first | rfl | (apply decide_eq_true; omega) | (simp; omega))
  · obtain ⟨n, hn⟩ := payX_ex s c cp rs
    have hn1 := hn.2 hR
    repeat' first | ((with_reducible apply (LR_call (f := 25))); exact rfl; exact rfl; exact rfl; exact fun w hw => iPayOf_g v0 s v1 c v2 cp v3 rs w (z0.mono hw) (z1.mono hw) (z2.mono hw) (z3.mono hw) (fun r hr => (zg r hr).mono hw) n hn) | ((with_reducible apply (LR_call (f := 49))); exact rfl; exact rfl; exact rfl; exact fun w hw => sPayOf_g v0 s v1 c v2 cp v3 rs w (z0.mono hw) (z1.mono hw) (z2.mono hw) (z3.mono hw) (fun r hr => (zg r hr).mono hw) n hn) | ((with_reducible apply CS_seq)) | ((with_reducible apply CS_region)) | ((with_reducible apply RR_end)) | ((with_reducible apply LR_pure); exact rfl; exact rfl; exact rfl) | ((with_reducible apply post_seq)) | ((with_reducible apply post_then_ret)) | ((with_reducible apply CS_ret)) | ((with_reducible apply CS_cond_d); exact rfl; all_goals intro hb; all_goals try (exfalso; omega)) | ((with_reducible apply LR_caseg_nd); exact rfl; exact rfl; all_goals intro hb; all_goals try (exfalso; omega))
    all_goals first | (exfalso; contradiction) | (exfalso; omega) | (exfalso; simp at hb <;> omega) | skip
    all_goals (apply ret_boolr k1; exact rfl; exact rfl; first | rfl | exact decide_eq_true rfl | simp)
end Go.Proofs.YtbgfkhliideegaaGreat
