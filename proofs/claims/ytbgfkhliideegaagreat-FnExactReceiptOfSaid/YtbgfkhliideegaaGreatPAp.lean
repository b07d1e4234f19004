/- Plain facts on an amount that is split by weights. No condition beyond those that each theorem states. -/
import Derived.Test.YtbgfkhliideegaaGreatPCa
namespace Go.Proofs.YtbgfkhliideegaaGreat
/-- the first place of the greatest among the first k -/
def bestTo (rs : List Int) : Nat → Nat
  | 0 => 0
  | k + 1 => if rs.getD (bestTo rs k) 0 < rs.getD k 0 then k else bestTo rs k
theorem bestTo_lt (rs : List Int) : ∀ k, bestTo rs k < k ∨ bestTo rs k = 0
  | 0 => .inr rfl
  | k + 1 => by
    unfold bestTo
    have := bestTo_lt rs k
    split <;> omega
theorem bestTo_max (rs : List Int) : ∀ k j, j < k → rs.getD j 0 ≤ rs.getD (bestTo rs k) 0
  | 0, j, h => by omega
  | k + 1, j, h => by
    unfold bestTo
    by_cases hj : j < k
    · have := bestTo_max rs k j hj
      split <;> omega
    · have : j = k := by omega
      subst this
      split <;> omega
def best (rs : List Int) : Nat := bestTo rs rs.length
theorem best_lt {rs : List Int} (h : 0 < rs.length) : best rs < rs.length := by
  have := bestTo_lt rs rs.length
  unfold best; omega
theorem best_max {rs : List Int} {j : Nat} {x : Int} (h : rs[j]? = some x) : ∃ y, rs[best rs]? = some y ∧ x ≤ y := by
  have hj := (List.getElem?_eq_some_iff.1 h).1
  have h1 := bestTo_max rs rs.length j hj
  have h2 := best_lt (rs := rs) (by omega)
  refine ⟨rs[best rs], List.getElem?_eq_getElem h2, ?_⟩
  have e1 : rs.getD j 0 = x := by simp [List.getD_eq_getElem?_getD, h]
  have e2 : rs.getD (bestTo rs rs.length) 0 = rs[best rs] := by
    show rs.getD (best rs) 0 = _
    simp [List.getD_eq_getElem?_getD, h2]
  rw [e1, e2] at h1; exact h1
theorem bestTo_yes {rs : List Int} {k : Nat} {x y : Int} (hx : rs[bestTo rs k]? = some x) (hy : rs[k]? = some y) (h : x < y) : bestTo rs (k + 1) = k := by
  unfold bestTo
  simp [List.getD_eq_getElem?_getD, hx, hy, h]
theorem bestTo_no {rs : List Int} {k : Nat} {x y : Int} (hx : rs[bestTo rs k]? = some x) (hy : rs[k]? = some y) (h : ¬ x < y) : bestTo rs (k + 1) = bestTo rs k := by
  rw [bestTo]
  simp [List.getD_eq_getElem?_getD, hx, hy, h]
abbrev ApS := List Int × List Int
def apStep (s : ApS) : ApS := (s.1.set (best s.2) (s.1.getD (best s.2) 0 + 1), s.2.set (best s.2) (-1))
def apN (s : ApS) : Nat → ApS
  | 0 => s
  | n + 1 => apStep (apN s n)
def ap0 (a : Int) (ws : List Int) : List Int := ws.map fun w => a * w / ws.sum
def rs0 (a : Int) (ws : List Int) : List Int := ws.map fun w => a * w % ws.sum
/-- how many units are split one by one -/
def apD (a : Int) (ws : List Int) : Nat := (a - (ap0 a ws).sum).toNat
def apI (a : Int) (ws : List Int) (n : Nat) : ApS := apN (ap0 a ws, rs0 a ws) n
def apL (a : Int) (ws : List Int) : List Int := if ws.sum = 0 then List.replicate ws.length 0 else (apI a ws (apD a ws)).1
theorem ap0_at {a : Int} {ws : List Int} {k : Nat} {w : Int} (h : ws[k]? = some w) : (ap0 a ws)[k]? = some (a * w / ws.sum) := by simp [ap0, h]
theorem rs0_at {a : Int} {ws : List Int} {k : Nat} {w : Int} (h : ws[k]? = some w) : (rs0 a ws)[k]? = some (a * w % ws.sum) := by simp [rs0, h]
theorem ap0_len (a : Int) (ws : List Int) : (ap0 a ws).length = ws.length := by simp [ap0]
theorem rs0_len (a : Int) (ws : List Int) : (rs0 a ws).length = ws.length := by simp [rs0]
def psum (l : List Int) : Int := (l.map fun x => max x 0).sum
theorem divs_sum (a t : Int) : ∀ ws : List Int, t * (ws.map fun w => a * w / t).sum + (ws.map fun w => a * w % t).sum = a * ws.sum
  | [] => by simp
  | w :: ws => by
    have h1 := divs_sum a t ws
    have h2 := Int.mul_ediv_add_emod (a * w) t
    simp only [List.map_cons, List.sum_cons, Int.mul_add]
    omega
/-- what holds after n units -/
structure ApOk (a : Int) (ws : List Int) (n : Nat) (s : ApS) : Prop where
  l1 : s.1.length = ws.length
  l2 : s.2.length = ws.length
  sum : s.1.sum = (ap0 a ws).sum + n
  at_ : ∀ (k : Nat) (w x r : Int), ws[k]? = some w → s.1[k]? = some x → s.2[k]? = some r → (x = a * w / ws.sum ∧ r = a * w % ws.sum) ∨ (x = a * w / ws.sum + 1 ∧ r = -1 ∧ 0 < a * w % ws.sum)
  rest : ws.sum * (apD a ws - n : Int) ≤ psum s.2
section
variable {a : Int} {ws : List Int}
/-- an amount and weights as they should be -/
structure ApIn (a : Int) (ws : List Int) : Prop where
  a0 : 0 ≤ a
  a1 : a ≤ 1000000
  n0 : 1 ≤ ws.length
  n1 : ws.length ≤ 8
  w : ∀ (k : Nat) (x : Int), ws[k]? = some x → 0 ≤ x ∧ x ≤ 1000000
theorem ApIn.mem (h : ApIn a ws) : ∀ x ∈ ws, 0 ≤ x ∧ x ≤ 1000000 := at_all h.w
theorem ApIn.sum (h : ApIn a ws) : 0 ≤ ws.sum ∧ ws.sum ≤ 8000000 := by
  have := sum_bd ws 0 1000000 h.mem
  have := h.n1
  omega
theorem ApIn.prod (h : ApIn a ws) {k : Nat} {x : Int} (hx : ws[k]? = some x) : 0 ≤ a * x ∧ a * x ≤ 1000000000000 := by
  have := h.w k x hx
  have := mul_bd h.a0 h.a1 this.1 this.2
  omega
theorem ApIn.d (_h : ApIn a ws) (hp : 0 < ws.sum) : (ap0 a ws).sum + apD a ws = a ∧ ws.sum * (apD a ws : Int) = (rs0 a ws).sum := by
  have h1 := divs_sum a ws.sum ws
  have h2 : 0 ≤ (rs0 a ws).sum := by
    have := sum_bd (rs0 a ws) 0 (ws.sum) fun x hx => by
      obtain ⟨w, _, rfl⟩ := List.mem_map.1 hx
      exact ⟨Int.emod_nonneg _ (by omega), Int.le_of_lt (Int.emod_lt_of_pos _ hp)⟩
    omega
  have h3 : ws.sum * (a - (ap0 a ws).sum) = (rs0 a ws).sum := by
    rw [Int.mul_sub, Int.mul_comm ws.sum a]
    unfold ap0 rs0
    omega
  have h4 : 0 ≤ a - (ap0 a ws).sum := by
    rcases Int.lt_or_le (a - (ap0 a ws).sum) 0 with h5 | h5
    · have := Int.mul_neg_of_pos_of_neg hp h5
      omega
    · exact h5
  have h5 : (apD a ws : Int) = a - (ap0 a ws).sum := by unfold apD; omega
  rw [h5]
  exact ⟨by omega, h3⟩
theorem psum_nonneg : ∀ (l : List Int), (∀ x ∈ l, 0 ≤ x) → psum l = l.sum
  | [], _ => rfl
  | x :: l, h => by
    have h1 := psum_nonneg l fun y hy => h y (List.mem_cons_of_mem _ hy)
    have h2 := h x (List.mem_cons_self)
    unfold psum at *
    simp only [List.map_cons, List.sum_cons, h1]
    omega
theorem apOk_zero (h : ApIn a ws) (hp : 0 < ws.sum) : ApOk a ws 0 (apI a ws 0) := by
  refine ⟨ap0_len _ _, rs0_len _ _, by simp [apI, apN], fun k w x r hw hx hr => .inl ?_, ?_⟩
  · rw [show (apI a ws 0).1 = ap0 a ws from rfl, ap0_at hw] at hx
    rw [show (apI a ws 0).2 = rs0 a ws from rfl, rs0_at hw] at hr
    simp only [Option.some.injEq] at hx hr
    exact ⟨hx.symm, hr.symm⟩
  · show _ ≤ psum (rs0 a ws)
    rw [psum_nonneg _ fun x hx => by obtain ⟨w, _, rfl⟩ := List.mem_map.1 hx; exact Int.emod_nonneg _ (by omega), ← (h.d hp).2]
    simp
theorem apOk_succ (h : ApIn a ws) (hp : 0 < ws.sum) {n : Nat} {s : ApS} (hn : n < apD a ws) (hs : ApOk a ws n s) : ApOk a ws (n + 1) (apStep s) := by
  obtain ⟨l1, l2, hsum, hat, hrest⟩ := hs
  have hn0 := h.n0
  have hb : best s.2 < s.2.length := best_lt (by omega)
  obtain ⟨rb, hrb⟩ : ∃ r, s.2[best s.2]? = some r := ⟨_, List.getElem?_eq_getElem hb⟩
  obtain ⟨xb, hxb⟩ : ∃ x, s.1[best s.2]? = some x := ⟨_, List.getElem?_eq_getElem (by omega)⟩
  obtain ⟨wb, hwb⟩ : ∃ w, ws[best s.2]? = some w := ⟨_, List.getElem?_eq_getElem (by omega)⟩
  have hps : 0 < psum s.2 := by
    have h1 : ws.sum * 1 ≤ ws.sum * (apD a ws - n : Int) := Int.mul_le_mul_of_nonneg_left (by omega) (by omega)
    omega
  have hrpos : 0 < rb := by
    obtain ⟨k, y, hk, hy⟩ := sum_pos _ hps
    rw [List.getElem?_map] at hk
    cases hr : s.2[k]? with
    | none => rw [hr] at hk; simp at hk
    | some z =>
      rw [hr] at hk
      simp only [Option.map_some, Option.some.injEq] at hk
      obtain ⟨y', h1, h2⟩ := best_max hr
      rw [hrb] at h1
      simp only [Option.some.injEq] at h1
      omega
  have hcase := hat _ wb xb rb hwb hxb hrb
  have hrx : xb = a * wb / ws.sum ∧ rb = a * wb % ws.sum := by
    rcases hcase with hc | hc
    · exact hc
    · omega
  have hgd : s.1.getD (best s.2) 0 = xb := by simp [List.getD_eq_getElem?_getD, hxb]
  refine ⟨by simp [apStep, l1], by simp [apStep, l2], ?_, ?_, ?_⟩
  · simp only [apStep, hgd, sum_set _ _ _ _ hxb, hsum]; omega
  · intro k w x r hw hx hr
    simp only [apStep, hgd] at hx hr
    by_cases hk : k = best s.2
    · subst hk
      rw [List.getElem?_set_self (by omega)] at hx
      rw [List.getElem?_set_self (by omega)] at hr
      rw [hwb] at hw
      simp only [Option.some.injEq] at hx hr hw
      subst hw
      exact .inr ⟨by omega, hr.symm, by omega⟩
    · rw [List.getElem?_set_ne (by omega)] at hx
      rw [List.getElem?_set_ne (by omega)] at hr
      exact hat k w x r hw hx hr
  · have h1 : psum (apStep s).2 = psum s.2 - max rb 0 + 0 := by
      unfold psum
      simp only [apStep, List.map_set]
      rw [sum_set _ _ (max rb 0) _ (by rw [List.getElem?_map, hrb]; rfl)]
      rfl
    have h2 : rb < ws.sum := by rw [hrx.2]; exact Int.emod_lt_of_pos _ hp
    have h3 : ws.sum * (apD a ws - (n + 1 : Nat) : Int) = ws.sum * (apD a ws - n : Int) - ws.sum := by
      rw [show (apD a ws - (n + 1 : Nat) : Int) = (apD a ws - n : Int) - 1 by omega, Int.mul_sub, Int.mul_one]
    omega
theorem apOk (h : ApIn a ws) (hp : 0 < ws.sum) : ∀ n : Nat, n ≤ apD a ws → ApOk a ws n (apI a ws n)
  | 0, _ => apOk_zero h hp
  | n + 1, hn => apOk_succ h hp (by omega) (apOk h hp n (by omega))
theorem ap_div_bd (h : ApIn a ws) (hp : 0 < ws.sum) {k : Nat} {w : Int} (hw : ws[k]? = some w) : 0 ≤ a * w / ws.sum ∧ a * w / ws.sum ≤ 1000000 ∧ a * w / ws.sum ≤ a := by
  have h1 := h.prod hw
  have h2 := h.w k w hw
  refine ⟨Int.ediv_nonneg h1.1 (by omega), ?_, ?_⟩
  all_goals
    have hle : w ≤ ws.sum := by
      obtain ⟨hk, e⟩ := List.getElem?_eq_some_iff.1 hw
      have h5 := sum_take hw
      have h6 : (ws.take (k + 1)).sum ≤ ws.sum := by
        have h7 : ws.sum = (ws.take (k + 1)).sum + (ws.drop (k + 1)).sum := by rw [← sum_app, List.take_append_drop]
        have h8 := sum_bd (ws.drop (k + 1)) 0 1000000 fun x hx => h.mem x (List.mem_of_mem_drop hx)
        omega
      have h9 := sum_take_bd h.mem k
      omega
    have h3 : a * w / ws.sum ≤ a := by
      have := Int.ediv_le_ediv hp (Int.mul_le_mul_of_nonneg_left hle h.a0)
      rw [Int.mul_ediv_cancel _ (by omega)] at this
      exact this
    have := h.a1
    omega
/-- the values stay small -/
theorem ap_bd (h : ApIn a ws) (hp : 0 < ws.sum) {n : Nat} (hn : n ≤ apD a ws) : ∀ x ∈ (apI a ws n).1, 0 ≤ x ∧ x ≤ 1000001 := by
  have hok := apOk h hp n hn
  refine at_all fun k x hx => ?_
  have hk := (List.getElem?_eq_some_iff.1 hx).1
  obtain ⟨w, hw⟩ : ∃ w, ws[k]? = some w := ⟨_, List.getElem?_eq_getElem (by rw [← hok.l1]; exact hk)⟩
  obtain ⟨r, hr⟩ : ∃ r, (apI a ws n).2[k]? = some r := ⟨_, List.getElem?_eq_getElem (by rw [hok.l2, ← hok.l1]; exact hk)⟩
  have h1 := hok.at_ k w x r hw hx hr
  have h2 := ap_div_bd h hp hw
  omega
theorem ap_rs_bd (h : ApIn a ws) (hp : 0 < ws.sum) {n : Nat} (hn : n ≤ apD a ws) : ∀ x ∈ (apI a ws n).2, -1 ≤ x ∧ x ≤ 8000000 := by
  have hok := apOk h hp n hn
  have hs := h.sum
  refine at_all fun k r hr => ?_
  have hk := (List.getElem?_eq_some_iff.1 hr).1
  obtain ⟨w, hw⟩ : ∃ w, ws[k]? = some w := ⟨_, List.getElem?_eq_getElem (by rw [← hok.l2]; exact hk)⟩
  obtain ⟨x, hx⟩ : ∃ r, (apI a ws n).1[k]? = some r := ⟨_, List.getElem?_eq_getElem (by rw [hok.l1, ← hok.l2]; exact hk)⟩
  have h1 := hok.at_ k w x r hw hx hr
  have h2 := Int.emod_nonneg (a * w) (show ws.sum ≠ 0 by omega)
  have h3 := Int.emod_lt_of_pos (a * w) hp
  omega
theorem apL_len (h : ApIn a ws) : (apL a ws).length = ws.length := by
  unfold apL
  split
  · simp
  · have := h.sum
    exact (apOk h (by omega) _ (Nat.le_refl _)).l1
theorem apL_sum (h : ApIn a ws) : (apL a ws).sum = if ws.sum = 0 then 0 else a := by
  unfold apL
  split
  · exact sum_zero _
  · have := h.sum
    rw [(apOk h (by omega) _ (Nat.le_refl _)).sum]
    exact (h.d (by omega)).1
theorem apL_at (h : ApIn a ws) {k : Nat} {w x : Int} (hw : ws[k]? = some w) (hx : (apL a ws)[k]? = some x) : 0 ≤ x ∧ x ≤ a ∧ (w = 0 → x = 0) ∧ (a ≤ ws.sum → x ≤ w) := by
  have hs := h.sum
  have hwb := h.w k w hw
  have ha0 := h.a0
  unfold apL at hx
  split at hx
  · obtain ⟨h1, h2⟩ := List.getElem?_eq_some_iff.1 hx
    simp at h2
    omega
  · have hp : 0 < ws.sum := by omega
    have hok := apOk h hp _ (Nat.le_refl _)
    have hk := (List.getElem?_eq_some_iff.1 hx).1
    obtain ⟨r, hr⟩ : ∃ r, (apI a ws (apD a ws)).2[k]? = some r := ⟨_, List.getElem?_eq_getElem (by rw [hok.l2, ← hok.l1]; exact hk)⟩
    have h1 := hok.at_ k w x r hw hx hr
    have h2 := ap_div_bd h hp hw
    have h3 := Int.mul_ediv_add_emod (a * w) ws.sum
    have hwle : w ≤ ws.sum := by
      have h5 := sum_take hw
      have h7 : ws.sum = (ws.take (k + 1)).sum + (ws.drop (k + 1)).sum := by rw [← sum_app, List.take_append_drop]
      have h8 := sum_bd (ws.drop (k + 1)) 0 1000000 fun x hx => h.mem x (List.mem_of_mem_drop hx)
      have h9 := sum_take_bd h.mem k
      omega
    have h4 : a * w / ws.sum = a → a * w % ws.sum = 0 := fun e => by
      rw [e] at h3
      have h5 : a * w ≤ a * ws.sum := Int.mul_le_mul_of_nonneg_left hwle ha0
      have h6 := Int.emod_nonneg (a * w) (show ws.sum ≠ 0 by omega)
      rw [Int.mul_comm ws.sum a] at h3
      omega
    refine ⟨by omega, by omega, fun e => ?_, fun e => ?_⟩
    · subst e
      simp at h1
      omega
    · have h5 : a * w ≤ ws.sum * w := Int.mul_le_mul_of_nonneg_right e hwb.1
      have h6 : a * w / ws.sum ≤ w := by
        have := Int.ediv_le_ediv hp h5
        rw [Int.mul_ediv_cancel_left _ (by omega)] at this
        exact this
      have h7 : a * w / ws.sum = w → a * w % ws.sum = 0 := fun e2 => by
        rw [e2] at h3
        have := Int.emod_nonneg (a * w) (show ws.sum ≠ 0 by omega)
        omega
      omega
end
end Go.Proofs.YtbgfkhliideegaaGreat
