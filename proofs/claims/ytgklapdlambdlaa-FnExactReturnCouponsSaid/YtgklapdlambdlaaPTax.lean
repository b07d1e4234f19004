/- Plain arithmetic of taxes: what TaxIn and GrossFor compute, and the laws on it. No condition beyond those that each theorem states. -/
namespace Go.Proofs.Ytgklapdlambdlaa

def wi (n a b : Int) : Bool := decide (a ≤ n) && decide (n ≤ b)
theorem wi_true {n a b : Int} : wi n a b = true ↔ a ≤ n ∧ n ≤ b := by simp [wi]
theorem wi_false {n a b : Int} : wi n a b = false ↔ ¬ (a ≤ n ∧ n ≤ b) := by rw [← wi_true]; simp
def tax (a r : Int) : Int := (2 * a * r + (1000 + r)) / (2 * (1000 + r))
def taxF (a r : Int) : Int := if wi a 0 1000000 = true ∧ wi r 0 300 = true then tax a r else -1
theorem prod_bd {a r A R : Int} (h1 : 0 ≤ a) (h2 : a ≤ A) (h3 : 0 ≤ r) (h4 : r ≤ R) : 0 ≤ a * r ∧ a * r ≤ A * R :=
  ⟨Int.mul_nonneg h1 h3, Int.mul_le_mul h2 h4 h3 (by omega)⟩
theorem prod2 {a r : Int} : 2 * a * r = 2 * (a * r) := Int.mul_assoc 2 a r
/-- q is the quotient: by its two bounds. -/
theorem tax_iff {a r q : Int} (hr : 0 ≤ r) : q ≤ tax a r ↔ 2 * (q * (1000 + r)) ≤ 2 * (a * r) + (1000 + r) := by
  unfold tax
  rw [Int.le_ediv_iff_mul_le (by omega), prod2]
  have : q * (2 * (1000 + r)) = 2 * (q * (1000 + r)) := by rw [Int.mul_left_comm]
  rw [this]
theorem tax_bd {a r : Int} (h1 : 0 ≤ a) (hr : 0 ≤ r) : 0 ≤ tax a r ∧ tax a r ≤ a := by
  have hp : 0 ≤ a * r := Int.mul_nonneg h1 hr
  constructor
  · rw [tax_iff hr]; omega
  · have h2 : ¬ (a + 1 ≤ tax a r) := by
      rw [tax_iff hr]
      have : (a + 1) * (1000 + r) = 1000 * a + a * r + 1000 + r := by
        rw [Int.add_mul, Int.mul_add, Int.one_mul, Int.mul_comm a 1000]; omega
      omega
    omega
theorem tax_spec {a r : Int} (hr : 0 ≤ r) : 2 * (tax a r * (1000 + r)) ≤ 2 * (a * r) + (1000 + r) ∧ 2 * (a * r) + (1000 + r) < 2 * (tax a r * (1000 + r)) + 2 * (1000 + r) := by
  refine ⟨(tax_iff hr).1 (Int.le_refl _), ?_⟩
  have h : ¬ (tax a r + 1 ≤ tax a r) := by omega
  rw [tax_iff hr, Int.add_mul, Int.one_mul] at h
  omega
theorem tax_mono {a b r : Int} (hr : 0 ≤ r) (h : a ≤ b) : tax a r ≤ tax b r := by
  rw [tax_iff hr]
  have h1 := (tax_spec (a := a) hr).1
  have h2 : a * r ≤ b * r := Int.mul_le_mul_of_nonneg_right h hr
  omega
theorem tax_mono_rate {a r s : Int} (ha : 0 ≤ a) (hr : 0 ≤ r) (h : r ≤ s) : tax a r ≤ tax a s := by
  rw [tax_iff (by omega)]
  have h1 := (tax_spec (a := a) hr).1
  have h2 := tax_bd ha hr
  -- q (1000 + s) = q (1000 + r) + q (s - r), a s = a r + a (s - r), q ≤ a
  have h3 : tax a r * (1000 + s) = tax a r * (1000 + r) + tax a r * (s - r) := by rw [← Int.mul_add]; congr 1; omega
  have h4 : a * s = a * r + a * (s - r) := by rw [← Int.mul_add]; congr 1; omega
  have h5 : tax a r * (s - r) ≤ a * (s - r) := Int.mul_le_mul_of_nonneg_right h2.2 (by omega)
  omega
theorem tax_zero (a : Int) : tax a 0 = 0 := by
  unfold tax; simp
theorem tax_near {a r : Int} (hr : 0 ≤ r) : 2 * (tax a r * (1000 + r) - a * r) ≤ 1000 + r ∧ -(2 * (tax a r * (1000 + r) - a * r)) < 1000 + r := by
  have := tax_spec (a := a) hr
  omega

/-! the gross amount -/
/-- what is left of n is at least 'net' -/
theorem net_iff {n r net : Int} (hr : 0 ≤ r) : net ≤ n - tax n r ↔ 2 * (net * (1000 + r)) - (1000 + r) < 2000 * n := by
  have h : net ≤ n - tax n r ↔ ¬ (n - net + 1 ≤ tax n r) := by omega
  rw [h, tax_iff hr]
  have e1 : (n - net + 1) * (1000 + r) = 1000 * n + n * r - net * (1000 + r) + (1000 + r) := by
    rw [Int.add_mul, Int.sub_mul, Int.mul_add, Int.one_mul, Int.mul_comm n 1000]
  rw [e1]
  omega
def grossN (net r : Int) : Int := if net = 0 then 0 else (2 * (net * (1000 + r)) - (1000 + r)) / 2000 + 1
theorem gross_le {net r : Int} (h0 : 0 ≤ net) (hr : 0 ≤ r) : grossN net r - tax (grossN net r) r = net ∧ ∀ n, 0 ≤ n → n < grossN net r → n - tax n r < net := by
  have lt_of : ∀ n, ¬ (net ≤ n - tax n r) → n - tax n r < net := fun n h => by omega
  unfold grossN
  by_cases hz : net = 0
  · subst hz
    rw [if_pos rfl]
    refine ⟨?_, fun n h1 h2 => by omega⟩
    have := tax_bd (a := 0) (r := r) (by omega) hr
    omega
  · rw [if_neg hz]
    have hp : 1000 + r ≤ net * (1000 + r) := by
      have := Int.mul_le_mul_of_nonneg_right (show 1 ≤ net by omega) (show 0 ≤ 1000 + r by omega)
      rwa [Int.one_mul] at this
    generalize hK : 2 * (net * (1000 + r)) - (1000 + r) = K at *
    refine ⟨?_, fun n h1 h2 => lt_of n fun h => ?_⟩
    · have h1 : net ≤ (K / 2000 + 1) - tax (K / 2000 + 1) r := by rw [net_iff hr, hK]; omega
      have h2 : ¬ (net + 1 ≤ (K / 2000 + 1) - tax (K / 2000 + 1) r) := by
        rw [net_iff hr, Int.add_mul, Int.one_mul]
        omega
      omega
    · rw [net_iff hr, hK] at h; omega
theorem gross_start {net r : Int} (h0 : 0 ≤ net) (hr : 0 ≤ r) (h3 : r ≤ 300) : net * (1000 + r) / 1000 ≤ grossN net r ∧ grossN net r ≤ net * (1000 + r) / 1000 + 1 := by
  unfold grossN
  by_cases hz : net = 0
  · subst hz; simp
  · rw [if_neg hz]
    have hp : 1000 + r ≤ net * (1000 + r) := by
      have := Int.mul_le_mul_of_nonneg_right (show 1 ≤ net by omega) (show 0 ≤ 1000 + r by omega)
      rwa [Int.one_mul] at this
    omega
theorem gross_iff {n net r : Int} (h0 : 0 ≤ net) (hr : 0 ≤ r) (hn : 0 ≤ n) : net ≤ n - tax n r ↔ grossN net r ≤ n := by
  have hg := gross_le h0 hr
  constructor
  · intro h
    by_cases hc : grossN net r ≤ n
    · exact hc
    · have := hg.2 n hn (by omega); omega
  · intro h
    have h1 : net ≤ grossN net r - tax (grossN net r) r := by omega
    rw [net_iff hr] at h1 ⊢
    omega
theorem gross_bd {net r : Int} (h0 : 0 ≤ net) (h1 : net ≤ 500000) (hr : 0 ≤ r) (h3 : r ≤ 300) : 0 ≤ grossN net r ∧ grossN net r ≤ 650001 ∧ 0 ≤ net * (1000 + r) ∧ net * (1000 + r) ≤ 650000000 := by
  have h := gross_start h0 hr h3
  have hp := prod_bd (a := net) (r := 1000 + r) (A := 500000) (R := 1300) h0 h1 (by omega) (by omega)
  omega
def grossF (net r : Int) : Int := if wi net 0 500000 = true ∧ wi r 0 300 = true then grossN net r else -1
theorem taxF_laws {a r : Int} (h : wi a 0 1000000 = true ∧ wi r 0 300 = true) : 0 ≤ taxF a r ∧ taxF a r ≤ a ∧ taxF a 0 = 0 ∧ taxF a r ≤ taxF (min (a + 1) 1000000) r ∧ taxF a r ≤ taxF a (min (r + 1) 300) := by
  have ha := wi_true.1 h.1
  have hr := wi_true.1 h.2
  have e0 : taxF a r = tax a r := by simp only [taxF]; rw [if_pos h]
  have e1 : taxF a 0 = tax a 0 := by simp only [taxF]; rw [if_pos ⟨h.1, by rfl⟩]
  have e2 : taxF (min (a + 1) 1000000) r = tax (min (a + 1) 1000000) r := by simp only [taxF]; rw [if_pos ⟨wi_true.2 (by omega), h.2⟩]
  have e3 : taxF a (min (r + 1) 300) = tax a (min (r + 1) 300) := by simp only [taxF]; rw [if_pos ⟨h.1, wi_true.2 (by omega)⟩]
  rw [e0, e1, e2, e3, tax_zero]
  have b := tax_bd ha.1 hr.1
  exact ⟨b.1, b.2, rfl, tax_mono hr.1 (by omega), tax_mono_rate ha.1 hr.1 (by omega)⟩
theorem taxF_no {a r : Int} (h : ¬ (wi a 0 1000000 = true ∧ wi r 0 300 = true)) : taxF a r = -1 := by
  simp only [taxF]; rw [if_neg h]
theorem taxF_near {a r : Int} (h : wi a 0 1000000 = true ∧ wi r 0 300 = true) : 2 * (taxF a r * (1000 + r) - a * r) ≤ 1000 + r ∧ -(2 * (taxF a r * (1000 + r) - a * r)) < 1000 + r ∧ 0 ≤ taxF a r * (1000 + r) ∧ taxF a r * (1000 + r) ≤ 1300000000 ∧ 0 ≤ a * r ∧ a * r ≤ 300000000 := by
  have ha := wi_true.1 h.1
  have hr := wi_true.1 h.2
  have hb := taxF_laws h
  have e0 : taxF a r = tax a r := by simp only [taxF]; rw [if_pos h]
  have h1 := prod_bd (a := taxF a r) (r := 1000 + r) (A := 1000000) (R := 1300) hb.1 (by omega) (by omega) (by omega)
  have h2 := prod_bd ha.1 ha.2 hr.1 hr.2
  have h3 := tax_near (a := a) hr.1
  rw [← e0] at h3
  omega
end Go.Proofs.Ytgklapdlambdlaa
