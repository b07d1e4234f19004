/- Regions that draw their order and make or turn memory: what only reads is taken first, the rest one by one. No condition beyond those that each theorem states. -/
import Derived.Test.YtbgfkhliideegaaGreatLst
namespace Go.Proofs.YtbgfkhliideegaaGreat
open Go.RowKit
section
variable {P : Program} {ops : Array Oper} {N : Nat} {e : Env} {Q : Exit → Act → World → Prop} {C S : World → Prop} {ι : Type} {E : ι → Env} {D : ι → World → Prop} {ok : ι → Prop}
/-- what holds behind a region: of the frame and of the world, by whatever names it -/
def cutQ (N : Nat) (E : ι → Env) (D : ι → World → Prop) (ok : ι → Prop) : Exit → Act → World → Prop
  | .normal, a, w => ∃ i, ok i ∧ Fr N (E i) a ∧ D i w
  | _, _, _ => False
/-- a region on its way: 'done' tells what has come up -/
def RH (P : Program) (ops : Array Oper) (N : Nat) (e : Env) (C S : World → Prop) (E : ι → Env) (D : ι → World → Prop) (ok : ι → Prop) (fuel : Nat) (done : Array Bool) : Prop :=
  ∀ a w, Fr N e a → C w → wpAnyH P .any ops (cutQ N E D ok) S fuel done a w
def takeQ (P : Program) (ops : Array Oper) (N : Nat) (C S : World → Prop) (E : ι → Env) (D : ι → World → Prop) (ok : ι → Prop) (fuel : Nat) (done : Array Bool) : Exit → Act → World → Prop :=
  fun _ a' _ => ∀ w, C w → wpAnyH P .any ops (cutQ N E D ok) S fuel done a' w
def stepQ (P : Program) (ops : Array Oper) (N : Nat) (S : World → Prop) (E : ι → Env) (D : ι → World → Prop) (ok : ι → Prop) (fuel : Nat) (done : Array Bool) : Exit → Act → World → Prop
  | .normal, a', w' => S w' ∧ wpAnyH P .any ops (cutQ N E D ok) S fuel done a' w'
  | _, _, _ => False
theorem CS_regionH (n : Nat) (S : World → Prop) (E : ι → Env) (D : ι → World → Prop) (ok : ι → Prop) {id : Nat} {l : List Oper} {w0 : World} {h : List Ent} (hm : P.follows .mixedOrders = true) (hn : l.length = n)
    (hb : RH P l.toArray N e (Wd w0 h) S E D ok n (Array.replicate n false)) (hr : ∀ i, ok i → Post N (E i) (D i) .normal Q) : CS P N e (Wd w0 h) (.region id l.toArray true) Q := fun a w hf hc => by
  subst hn
  refine wp_mono (wp_region_held (S := S) (Q := cutQ N E D ok) hm ?_) fun x a' w' hq => ?_
  · have := hb a w.drew hf hc.drew
    simpa using this
  · cases x with
    | normal =>
      obtain ⟨i, h1, h2, h3⟩ := hq
      exact hr i h1 a' w' h2 h3
    | _ => cases hq
/-- the same, with what is kept named by its places among the own blocks -/
theorem CS_regionHi (n : Nat) (is : List Nat) (E : ι → Env) (D : ι → World → Prop) (ok : ι → Prop) {id : Nat} {l : List Oper} {w0 : World} {h k : List Ent} (hm : P.follows .mixedOrders = true) (hn : l.length = n) (_ : pickL is h = some k)
    (hb : RH P l.toArray N e (Wd w0 h) (Wd w0 k) E D ok n (Array.replicate n false)) (hr : ∀ i, ok i → Post N (E i) (D i) .normal Q) : CS P N e (Wd w0 h) (.region id l.toArray true) Q :=
  CS_regionH n (Wd w0 k) E D ok hm hn hb hr
/-- the same, where all that was there stays as it was -/
theorem CS_regionHk (n : Nat) (is : List Nat) (e' : Env) {id : Nat} {l : List Oper} {w0 : World} {h k : List Ent} (hm : P.follows .mixedOrders = true) (hn : l.length = n) (_ : pickL is h = some k)
    (hb : RH P l.toArray N e (Wd w0 h) (Wd w0 k) (fun _ : Unit => e') (fun _ => Wd w0 h) (fun _ => True) n (Array.replicate n false)) (hr : Post N e' (Wd w0 h) .normal Q) : CS P N e (Wd w0 h) (.region id l.toArray true) Q :=
  CS_regionH n (Wd w0 k) _ _ _ hm hn hb fun _ _ => hr
def nthO : List Oper → Nat → Option Oper
  | [], _ => none
  | x :: _, 0 => some x
  | _ :: l, n + 1 => nthO l n
theorem nthO_eq : ∀ (l : List Oper) (n : Nat), nthO l n = l.toArray[n]?
  | [], n => by simp [nthO]
  | x :: l, 0 => by simp [nthO]
  | x :: l, n + 1 => by have := nthO_eq l n; simp at this; simp [nthO, this]
section
variable {lo : List Oper}
theorem RH_take (i : Nat) {o : Oper} {fuel : Nat} {done : Array Bool} (hi0 : nthO lo i = some o) (hs : Region.noSelect lo.toArray = true) (hf : Region.free .any lo.toArray done i = true) (hr : (Region.ready .any lo.toArray done).contains i = true)
    (hCS : ∀ w, C w → S w) (h : RR .he P lo.toArray N e S [o] (takeQ P lo.toArray N C S E D ok fuel (done.setIfInBounds i true))) : RH P lo.toArray N e C S E D ok (fuel + 1) done := fun a w hfr hc => by
  have hi := (nthO_eq lo i).symm.trans hi0
  obtain ⟨v, hy, hk⟩ := h a hfr
  exact wpAnyH_take hi hs hf hr (fun c a w hq => by cases hq) hy (hCS w hc) (hk w (hCS w hc) w hc)
end
theorem post_take {fuel : Nat} {done : Array Bool} (h : RH P ops N e C S E D ok fuel done) : Post N e S .normal (takeQ P ops N C S E D ok fuel done) := fun a _ hf _ w hc => h a w hf hc
theorem post_step {fuel : Nat} {done : Array Bool} (hS : ∀ w, C w → S w) (h : RH P ops N e C S E D ok fuel done) : Post N e C .normal (stepQ P ops N S E D ok fuel done) := fun a w hf hc => ⟨hS w hc, h a w hf hc⟩
theorem upon_agree {o : Oper} {a : Act} {K : Act → World → Prop} {Q Q' : Exit → Act → World → Prop} (h1 : ∀ c a w, ¬ Q (.panic c) a w) (h2 : ¬ LetsOut Q) {r : Result Next} (h : o.upon P a K Q r) : o.upon P a K Q' r := by
  cases r with
  | ok n w' =>
    cases n <;> simp only [Oper.upon] at h ⊢ <;> first
      | exact h
      | (refine Calls.mono h fun x w'' hx => ?_
         cases x with
         | returned v => exact hx
         | panicked c => exact absurd hx (h1 _ _ _)
         | outgrown => exact absurd hx h2)
  | halt x w' => cases x <;> simp only [Oper.upon] at h ⊢ <;> first | exact absurd h (h1 _ _ _) | exact h
theorem wpOp_of_list {i : Nat} {o : Oper} {fuel : Nat} {done : Array Bool} {a : Act} {w : World} (hi : ops[i]? = some o) (h : wpList P ops (stepQ P ops N S E D ok fuel done) [o] a w) :
    wpOp P ops (cutQ N E D ok) i (fun a' w' => S w' ∧ wpAnyH P .any ops (cutQ N E D ok) S fuel done a' w') a w := by
  unfold wpOp
  simp only [hi]
  unfold wpList at h
  split at h
  · rename_i hw
    rw [if_pos hw]
    rcases h with h | h
    · exact .inl (upon_agree (fun c a w hq => by cases hq) (fun ⟨_, _, hq⟩ => by cases hq) h)
    · obtain ⟨_, _, _, hq⟩ := h; cases hq
  · rename_i hw
    rw [if_neg hw]
    exact h
theorem RH_step (i : Nat) {lo : List Oper} {o : Oper} {fuel : Nat} {done : Array Bool} (hr : Region.ready .any lo.toArray done = [i]) (hi : nthO lo i = some o)
    (h : RR .sq P lo.toArray N e C [o] (stepQ P lo.toArray N S E D ok fuel (done.setIfInBounds i true))) : RH P lo.toArray N e C S E D ok (fuel + 1) done := fun a w hfr hc =>
  wpAnyH_all hr (by simp) fun j hj => by
    have : j = i := by simpa using hj
    subst this
    exact wpOp_of_list ((nthO_eq lo _).symm.trans hi) (h a w hfr hc)
theorem RH_step2 (i j : Nat) {lo : List Oper} {o p : Oper} {fuel : Nat} {done : Array Bool} (hr : Region.ready .any lo.toArray done = [i, j]) (hi : nthO lo i = some o) (hj : nthO lo j = some p)
    (h1 : RR .sq P lo.toArray N e C [o] (stepQ P lo.toArray N S E D ok fuel (done.setIfInBounds i true))) (h2 : RR .sq P lo.toArray N e C [p] (stepQ P lo.toArray N S E D ok fuel (done.setIfInBounds j true))) : RH P lo.toArray N e C S E D ok (fuel + 1) done := fun a w hfr hc =>
  wpAnyH_all hr (by simp) fun k hk => by
    have : k = i ∨ k = j := by simpa using hk
    rcases this with rfl | rfl
    · exact wpOp_of_list ((nthO_eq lo _).symm.trans hi) (h1 a w hfr hc)
    · exact wpOp_of_list ((nthO_eq lo _).symm.trans hj) (h2 a w hfr hc)
theorem RH_step3 (i j k : Nat) {lo : List Oper} {o p q : Oper} {fuel : Nat} {done : Array Bool} (hr : Region.ready .any lo.toArray done = [i, j, k]) (hi : nthO lo i = some o) (hj : nthO lo j = some p) (hk : nthO lo k = some q)
    (h1 : RR .sq P lo.toArray N e C [o] (stepQ P lo.toArray N S E D ok fuel (done.setIfInBounds i true))) (h2 : RR .sq P lo.toArray N e C [p] (stepQ P lo.toArray N S E D ok fuel (done.setIfInBounds j true))) (h3 : RR .sq P lo.toArray N e C [q] (stepQ P lo.toArray N S E D ok fuel (done.setIfInBounds k true))) : RH P lo.toArray N e C S E D ok (fuel + 1) done := fun a w hfr hc =>
  wpAnyH_all hr (by simp) fun m hm => by
    have : m = i ∨ m = j ∨ m = k := by simpa using hm
    rcases this with rfl | rfl | rfl
    · exact wpOp_of_list ((nthO_eq lo _).symm.trans hi) (h1 a w hfr hc)
    · exact wpOp_of_list ((nthO_eq lo _).symm.trans hj) (h2 a w hfr hc)
    · exact wpOp_of_list ((nthO_eq lo _).symm.trans hk) (h3 a w hfr hc)
theorem RH_done {fuel : Nat} {done : Array Bool} (hr : Region.ready .any ops done = []) (h : Post N e C .normal (cutQ N E D ok)) : RH P ops N e C S E D ok fuel done := fun a w hf hc => wpAnyH_done hr (h a w hf hc) fuel
theorem post_cut (i : ι) (h1 : ok i) (h2 : SubE e (E i)) (h3 : ∀ w, C w → D i w) : Post N e C .normal (cutQ N E D ok) := fun _ w hf hc => ⟨i, h1, hf.sub h2, h3 w hc⟩
end
section
variable {P : Program} {N : Nat} {e : Env} {w0 : World} {h r : List Ent}
theorem run_own_agg {t T : TypeId} {n g tot off : Nat} {cs us : List Value} (i : Nat) [ht : AggTy P t n] (hpl : pull i h = some (⟨g, T, tot, cs⟩, r)) (hv : takeF (dropN cs off) n = some us) {w : World} (hw : Wd w0 h w) : (Instr.loadAt t (.pointer (some ⟨g, off, none⟩))).run P w = .ok (.agg us.toArray) w := by
  obtain ⟨h1, h2⟩ := takeF_eq _ _ _ hv
  rw [dropN_eq] at h1
  have h3 := ((hw.perm (pull_perm _ _ _ _ hpl)).head.pt off).take n
  rw [h1] at h3
  exact run_load_agg h2 h3
/-- results: an aggregate in an own cell, and a slot -/
theorem post_ret_ct {fn : Func} {R : Ending → World → Prop} {a u : Nat} {t T : TypeId} {n g tot off : Nat} {cs us : List Value} {x : Value} (i : Nat) (hr : fn.results = #[.cell a t, .tmp u]) (hp : look e a = some (.pointer (some ⟨g, off, none⟩))) [ht : AggTy P t n]
    (hpl : pull i h = some (⟨g, T, tot, cs⟩, r)) (hv : takeF (dropN cs off) n = some us) (hx : look e u = some x) (hR : ∀ w, Wd w0 h w → R (.returned (.tuple #[.agg us.toArray, x])) w) : Post N e (Wd w0 h) .ret (bodyPost P fn R) := by
  refine post_ret (vs := [.agg us.toArray, x]) ?_ rfl hR
  rw [hr]
  exact ⟨⟨_, hp, fun w hw => run_own_agg i hpl hv hw⟩, hx, trivial⟩
/-- results: two aggregates in own cells -/
theorem post_ret_cc {fn : Func} {R : Ending → World → Prop} {a b : Nat} {t t' T T' : TypeId} {n n' g g' tot tot' off off' : Nat} {cs us cs' us' : List Value} {r' : List Ent} (i j : Nat) (hr : fn.results = #[.cell a t, .cell b t']) (hp : look e a = some (.pointer (some ⟨g, off, none⟩))) [ht : AggTy P t n]
    (hpl : pull i h = some (⟨g, T, tot, cs⟩, r)) (hv : takeF (dropN cs off) n = some us) (hp' : look e b = some (.pointer (some ⟨g', off', none⟩))) [ht' : AggTy P t' n'] (hpl' : pull j h = some (⟨g', T', tot', cs'⟩, r')) (hv' : takeF (dropN cs' off') n' = some us')
    (hR : ∀ w, Wd w0 h w → R (.returned (.tuple #[.agg us.toArray, .agg us'.toArray])) w) : Post N e (Wd w0 h) .ret (bodyPost P fn R) := by
  refine post_ret (vs := [.agg us.toArray, .agg us'.toArray]) ?_ rfl hR
  rw [hr]
  exact ⟨⟨_, hp, fun w hw => run_own_agg i hpl hv hw⟩, ⟨_, hp', fun w hw => run_own_agg j hpl' hv' hw⟩, trivial⟩
end
/-! ## what is kept -/
theorem ks_id {w0 : World} {H : List Ent} : ∀ w, Wd w0 H w → Wd w0 H w := fun _ hw => hw
theorem ks_sub {w0 : World} {H K : List Ent} (h : K.Sublist H := by repeat (first | exact List.Sublist.refl _ | exact List.nil_sublist _ | apply List.Sublist.cons_cons | apply List.Sublist.cons)) : ∀ w, Wd w0 H w → Wd w0 K w := fun _ hw => hw.sub h
theorem ks_pull (i : Nat) {w0 : World} {H K : List Ent} {y : Ent} {r : List Ent} (hp : pull i H = some (y, r)) (h : K.Sublist (y :: r) := by repeat (first | exact List.Sublist.refl _ | exact List.nil_sublist _ | apply List.Sublist.cons_cons | apply List.Sublist.cons)) : ∀ w, Wd w0 H w → Wd w0 K w := fun _ hw => (hw.perm (pull_perm i _ _ _ hp)).sub h
end Go.Proofs.YtbgfkhliideegaaGreat
