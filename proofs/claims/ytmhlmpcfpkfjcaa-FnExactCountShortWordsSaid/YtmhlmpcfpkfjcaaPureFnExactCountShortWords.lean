/- For all k and n, CountShortWords of the program and of the reference return the same number and code; no condition beyond the row's. -/
import Derived.Test.YtmhlmpcfpkfjcaaPFnExactCountShortWordsx1
namespace Go.Proofs.Ytmhlmpcfpkfjcaa.Pure
open Go.RowKit Go.Proofs.Ytmhlmpcfpkfjcaa.PFnExactCountShortWords Go.Proofs.YtmhlmpcfpkfjcaaW.PrintWords Go.Proofs.YtmhlmpcfpkfjcaaW.PrintLast
set_option linter.unusedVariables false
set_option linter.unusedSimpArgs false

-- block base
theorem wid {n : Int} (h0 : -9223372036854775808 ≤ n) (h1 : n ≤ 9223372036854775807) : wrap64 n = n := by unfold wrap64; omega
theorem wrap_lo (n : Int) : -9223372036854775808 ≤ wrap64 n := by unfold wrap64; omega
theorem wrap_hi (n : Int) : wrap64 n ≤ 9223372036854775807 := by unfold wrap64; omega
theorem wf_lo {a : Int} (h : (Lit.int .i64 a).wf = true) : -9223372036854775808 ≤ a := by
  simp only [Lit.wf, Bool.and_eq_true, decide_eq_true_eq] at h
  exact h.1
theorem wf_hi {a : Int} (h : (Lit.int .i64 a).wf = true) : a ≤ 9223372036854775807 := by
  simp only [Lit.wf, Bool.and_eq_true, decide_eq_true_eq] at h
  exact h.2
theorem Ev.val {α : Type} {o : Option α} {r : α} (h : o = some r) : Ev (fun _ => o) r := ⟨0, fun _ _ => h⟩
/-- What comes first is known for every number of rounds. -/
theorem Ev.bindv {α β : Type} {o : Option α} {f : Nat → α → Option β} {a : α} {r : β} (h : o = some a) (k : Ev (fun n => f n a) r) : Ev (fun n => o.bind (f n)) r := by
  subst h; exact k

-- block power
/-- What a power loop makes of an int64: n factors p, each product wrapped. -/
def powW (p : Int) : Nat → Int → Int
  | 0, acc => acc
  | n + 1, acc => powW p n (wrap64 (acc * p))

-- block impl_power
theorem impl_power_l (p N : Int) (hN : N ≤ 9223372036854775807) (n : Nat) : ∀ (acc i : Int), 0 ≤ i → (i + n = N ∨ (n = 0 ∧ N ≤ i)) → Ev (fun k => impl_power.l0 k p acc N i) (powW p n acc) := by
  induction n with
  | zero =>
    intro acc i hi hx
    exact Ev.step (f := fun _ => some acc) (fun k => by simp only [impl_power.l0]; rw [if_neg (by omega)]) (Ev.now _)
  | succ n ih =>
    intro acc i hi hx
    exact Ev.step (f := fun k => impl_power.l0 k p (wrap64 (acc * p)) N (i + 1)) (fun k => by
      simp only [impl_power.l0]; rw [if_pos (by omega), show wrap64 (i + 1) = i + 1 from wid (by omega) (by omega)]) (ih _ (i + 1) (by omega) (by omega))
theorem impl_power_ev (p x : Int) (h : x ≤ 9223372036854775807) : Ev (fun k => impl_power.f k p x) (powW p x.toNat 1) := by
  refine Ev.congr (f := fun k => impl_power.l0 k p 1 x 0) (fun k => rfl) (impl_power_l p x h x.toNat 1 0 (by omega) (by omega))

-- block spec_l01Power
theorem spec_l01Power_l (p : Int) (n : Nat) : ∀ (x acc : Int), (n : Int) ≤ 9223372036854775807 → (x = n ∨ (n = 0 ∧ x ≤ 0)) → Ev (fun k => spec_l01Power.l0 k p x acc) (powW p n acc) := by
  induction n with
  | zero =>
    intro x acc _ hx
    exact Ev.step (f := fun _ => some acc) (fun k => by simp only [spec_l01Power.l0]; rw [if_neg (by omega)]) (Ev.now _)
  | succ n ih =>
    intro x acc hn hx
    have hx' : x = n + 1 := by omega
    exact Ev.step (f := fun k => spec_l01Power.l0 k p n (wrap64 (acc * p))) (fun k => by
      simp only [spec_l01Power.l0]; rw [if_pos (by omega), show wrap64 (x - 1) = (n : Int) from by rw [hx', wid (by omega) (by omega)]; omega]) (ih n _ (by omega) (.inl rfl))
theorem spec_l01Power_ev (p x : Int) (h : x ≤ 9223372036854775807) : Ev (fun k => spec_l01Power.f k p x) (powW p x.toNat 1) := by
  refine Ev.congr (f := fun k => spec_l01Power.l0 k p x 1) (fun k => rfl) (spec_l01Power_l p x.toNat x 1 (by omega) (by omega))

/-- The number and the code that both return. -/
def countW (a n : Int) : Int × Int :=
  if (1 ≤ a ∧ a ≤ 4) ∧ 0 ≤ n ∧ n ≤ 12 then (if n = 0 then (1, 0) else (wrap64 (wrap64 (2 * a) * powW (wrap64 (wrap64 (2 * a) - 1)) (wrap64 (n - 1)).toNat 1), 0)) else (0, 2)
theorem spec_j (a n : Int) (h : (1 ≤ a ∧ a ≤ 4) ∧ 0 ≤ n ∧ n ≤ 12) : Ev (fun k => spec_CountShortWords.j0 k a n false) (countW a n) := by
  unfold countW
  rw [if_pos h]
  by_cases e : n = 0
  · rw [if_pos e]
    exact Ev.step (f := fun _ => some (1, 0)) (fun k => by simp only [spec_CountShortWords.j0]; rw [if_neg (by decide), if_pos e]) (Ev.now _)
  · rw [if_neg e]
    refine Ev.step (f := fun k => (spec_l01Power.f k (wrap64 ((wrap64 (2 * a)) - 1)) (wrap64 (n - 1))).bind fun t => (some (wrap64 ((wrap64 (2 * a)) * t), 0))) (fun k => by simp only [spec_CountShortWords.j0]; rw [if_neg (by decide), if_neg e]) ?_
    exact Ev.bind (spec_l01Power_ev _ _ (wrap_hi _)) (Ev.now _)
theorem spec_no (a n : Int) : Ev (fun k => spec_CountShortWords.j0 k a n true) (0, 2) :=
  Ev.step (f := fun _ => some (0, 2)) (fun k => by simp only [spec_CountShortWords.j0]; rw [if_pos trivial]) (Ev.now _)
theorem spec_ev (a n : Int) : Ev (fun k => spec_CountShortWords.f k a n) (countW a n) := by
  unfold spec_CountShortWords.f spec_l01In.f
  by_cases h1 : a ≥ 1
  · by_cases h2 : a ≤ 4
    · by_cases h3 : n ≥ 0
      · by_cases h4 : n ≤ 12
        · simp only [if_pos h1, if_pos h3, Option.bind_some, decide_eq_true h2, decide_eq_true h4, if_true, Bool.not_true]
          exact spec_j a n ⟨⟨h1, h2⟩, h3, h4⟩
        · simp only [if_pos h1, if_pos h3, Option.bind_some, decide_eq_true h2, decide_eq_false h4, if_true, Bool.not_false]
          rw [countW, if_neg (by omega)]; exact spec_no a n
      · simp only [if_pos h1, if_neg h3, Option.bind_some, decide_eq_true h2, if_true, Bool.not_false]
        rw [countW, if_neg (by omega)]; exact spec_no a n
    · simp only [if_pos h1, Option.bind_some, decide_eq_false h2, Bool.false_eq_true, if_false]
      rw [countW, if_neg (by omega)]; exact spec_no a n
  · simp only [if_neg h1, Option.bind_some, Bool.false_eq_true, if_false]
    rw [countW, if_neg (by omega)]; exact spec_no a n
theorem impl_j (a n : Int) (h : (1 ≤ a ∧ a ≤ 4) ∧ 0 ≤ n ∧ n ≤ 12) : Ev (fun k => impl_CountShortWords.j0 k a n false) (countW a n) := by
  unfold countW
  rw [if_pos h]
  by_cases e : n = 0
  · rw [if_pos e]
    exact Ev.step (f := fun _ => some (1, 0)) (fun k => by simp only [impl_CountShortWords.j0]; rw [if_neg (by decide), if_pos e]) (Ev.now _)
  · rw [if_neg e]
    refine Ev.step (f := fun k => (impl_power.f k (wrap64 ((wrap64 (2 * a)) - 1)) (wrap64 (n - 1))).bind fun t => (some (wrap64 ((wrap64 (2 * a)) * t), 0))) (fun k => by simp only [impl_CountShortWords.j0]; rw [if_neg (by decide), if_neg e]) ?_
    exact Ev.bind (impl_power_ev _ _ (wrap_hi _)) (Ev.now _)
theorem impl_no (a n : Int) : Ev (fun k => impl_CountShortWords.j0 k a n true) (0, 2) :=
  Ev.step (f := fun _ => some (0, 2)) (fun k => by simp only [impl_CountShortWords.j0]; rw [if_pos trivial]) (Ev.now _)
theorem impl_ev (a n : Int) : Ev (fun k => impl_CountShortWords.f k a n) (countW a n) := by
  unfold impl_CountShortWords.f impl_isMovers.f
  by_cases h1 : a ≥ 1
  · by_cases h2 : a ≤ 4
    · by_cases h3 : n < 0
      · simp only [if_pos h1, if_pos h3, Option.bind_some, decide_eq_true h2, if_true]
        rw [countW, if_neg (by omega)]; exact impl_no a n
      · by_cases h4 : n > 12
        · simp only [if_pos h1, if_neg h3, Option.bind_some, decide_eq_true h2, decide_eq_true h4, if_true]
          rw [countW, if_neg (by omega)]; exact impl_no a n
        · simp only [if_pos h1, if_neg h3, Option.bind_some, decide_eq_true h2, decide_eq_false h4, if_true]
          exact impl_j a n ⟨⟨h1, h2⟩, by omega, by omega⟩
    · simp only [if_pos h1, Option.bind_some, decide_eq_false h2, Bool.false_eq_true, if_false]
      rw [countW, if_neg (by omega)]; exact impl_no a n
  · simp only [if_neg h1, Option.bind_some, Bool.false_eq_true, if_false]
    rw [countW, if_neg (by omega)]; exact impl_no a n
theorem FnExactCountShortWords : laws_FnExactCountShortWords.Pure := by
  intro a n _ _
  refine Ev.rounds ?_
  unfold laws_FnExactCountShortWords.f
  refine Ev.bind (spec_ev a n) (Ev.bind (impl_ev a n) ?_)
  simp only [if_true]
  exact Ev.now _

end Go.Proofs.Ytmhlmpcfpkfjcaa.Pure
