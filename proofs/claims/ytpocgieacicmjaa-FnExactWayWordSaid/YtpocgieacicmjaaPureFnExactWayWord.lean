/- For every p and two balls, WayWord of the program and of the reference return the same word and code; no condition beyond the row's. -/
import Derived.Test.YtpocgieacicmjaaQBx69
namespace Go.Proofs.Ytpocgieacicmjaa.Pure
open Go.RowKit Go.Proofs.Ytpocgieacicmjaa.QB Go.Proofs.YtpocgieacicmjaaW.PrintWords Go.Proofs.YtpocgieacicmjaaW.PrintLast
set_option linter.unusedVariables false
set_option linter.unusedSimpArgs false
set_option linter.unusedSectionVars false

-- block base
theorem wid {n : Int} (h0 : -9223372036854775808 ≤ n) (h1 : n ≤ 9223372036854775807) : wrap64 n = n := by unfold wrap64; omega
theorem wrap_lo (n : Int) : -9223372036854775808 ≤ wrap64 n := by unfold wrap64; omega
theorem wrap_hi (n : Int) : wrap64 n ≤ 9223372036854775807 := by unfold wrap64; omega
theorem wf_lo {a : Int} (h : (Lit.int .i64 a).wf = true) : -9223372036854775808 ≤ a := by
  simp only [Lit.wf, Bool.and_eq_true, decide_eq_true_eq] at h
  exact h.1
theorem wf_hi {a : Int} (h : (Lit.int .i64 a).wf = true) : a ≤ 9223372036854775807 := by
  simp only [Lit.wf, Bool.and_eq_true, decide_eq_true_eq] at h
  exact h.2
theorem Ev.val {α : Type} {o : Option α} {r : α} (h : o = some r) : Ev (fun _ => o) r := ⟨0, fun _ _ => h⟩
/-- What comes first is known for every number of rounds. -/
theorem Ev.bindv {α β : Type} {o : Option α} {f : Nat → α → Option β} {a : α} {r : β} (h : o = some a) (k : Ev (fun n => f n a) r) : Ev (fun n => o.bind (f n)) r := by
  subst h; exact k

-- block power
/-- What a power loop makes of an int64: n factors p, each product wrapped. -/
def powW (p : Int) : Nat → Int → Int
  | 0, acc => acc
  | n + 1, acc => powW p n (wrap64 (acc * p))

-- block prime
def primeB (p : Int) : Bool := p == 2 || (p == 3 || (p == 5 || p == 7))
theorem prime_cases {p : Int} (h : primeB p = true) : p = 2 ∨ p = 3 ∨ p = 5 ∨ p = 7 := by
  simpa [primeB] using h
theorem prime_lo {p : Int} (h : primeB p = true) : 2 ≤ p := by rcases prime_cases h with h | h | h | h <;> omega
theorem prime_hi {p : Int} (h : primeB p = true) : p ≤ 7 := by rcases prime_cases h with h | h | h | h <;> omega

-- block powp
theorem ipow_pos {p : Int} (hp : 1 ≤ p) (n : Nat) : (1 : Int) ≤ p ^ n := by
  have := Int.pow_pos (n := p) (m := n) (by omega)
  omega
theorem ipow_mono {p : Int} (hp : 1 ≤ p) {m n : Nat} (h : m ≤ n) : p ^ m ≤ p ^ n := by
  obtain ⟨d, rfl⟩ : ∃ d, n = m + d := ⟨n - m, by omega⟩
  rw [Int.pow_add]
  have h1 := ipow_pos hp m
  have h2 := ipow_pos hp d
  have := Int.mul_le_mul_of_nonneg_left h2 (show 0 ≤ p ^ m by omega)
  rwa [Int.mul_one] at this
theorem powW_fit (p : Int) (hp : 1 ≤ p) (n : Nat) : ∀ (acc : Int), 0 ≤ acc → acc * p ^ n ≤ 9223372036854775807 → powW p n acc = acc * p ^ n := by
  induction n with
  | zero => intro acc _ _; simp [powW]
  | succ n ih =>
    intro acc h0 h
    have hpn : (1 : Int) ≤ p ^ n := ipow_pos hp n
    have e : acc * p ^ (n + 1) = acc * p * p ^ n := by rw [Int.pow_succ, Int.mul_comm (p ^ n) p, ← Int.mul_assoc]
    have h1 : 0 ≤ acc * p := Int.mul_nonneg h0 (by omega)
    have h2 : acc * p ≤ acc * p * p ^ n := by
      have := Int.mul_le_mul_of_nonneg_left hpn h1
      rwa [Int.mul_one] at this
    simp only [powW]
    rw [wid (by omega) (by omega), ih _ h1 (by omega), e]
theorem pow_le_top {p : Int} (h : primeB p = true) (n : Nat) (hn : n ≤ 22) : p ^ n ≤ 9223372036854775807 := by
  have hp := prime_lo h
  have h1 : p ^ n ≤ p ^ 22 := ipow_mono (by omega) hn
  have h2 : p ^ 22 ≤ 9223372036854775807 := by
    rcases prime_cases h with rfl | rfl | rfl | rfl <;> decide
  omega
theorem powW_prime {p : Int} (h : primeB p = true) (n : Nat) (hn : n ≤ 22) : powW p n 1 = p ^ n := by
  have hp := prime_lo h
  rw [powW_fit p (by omega) n 1 (by omega) (by rw [Int.one_mul]; exact pow_le_top h n hn), Int.one_mul]

-- block ball
/-- What both texts take for a ball: its three numbers. -/
def ballB (p L T D : Int) : Bool :=
  primeB p && (decide (-6 ≤ L ∧ L ≤ 6) && (decide (0 ≤ D ∧ D ≤ 6) && (if L + D ≤ 0 then T == 0 && D == 0 else decide (0 ≤ T ∧ T < p ^ (L + D).toNat) && (D == 0 || !(Int.tmod T p == 0)))))

-- block val
/-- How many factors p a number other than 0 has. -/
def valF (p : Int) : Nat → Int → Nat
  | 0, _ => 0
  | f + 1, n => if n % p = 0 then valF p f (n / p) + 1 else 0
def val (p n : Int) : Nat := valF p n.natAbs n
theorem valF_spec {p : Int} (hp : 2 ≤ p) (f : Nat) : ∀ n : Int, n ≠ 0 → n.natAbs ≤ f → ∃ u, n = p ^ (valF p f n) * u ∧ ¬ p ∣ u := by
  induction f with
  | zero => intro n h0 hf; omega
  | succ f ih =>
    intro n h0 hf
    unfold valF
    by_cases h : n % p = 0
    · rw [if_pos h]
      obtain ⟨q, hq⟩ := Int.dvd_of_emod_eq_zero h
      have hq0 : q ≠ 0 := by intro e; subst e; simp at hq; exact h0 hq
      have hdiv : n / p = q := by rw [hq]; exact Int.mul_ediv_cancel_left q (by omega)
      rw [hdiv]
      have hlt : q.natAbs ≤ f := by
        have : n.natAbs = p.natAbs * q.natAbs := by rw [hq, Int.natAbs_mul]
        have h2 : 2 * q.natAbs ≤ p.natAbs * q.natAbs := Nat.mul_le_mul_right _ (by omega)
        omega
      obtain ⟨u, hu, hn⟩ := ih q hq0 hlt
      refine ⟨u, ?_, hn⟩
      conv => lhs; rw [hq, hu]
      rw [Int.pow_succ', Int.mul_assoc]
    · rw [if_neg h]
      exact ⟨n, by simp, fun hd => h (Int.emod_eq_zero_of_dvd hd)⟩
theorem val_spec {p n : Int} (hp : 2 ≤ p) (h : n ≠ 0) : ∃ u, n = p ^ (val p n) * u ∧ ¬ p ∣ u := valF_spec hp _ n h (Nat.le_refl _)
theorem pow_unique {p u u' : Int} (hp : 2 ≤ p) (hu : ¬ p ∣ u) (hu' : ¬ p ∣ u') : ∀ (v v' : Nat), p ^ v * u = p ^ v' * u' → v = v' := by
  have key : ∀ (v d : Nat) (x x' : Int), ¬ p ∣ x → p ^ v * x = p ^ (v + (d + 1)) * x' → False := by
    intro v d x x' hx h
    rw [Int.pow_add, Int.mul_assoc] at h
    have h2 : x = p ^ (d + 1) * x' := Int.eq_of_mul_eq_mul_left (Int.pow_ne_zero (by omega)) h
    apply hx
    rw [h2, Int.pow_succ', Int.mul_assoc]
    exact Int.dvd_mul_right _ _
  intro v v' h
  rcases Nat.lt_trichotomy v v' with h1 | h1 | h1
  · obtain ⟨d, rfl⟩ : ∃ d, v' = v + (d + 1) := ⟨v' - v - 1, by omega⟩
    exact (key v d u u' hu h).elim
  · exact h1
  · obtain ⟨d, rfl⟩ : ∃ d, v = v' + (d + 1) := ⟨v - v' - 1, by omega⟩
    exact (key v' d u' u hu' h.symm).elim
theorem val_eq {p n u : Int} {v : Nat} (hp : 2 ≤ p) (h : n = p ^ v * u) (hu : ¬ p ∣ u) : val p n = v := by
  have hn : n ≠ 0 := by
    intro e; rw [e] at h
    rcases Int.mul_eq_zero.1 h.symm with h | h
    · exact Int.pow_ne_zero (by omega) h
    · exact hu (by rw [h]; exact Int.dvd_zero p)
  obtain ⟨u', h', hu'⟩ := val_spec hp hn
  exact pow_unique hp hu' hu _ _ (h'.symm.trans h)
theorem val_pow_mul {p e : Int} (j : Nat) (hp : 2 ≤ p) (he : e ≠ 0) : val p (p ^ j * e) = j + val p e := by
  obtain ⟨u, h, hu⟩ := val_spec hp he
  refine val_eq hp (u := u) ?_ hu
  conv => lhs; rw [h]
  rw [Int.pow_add, Int.mul_assoc]
theorem val_dvd {p n : Int} (hp : 2 ≤ p) (h : n ≠ 0) (j : Nat) : p ^ j ∣ n ↔ j ≤ val p n := by
  obtain ⟨u, hu, hn⟩ := val_spec hp h
  constructor
  · rintro ⟨q, hq⟩
    rcases Nat.lt_or_ge (val p n) j with h1 | h1
    · exfalso
      obtain ⟨d, hd⟩ : ∃ d, j = val p n + (d + 1) := ⟨j - val p n - 1, by omega⟩
      have h2 : p ^ (val p n) * u = p ^ (val p n) * (p ^ (d + 1) * q) := by
        have e : n = p ^ (val p n) * (p ^ (d + 1) * q) := by rw [← Int.mul_assoc, ← Int.pow_add, ← hd]; exact hq
        exact hu.symm.trans e
      have h3 := Int.eq_of_mul_eq_mul_left (Int.pow_ne_zero (by omega)) h2
      apply hn
      rw [h3, Int.pow_succ', Int.mul_assoc]
      exact Int.dvd_mul_right _ _
    · exact h1
  · intro h1
    obtain ⟨d, hd⟩ : ∃ d, val p n = j + d := ⟨val p n - j, by omega⟩
    refine ⟨p ^ d * u, ?_⟩
    conv => lhs; rw [hu, hd, Int.pow_add, Int.mul_assoc]
theorem val_le_of_lt {p n : Int} (hp : 2 ≤ p) (h : n ≠ 0) (j : Nat) (hlt : n.natAbs < 2 ^ j) : val p n < j := by
  rcases Nat.lt_or_ge (val p n) j with h1 | h1
  · exact h1
  · exfalso
    obtain ⟨q, hq⟩ := (val_dvd hp h j).2 h1
    have hq0 : q ≠ 0 := by intro e; subst e; simp at hq; exact h hq
    have : n.natAbs = p.natAbs ^ j * q.natAbs := by rw [hq, Int.natAbs_mul, Int.natAbs_pow]
    have h2 : 2 ^ j ≤ p.natAbs ^ j := Nat.pow_le_pow_left (by omega) j
    have h3 : p.natAbs ^ j * 1 ≤ p.natAbs ^ j * q.natAbs := Nat.mul_le_mul_left _ (by omega)
    omega
theorem tdiv_bdv {x M : Int} (g : Int) (hx : -M ≤ x ∧ x ≤ M) : -M ≤ Int.tdiv x g ∧ Int.tdiv x g ≤ M := by
  have := Int.natAbs_tdiv_le_natAbs x g
  omega

-- block powlem
theorem pow_13 {p : Int} (hp : primeB p = true) (n : Nat) (h : n ≤ 12) : p ^ n ≤ 13841287201 := by
  have hp2 := prime_lo hp
  have h1 : p ^ n ≤ p ^ 12 := ipow_mono (by omega) h
  have h2 : p ^ 12 ≤ 13841287201 := by rcases prime_cases hp with rfl | rfl | rfl | rfl <;> decide
  omega
theorem pow_6 {p : Int} (hp : primeB p = true) (n : Nat) (h : n ≤ 6) : p ^ n ≤ 117649 := by
  have hp2 := prime_lo hp
  have h1 : p ^ n ≤ p ^ 6 := ipow_mono (by omega) h
  have h2 : p ^ 6 ≤ 117649 := by rcases prime_cases hp with rfl | rfl | rfl | rfl <;> decide
  omega

-- block markM
/-! A ball by its level and its mark: the centre times p to the sixth, modulo p to the level + 6. -/
def markOf (p T D : Int) : Int := T * p ^ (6 - D).toNat
def ofM (p L X : Int) : Int × Int × Int :=
  let x := X % p ^ (L + 6).toNat
  let dn : Int := if x = 0 then 0 else if (val p x : Int) < 6 then 6 - val p x else 0
  (L, x / p ^ (6 - dn).toNat, dn)
theorem ofM_of {p L X T D : Int} (hp : 2 ≤ p) (hx : X % p ^ (L + 6).toNat = T * p ^ (6 - D).toNat) (hD : 0 ≤ D ∧ D ≤ 6) (hu : D = 0 ∨ ¬ p ∣ T) : ofM p L X = (L, T, D) := by
  unfold ofM
  simp only [hx]
  have hpow : ∀ j : Nat, p ^ j ≠ 0 := fun j => Int.pow_ne_zero (by omega)
  by_cases h0 : T * p ^ (6 - D).toNat = 0
  · have hT : T = 0 := by
      rcases Int.mul_eq_zero.1 h0 with h | h
      · exact h
      · exact absurd h (hpow _)
    have hD0 : D = 0 := by
      rcases hu with h | h
      · exact h
      · exact absurd (by rw [hT]; exact Int.dvd_zero p) h
    subst hT; subst hD0
    simp
  · rw [if_neg h0]
    have hT : T ≠ 0 := by intro e; rw [e] at h0; simp at h0
    have hv : val p (T * p ^ (6 - D).toNat) = (6 - D).toNat + val p T := by rw [Int.mul_comm]; exact val_pow_mul _ hp hT
    have hdn : (if ((val p (T * p ^ (6 - D).toNat) : Nat) : Int) < 6 then 6 - ((val p (T * p ^ (6 - D).toNat) : Nat) : Int) else 0) = D := by
      rw [hv]
      rcases hu with h | h
      · rw [if_neg (by omega)]; exact h.symm
      · have : val p T = 0 := val_eq hp (u := T) (by simp) h
        rw [this]
        by_cases hd : D = 0
        · rw [if_neg (by omega)]; exact hd.symm
        · rw [if_pos (by omega)]; omega
    rw [hdn, Int.mul_ediv_cancel _ (hpow _)]
theorem ofM_mod (p L X : Int) : ofM p L (X % p ^ (L + 6).toNat) = ofM p L X := by unfold ofM; simp only [Int.emod_emod]
theorem ofM_back {p L X : Int} (hp : 2 ≤ p) : (ofM p L X).2.1 * p ^ (6 - (ofM p L X).2.2).toNat = X % p ^ (L + 6).toNat ∧ (0 ≤ (ofM p L X).2.2 ∧ (ofM p L X).2.2 ≤ 6) ∧ ((ofM p L X).2.2 = 0 ∨ ¬ p ∣ (ofM p L X).2.1) := by
  unfold ofM
  simp only
  generalize hx : X % p ^ (L + 6).toNat = x
  by_cases h0 : x = 0
  · rw [if_pos h0]; simp [h0]
  · rw [if_neg h0]
    obtain ⟨u, hu, hn⟩ := val_spec hp h0
    have hpow : ∀ j : Nat, p ^ j ≠ 0 := fun j => Int.pow_ne_zero (by omega)
    by_cases hv : ((val p x : Nat) : Int) < 6
    · rw [if_pos hv]
      have e : (6 - (6 - ((val p x : Nat) : Int))).toNat = val p x := by omega
      rw [e]
      have hq : x / p ^ val p x = u := by
        conv => lhs; lhs; rw [hu]
        exact Int.mul_ediv_cancel_left _ (hpow _)
      rw [hq]
      refine ⟨?_, by omega, .inr hn⟩
      rw [Int.mul_comm]; exact hu.symm
    · rw [if_neg hv]
      refine ⟨?_, by omega, .inl rfl⟩
      have hd : p ^ (6 - (0 : Int)).toNat ∣ x := (val_dvd hp h0 _).2 (by omega)
      exact Int.ediv_mul_cancel hd
theorem ofM_inj {p L X Y : Int} (hp : 2 ≤ p) : ofM p L X = ofM p L Y ↔ X % p ^ (L + 6).toNat = Y % p ^ (L + 6).toNat := by
  constructor
  · intro h
    rw [← (ofM_back (X := X) hp).1, ← (ofM_back (X := Y) hp).1, h]
  · intro h
    rw [← ofM_mod p L X, h, ofM_mod]
theorem ball_parts {p L T D : Int} (h : ballB p L T D = true) : primeB p = true ∧ (-6 ≤ L ∧ L ≤ 6) ∧ (0 ≤ D ∧ D ≤ 6) ∧ (L + D ≤ 0 → T = 0 ∧ D = 0) ∧ (0 < L + D → (0 ≤ T ∧ T < p ^ (L + D).toNat) ∧ (D = 0 ∨ ¬ p ∣ T)) := by
  unfold ballB at h
  simp only [Bool.and_eq_true, decide_eq_true_eq] at h
  obtain ⟨h1, h2, h3, h4⟩ := h
  refine ⟨h1, h2, h3, ?_, ?_⟩
  · intro hn; rw [if_pos hn] at h4; simpa using h4
  · intro hn
    rw [if_neg (by omega)] at h4
    simp only [Bool.and_eq_true, decide_eq_true_eq, Bool.or_eq_true, beq_iff_eq, Bool.not_eq_true', beq_eq_false_iff_ne] at h4
    refine ⟨h4.1, ?_⟩
    rcases h4.2 with h5 | h5
    · exact .inl h5
    · exact .inr (fun hd => h5 (Int.tmod_eq_zero_of_dvd hd))
/-- The mark of a ball: at least 0, less than p to the level + 6; the ball comes back from it. -/
theorem mark_lt {p L T D : Int} (h : ballB p L T D = true) : 0 ≤ markOf p T D ∧ markOf p T D < p ^ (L + 6).toNat := by
  obtain ⟨hp, hL, hD, h0, h1⟩ := ball_parts h
  have hp2 := prime_lo hp
  unfold markOf
  by_cases hn : L + D ≤ 0
  · rw [(h0 hn).1]
    have := ipow_pos (p := p) (by omega) (L + 6).toNat
    omega
  · obtain ⟨⟨a, b⟩, _⟩ := h1 (by omega)
    have hq := ipow_pos (p := p) (by omega) (6 - D).toNat
    refine ⟨Int.mul_nonneg a (by omega), ?_⟩
    have e : p ^ (L + 6).toNat = p ^ (L + D).toNat * p ^ (6 - D).toNat := by rw [← Int.pow_add]; congr 1; omega
    rw [e]
    exact Int.mul_lt_mul_of_pos_right b (by omega)
theorem mark_mod {p L T D : Int} (h : ballB p L T D = true) : markOf p T D % p ^ (L + 6).toNat = markOf p T D := Int.emod_eq_of_lt (mark_lt h).1 (mark_lt h).2
theorem ball_unit {p L T D : Int} (h : ballB p L T D = true) : D = 0 ∨ ¬ p ∣ T := by
  obtain ⟨_, _, _, h0, h1⟩ := ball_parts h
  by_cases hn : L + D ≤ 0
  · exact .inl (h0 hn).2
  · exact (h1 (by omega)).2
theorem ofM_mark {p L T D : Int} (h : ballB p L T D = true) : ofM p L (markOf p T D) = (L, T, D) :=
  ofM_of (prime_lo (ball_parts h).1) (mark_mod h) (ball_parts h).2.2.1 (ball_unit h)
/-- What is made of a mark is a ball. -/
theorem ofM_ball {p L X : Int} (hp : primeB p = true) (hL : -6 ≤ L ∧ L ≤ 6) : ballB p L (ofM p L X).2.1 (ofM p L X).2.2 = true := by
  have hp2 := prime_lo hp
  obtain ⟨hx, hD, hu⟩ := ofM_back (p := p) (L := L) (X := X) hp2
  have hpos := ipow_pos (p := p) (by omega) (L + 6).toNat
  have hx0 := Int.emod_nonneg X (show p ^ (L + 6).toNat ≠ 0 by omega)
  have hx1 := Int.emod_lt_of_pos X (show 0 < p ^ (L + 6).toNat by omega)
  generalize (ofM p L X).2.1 = T at *
  generalize (ofM p L X).2.2 = D at *
  have hq := ipow_pos (p := p) (by omega) (6 - D).toNat
  rw [← hx] at hx0 hx1
  have hT0 : 0 ≤ T := by
    rcases Int.lt_or_le T 0 with h | h
    · have := Int.mul_neg_of_neg_of_pos h (show 0 < p ^ (6 - D).toNat by omega); omega
    · exact h
  unfold ballB
  rw [hp, decide_eq_true hL, decide_eq_true hD, Bool.true_and, Bool.true_and, Bool.true_and]
  by_cases hn : L + D ≤ 0
  · rw [if_pos hn]
    have hT : T = 0 := by
      rcases Int.lt_or_eq_of_le hT0 with h | h
      · exfalso
        have e : p ^ (6 - D).toNat = p ^ (L + 6).toNat * p ^ (-(L + D)).toNat := by rw [← Int.pow_add]; congr 1; omega
        have h2 := ipow_pos (p := p) (by omega) (-(L + D)).toNat
        have h3 : p ^ (L + 6).toNat * 1 ≤ p ^ (L + 6).toNat * p ^ (-(L + D)).toNat := Int.mul_le_mul_of_nonneg_left (by omega) (by omega)
        have h4 : 1 * p ^ (6 - D).toNat ≤ T * p ^ (6 - D).toNat := Int.mul_le_mul_of_nonneg_right (by omega) (by omega)
        omega
      · exact h.symm
    have hD0 : D = 0 := by
      rcases hu with h | h
      · exact h
      · exact absurd (by rw [hT]; exact Int.dvd_zero p) h
    simp [hT, hD0]
  · rw [if_neg hn]
    have hlt : T < p ^ (L + D).toNat := by
      have e : p ^ (L + 6).toNat = p ^ (L + D).toNat * p ^ (6 - D).toNat := by rw [← Int.pow_add]; congr 1; omega
      rw [e] at hx1
      exact Int.lt_of_mul_lt_mul_right hx1 (by omega)
    rw [decide_eq_true (show 0 ≤ T ∧ T < p ^ (L + D).toNat from ⟨hT0, hlt⟩), Bool.true_and]
    rcases hu with h | h
    · simp [h]
    · have : (Int.tmod T p == 0) = false := beq_eq_false_iff_ne.2 (fun e => h (Int.dvd_of_tmod_eq_zero e))
      simp [this]
theorem ball_num {p L T D : Int} (h : ballB p L T D = true) : 0 ≤ T ∧ T ≤ 13841287201 := by
  obtain ⟨hp, hL, hD, h0, h1⟩ := ball_parts h
  have hp2 := prime_lo hp
  by_cases hn : L + D ≤ 0
  · rw [(h0 hn).1]; omega
  · have := (h1 (by omega)).1
    have := pow_13 hp (L + D).toNat (by omega)
    omega

-- block impl_isPrime
theorem impl_isPrime_eq (p : Int) : impl_isPrime.f p = some (primeB p) := by
  unfold impl_isPrime.f primeB
  by_cases h2 : p = 2
  · simp [h2]
  · by_cases h3 : p = 3
    · simp [h3]
    · by_cases h5 : p = 5
      · simp [h5]
      · rw [if_neg h2, if_neg h3, if_neg h5, beq_eq_false_iff_ne.2 h2, beq_eq_false_iff_ne.2 h3, beq_eq_false_iff_ne.2 h5]; rfl

-- block impl_power
theorem impl_power_l (p N : Int) (hN : N ≤ 9223372036854775807) (n : Nat) : ∀ (acc i : Int), 0 ≤ i → (i + n = N ∨ (n = 0 ∧ N ≤ i)) → Ev (fun k => impl_power.l0 k p acc N i) (powW p n acc) := by
  induction n with
  | zero =>
    intro acc i hi hx
    exact Ev.step (f := fun _ => some acc) (fun k => by simp only [impl_power.l0]; rw [if_neg (by omega)]) (Ev.now _)
  | succ n ih =>
    intro acc i hi hx
    exact Ev.step (f := fun k => impl_power.l0 k p (wrap64 (acc * p)) N (i + 1)) (fun k => by
      simp only [impl_power.l0]; rw [if_pos (by omega), show wrap64 (i + 1) = i + 1 from wid (by omega) (by omega)]) (ih _ (i + 1) (by omega) (by omega))
theorem impl_power_ev (p x : Int) (h : x ≤ 9223372036854775807) : Ev (fun k => impl_power.f k p x) (powW p x.toNat 1) := by
  refine Ev.congr (f := fun k => impl_power.l0 k p 1 x 0) (fun k => rfl) (impl_power_l p x h x.toNat 1 0 (by omega) (by omega))

-- block impl_IsBall
theorem impl_isLevel_eq (L : Int) : impl_isLevel.f L = some (decide (-6 ≤ L ∧ L ≤ 6)) := by
  unfold impl_isLevel.f
  by_cases h : L ≥ -6
  · rw [if_pos h]; congr 1; exact decide_eq_decide.2 ⟨fun h2 => ⟨h, h2⟩, fun h2 => h2.2⟩
  · rw [if_neg h]; congr 1; exact (decide_eq_false (fun h2 => h h2.1)).symm
theorem impl_IsBall_ev (p L T D : Int) : Ev (fun k => impl_IsBall.f k p L T D) (ballB p L T D) := by
  have hno : Ev (fun k => impl_IsBall.j0 k p true L T D) false := Ev.step (f := fun _ => some false) (fun k => by simp only [impl_IsBall.j0, if_true]) (Ev.now _)
  unfold impl_IsBall.f
  refine Ev.bindv (impl_isPrime_eq p) ?_
  unfold ballB
  cases hp : primeB p with
  | false => simpa using hno
  | true =>
    have hp2 := prime_lo hp
    simp only [if_true, Bool.true_and]
    refine Ev.bindv (impl_isLevel_eq L) ?_
    by_cases hL : -6 ≤ L ∧ L ≤ 6
    · rw [decide_eq_true hL]; simp only [if_true, Bool.true_and]
      by_cases hD0 : D < 0
      · rw [decide_eq_false (show ¬ (0 ≤ D ∧ D ≤ 6) by omega)]; simp only [if_pos hD0, Bool.false_and]; exact hno
      simp only [if_neg hD0]
      by_cases hD : 0 ≤ D ∧ D ≤ 6
      · rw [decide_eq_true hD, decide_eq_false (show ¬ D > 6 by omega)]; simp only [Bool.true_and]
        have hn := wid (n := L + D) (by omega) (by omega)
        by_cases h0 : L + D ≤ 0
        · rw [if_pos h0]
          refine Ev.step (f := fun _ => some (T == 0 && D == 0)) (fun k => ?_) (Ev.now _)
          simp only [impl_IsBall.j0]
          rw [if_neg (by decide), hn, if_pos h0]
          by_cases hT : T = 0
          · simp [hT]
          · simp [hT]
        · rw [if_neg h0]
          by_cases hT0 : T ≥ 0
          · refine Ev.step (f := fun k => (impl_power.f k p (L + D)).bind fun t => if T < t then (if D = 0 then some true else if p = 0 then none else some (Int.tmod T p != 0)) else some false) (fun k => by simp only [impl_IsBall.j0]; rw [if_neg (by decide), hn, if_neg h0, if_pos hT0]) ?_
            refine Ev.bind (impl_power_ev p (L + D) (by omega)) ?_
            rw [powW_prime hp _ (by omega)]
            by_cases hT1 : T < p ^ (L + D).toNat
            · rw [if_pos hT1, decide_eq_true (show 0 ≤ T ∧ T < p ^ (L + D).toNat from ⟨hT0, hT1⟩), Bool.true_and]
              by_cases hd : D = 0
              · simp only [hd, if_true]; simp; exact Ev.now _
              · rw [if_neg hd, if_neg (by omega), show (D == 0) = false from beq_eq_false_iff_ne.2 hd, Bool.false_or]
                exact Ev.now _
            · rw [if_neg hT1, decide_eq_false (show ¬ (0 ≤ T ∧ T < p ^ (L + D).toNat) from fun h => hT1 h.2), Bool.false_and]
              exact Ev.now _
          · rw [decide_eq_false (show ¬ (0 ≤ T ∧ T < p ^ (L + D).toNat) from fun h => hT0 h.1), Bool.false_and]
            refine Ev.step (f := fun _ => some false) (fun k => ?_) (Ev.now _)
            simp only [impl_IsBall.j0]
            rw [if_neg (by decide), hn, if_neg h0, if_neg hT0]
      · rw [decide_eq_false hD, decide_eq_true (show D > 6 by omega)]; simpa using hno
    · rw [decide_eq_false hL]; simpa using hno

-- block impl_mark
theorem impl_mark_ev {p L T D : Int} (h : ballB p L T D = true) : Ev (fun k => impl_mark.f k p L T D) (markOf p T D) := by
  obtain ⟨hp, hL, hD, _, _⟩ := ball_parts h
  have hp2 := prime_lo hp
  obtain ⟨m0, m1⟩ := mark_lt h
  have m2 := pow_13 hp (L + 6).toNat (by omega)
  unfold impl_mark.f
  rw [wid (n := 6 - D) (by omega) (by omega)]
  refine Ev.bind (impl_power_ev p _ (by omega)) ?_
  rw [powW_prime hp _ (by omega), show T * p ^ (6 - D).toNat = markOf p T D from rfl, wid (by omega) (by omega)]
  exact Ev.now _

-- block impl_valuation
theorem impl_valuation_l (p : Int) (hp : 2 ≤ p) (v : Nat) : ∀ (n u acc : Int), n = p ^ v * u → ¬ p ∣ u → n ≠ 0 → -4611686018427387904 ≤ n → n ≤ 4611686018427387904 → 0 ≤ acc → acc + v ≤ 4611686018427387904 → Ev (fun k => impl_valuation.l0 k p n acc) (acc + v) := by
  induction v with
  | zero =>
    intro n u acc h hu h0 h1 h2 h3 h4
    refine Ev.step (f := fun _ => some acc) (fun k => ?_) (by simp; exact Ev.now _)
    simp only [impl_valuation.l0]
    rw [if_neg (by omega), if_neg]
    intro e
    rw [h] at e
    exact hu (by simpa using Int.dvd_of_tmod_eq_zero e)
  | succ v ih =>
    intro n u acc h hu h0 h1 h2 h3 h4
    have hn : n = p * (p ^ v * u) := by rw [h, Int.pow_succ', Int.mul_assoc]
    have hm : Int.tmod n p = 0 := by rw [hn]; exact Int.mul_tmod_right p _
    have hd : Int.tdiv n p = p ^ v * u := by rw [hn]; exact Int.mul_tdiv_cancel_left _ (by omega)
    have hb := tdiv_bdv p (show -4611686018427387904 ≤ n ∧ n ≤ 4611686018427387904 from ⟨h1, h2⟩)
    have hne : p ^ v * u ≠ 0 := by intro e; rw [e] at hn; simp at hn; exact h0 hn
    refine Ev.step (f := fun k => impl_valuation.l0 k p (p ^ v * u) (acc + 1)) (fun k => ?_) ?_
    · simp only [impl_valuation.l0]
      rw [if_neg (by omega), if_pos hm, hd]
      rw [hd] at hb
      rw [wid (n := p ^ v * u) (by omega) (by omega), wid (n := acc + 1) (by omega) (by omega)]
    · rw [hd] at hb
      have := ih (p ^ v * u) u (acc + 1) rfl hu hne hb.1 hb.2 (by omega) (by omega)
      rw [show acc + ((v + 1 : Nat) : Int) = acc + 1 + (v : Int) from by omega]
      exact this
/-- The valuation as the program tells it: 1000 of 0. -/
def valW (p n : Int) : Int := if n = 0 then 1000 else val p n
theorem impl_valuation_ev {p n : Int} (hp : 2 ≤ p) (h1 : -4611686018427387904 ≤ n) (h2 : n ≤ 4611686018427387904) : Ev (fun k => impl_valuation.f k p n) (valW p n) := by
  unfold impl_valuation.f valW
  by_cases h0 : n = 0
  · simp only [if_pos h0]; exact Ev.now _
  · simp only [if_neg h0]
    obtain ⟨u, h, hu⟩ := val_spec hp h0
    have hv := val_le_of_lt hp h0 63 (by omega)
    have := impl_valuation_l p hp (val p n) n u 0 h hu h0 h1 h2 (by omega) (by omega)
    rw [Int.zero_add] at this
    exact this

-- block spec_l01Val
theorem spec_l01Val_l (p : Int) (hp : 2 ≤ p) (v : Nat) : ∀ (n u acc : Int), n = p ^ v * u → ¬ p ∣ u → n ≠ 0 → -4611686018427387904 ≤ n → n ≤ 4611686018427387904 → 0 ≤ acc → acc + v ≤ 4611686018427387904 → Ev (fun k => spec_l01Val.l0 k p n acc) (acc + v) := by
  induction v with
  | zero =>
    intro n u acc h hu h0 h1 h2 h3 h4
    refine Ev.step (f := fun _ => some acc) (fun k => ?_) (by simp; exact Ev.now _)
    simp only [spec_l01Val.l0]
    rw [if_neg (by omega), if_neg]
    intro e
    rw [h] at e
    exact hu (by simpa using Int.dvd_of_tmod_eq_zero e)
  | succ v ih =>
    intro n u acc h hu h0 h1 h2 h3 h4
    have hn : n = p * (p ^ v * u) := by rw [h, Int.pow_succ', Int.mul_assoc]
    have hm : Int.tmod n p = 0 := by rw [hn]; exact Int.mul_tmod_right p _
    have hd : Int.tdiv n p = p ^ v * u := by rw [hn]; exact Int.mul_tdiv_cancel_left _ (by omega)
    have hb := tdiv_bdv p (show -4611686018427387904 ≤ n ∧ n ≤ 4611686018427387904 from ⟨h1, h2⟩)
    have hne : p ^ v * u ≠ 0 := by intro e; rw [e] at hn; simp at hn; exact h0 hn
    refine Ev.step (f := fun k => spec_l01Val.l0 k p (p ^ v * u) (acc + 1)) (fun k => ?_) ?_
    · simp only [spec_l01Val.l0]
      rw [if_neg (by omega), if_pos hm, hd]
      rw [hd] at hb
      rw [wid (n := p ^ v * u) (by omega) (by omega), wid (n := acc + 1) (by omega) (by omega)]
    · rw [hd] at hb
      have := ih (p ^ v * u) u (acc + 1) rfl hu hne hb.1 hb.2 (by omega) (by omega)
      rw [show acc + ((v + 1 : Nat) : Int) = acc + 1 + (v : Int) from by omega]
      exact this
theorem spec_l01Val_ev {p n : Int} (hp : 2 ≤ p) (h0 : n ≠ 0) (h1 : -4611686018427387904 ≤ n) (h2 : n ≤ 4611686018427387904) : Ev (fun k => spec_l01Val.f k p n) (val p n : Int) := by
  obtain ⟨u, h, hu⟩ := val_spec hp h0
  have hv := val_le_of_lt hp h0 63 (by omega)
  have := spec_l01Val_l p hp (val p n) n u 0 h hu h0 h1 h2 (by omega) (by omega)
  rw [Int.zero_add] at this
  unfold spec_l01Val.f
  exact this

-- block spec_l01Power
theorem spec_l01Power_l (p : Int) (n : Nat) : ∀ (x acc : Int), (n : Int) ≤ 9223372036854775807 → (x = n ∨ (n = 0 ∧ x ≤ 0)) → Ev (fun k => spec_l01Power.l0 k p x acc) (powW p n acc) := by
  induction n with
  | zero =>
    intro x acc _ hx
    exact Ev.step (f := fun _ => some acc) (fun k => by simp only [spec_l01Power.l0]; rw [if_neg (by omega)]) (Ev.now _)
  | succ n ih =>
    intro x acc hn hx
    have hx' : x = n + 1 := by omega
    exact Ev.step (f := fun k => spec_l01Power.l0 k p n (wrap64 (acc * p))) (fun k => by
      simp only [spec_l01Power.l0]; rw [if_pos (by omega), show wrap64 (x - 1) = (n : Int) from by rw [hx', wid (by omega) (by omega)]; omega]) (ih n _ (by omega) (.inl rfl))
theorem spec_l01Power_ev (p x : Int) (h : x ≤ 9223372036854775807) : Ev (fun k => spec_l01Power.f k p x) (powW p x.toNat 1) := by
  refine Ev.congr (f := fun k => spec_l01Power.l0 k p x 1) (fun k => rfl) (spec_l01Power_l p x.toNat x 1 (by omega) (by omega))

-- block mxmn
theorem mx_abs (a : Int) (h : -9223372036854775807 ≤ a) (h2 : a ≤ 9223372036854775807) : mx a (wrap64 (-a)) = (a.natAbs : Int) := by
  rw [wid (by omega) (by omega)]; unfold mx; split <;> omega

-- block modW
theorem tmod_cast {a m : Int} (h : 0 ≤ a) : Int.tmod a m = a % m := Int.tmod_eq_emod_of_nonneg h
theorem tdiv_cast {a m : Int} (h : 0 ≤ a) : Int.tdiv a m = a / m := Int.tdiv_eq_ediv_of_nonneg h
theorem tmod_lt' {a m : Int} (hm : 0 < m) : -m < Int.tmod a m ∧ Int.tmod a m < m := by
  have h1 := Int.natAbs_tmod a m
  have h2 := Nat.mod_lt a.natAbs (show 0 < m.natAbs by omega)
  omega
theorem emod_mul_emod' (a b m : Int) : a % m * b % m = a * b % m := by rw [Int.mul_emod (a % m) b m, Int.emod_emod, ← Int.mul_emod]
/-- The remainder that is at least 0, as both texts reckon it. -/
theorem modW {a m : Int} (hm : 1 ≤ m) (hm2 : m ≤ 2305843009213693952) : Int.tmod (wrap64 (Int.tmod a m + m)) m = a % m := by
  obtain ⟨h1, h2⟩ := tmod_lt' (a := a) (show 0 < m by omega)
  rw [wid (by omega) (by omega), tmod_cast (by omega), Int.add_emod_right]
  have e := Int.tmod_add_mul_tdiv a m
  conv => rhs; rw [← e, Int.add_mul_emod_self_left]

-- block impl_ofMark
theorem impl_mod_eq {a m : Int} (hm : 1 ≤ m) (hm2 : m ≤ 2305843009213693952) : impl_mod.f a m = some (a % m) := by
  unfold impl_mod.f
  rw [if_neg (by omega), modW hm hm2]
theorem impl_ofMark_ev {p L x : Int} (hp : primeB p = true) (hL : -6 ≤ L ∧ L ≤ 6) : Ev (fun k => impl_ofMark.f k p L x) ((ofM p L x).1, (ofM p L x).2.1, (ofM p L x).2.2, true) := by
  have hp2 := prime_lo hp
  unfold impl_ofMark.f
  refine Ev.bindv (impl_isLevel_eq L) ?_
  rw [decide_eq_true hL]
  simp only [if_true]
  rw [wid (n := L + 6) (by omega) (by omega)]
  refine Ev.bind (impl_power_ev p (L + 6) (by omega)) ?_
  rw [powW_prime hp _ (by omega)]
  have m1 := ipow_pos (p := p) (by omega) (L + 6).toNat
  have m2 := pow_13 hp (L + 6).toNat (by omega)
  refine Ev.bindv (impl_mod_eq m1 (by omega)) ?_
  have x0 := Int.emod_nonneg x (show p ^ (L + 6).toNat ≠ 0 by omega)
  have x1 := Int.emod_lt_of_pos x (show 0 < p ^ (L + 6).toNat by omega)
  refine Ev.bind (impl_valuation_ev hp2 (by omega) (by omega)) ?_
  have hv : valW p (x % p ^ (L + 6).toNat) ≤ 1000 ∧ 0 ≤ valW p (x % p ^ (L + 6).toNat) := by
    unfold valW
    split
    · omega
    · rename_i h0
      have := val_le_of_lt hp2 h0 62 (by omega)
      omega
  have hdn : mx (wrap64 (6 - valW p (x % p ^ (L + 6).toNat))) 0 = (ofM p L x).2.2 := by
    rw [wid (n := 6 - valW p (x % p ^ (L + 6).toNat)) (by omega) (by omega)]
    unfold ofM valW mx
    simp only
    by_cases h0 : x % p ^ (L + 6).toNat = 0
    · rw [if_pos h0, if_pos h0]; rfl
    · rw [if_neg h0, if_neg h0]
      by_cases h6 : ((val p (x % p ^ (L + 6).toNat) : Nat) : Int) < 6
      · rw [if_neg (by omega), if_pos h6]
      · rw [if_neg h6]; split <;> omega
  rw [hdn]
  obtain ⟨_, hD, _⟩ := ofM_back (p := p) (L := L) (X := x) hp2
  rw [wid (n := 6 - (ofM p L x).2.2) (by omega) (by omega)]
  refine Ev.bind (impl_power_ev p _ (by omega)) ?_
  rw [powW_prime hp _ (by omega)]
  have q1 := ipow_pos (p := p) (by omega) (6 - (ofM p L x).2.2).toNat
  simp only [if_neg (show ¬ p ^ (6 - (ofM p L x).2.2).toNat = 0 by omega)]
  rw [tdiv_cast x0]
  have hT : x % p ^ (L + 6).toNat / p ^ (6 - (ofM p L x).2.2).toNat = (ofM p L x).2.1 := rfl
  have d0 := Int.ediv_nonneg x0 (show 0 ≤ p ^ (6 - (ofM p L x).2.2).toNat by omega)
  have d1 := Int.ediv_le_self (p ^ (6 - (ofM p L x).2.2).toNat) x0
  rw [wid (n := x % p ^ (L + 6).toNat / p ^ (6 - (ofM p L x).2.2).toNat) (by omega) (by omega), hT]
  exact Ev.now _
theorem impl_ofMark_out {p L x : Int} (hL : ¬ (-6 ≤ L ∧ L ≤ 6)) : Ev (fun k => impl_ofMark.f k p L x) (0, 0, 0, false) := by
  unfold impl_ofMark.f
  refine Ev.bindv (impl_isLevel_eq L) ?_
  rw [decide_eq_false hL]
  simp only [Bool.false_eq_true, if_false]
  exact Ev.now _

-- block holdsB
/-- Whether one ball holds another: by marks. -/
def holdsB (p L T D L' T' D' : Int) : Bool := decide (L ≤ L') && ((markOf p T' D' - markOf p T D) % p ^ (L + 6).toNat == 0)
theorem holds_iff {p L T D T' D' : Int} (h : ballB p L T D = true) : ofM p L (markOf p T' D') = (L, T, D) ↔ (markOf p T' D' - markOf p T D) % p ^ (L + 6).toNat = 0 := by
  have hp2 := prime_lo (ball_parts h).1
  rw [← ofM_mark h, ofM_inj hp2]
  exact Int.emod_eq_emod_iff_emod_sub_eq_zero

-- block spec_l01MulMod
theorem spec_l01MulMod_eq {a b m : Int} (hm : 1 ≤ m) (hm2 : m ≤ 100000000000) : spec_l01MulMod.f a b m = some (a * b % m) := by
  unfold spec_l01MulMod.f
  rw [if_neg (by omega), modW hm (by omega), modW hm (by omega)]
  have a0 := Int.emod_nonneg a (show m ≠ 0 by omega)
  have a1 := Int.emod_lt_of_pos a (show 0 < m by omega)
  have b0 := Int.emod_nonneg b (show m ≠ 0 by omega)
  have b1 := Int.emod_lt_of_pos b (show 0 < m by omega)
  have hab : a * b % m = (a % m) * (b % m) % m := Int.mul_emod a b m
  rw [hab]
  generalize a % m = x at *
  generalize b % m = y at *
  rw [tdiv_cast b0, tmod_cast b0]
  have q0 : 0 ≤ y / 1000000 := by omega
  have q1 : y / 1000000 ≤ 100000 := by omega
  have r0 : 0 ≤ y % 1000000 := by omega
  have r1 : y % 1000000 ≤ 1000000 := by omega
  have p0 : 0 ≤ x * (y / 1000000) := Int.mul_nonneg a0 q0
  have p1 : x * (y / 1000000) ≤ 100000000000 * 100000 := Int.mul_le_mul (by omega) q1 q0 (by omega)
  have s0 : 0 ≤ x * (y % 1000000) := Int.mul_nonneg a0 r0
  have s1 : x * (y % 1000000) ≤ 100000000000 * 1000000 := Int.mul_le_mul (by omega) r1 r0 (by omega)
  rw [wid (n := y / 1000000) (by omega) (by omega), wid (n := x * (y / 1000000)) (by omega) (by omega), wid (n := x * (y % 1000000)) (by omega) (by omega), tmod_cast p0, tmod_cast s0]
  have t0 := Int.emod_nonneg (x * (y / 1000000)) (show m ≠ 0 by omega)
  have t1 := Int.emod_lt_of_pos (x * (y / 1000000)) (show 0 < m by omega)
  rw [wid (n := x * (y / 1000000) % m * 1000000) (by omega) (by omega), tmod_cast (a := x * (y / 1000000) % m * 1000000) (by omega)]
  have u0 := Int.emod_nonneg (x * (y / 1000000) % m * 1000000) (show m ≠ 0 by omega)
  have u1 := Int.emod_lt_of_pos (x * (y / 1000000) % m * 1000000) (show 0 < m by omega)
  have v0 := Int.emod_nonneg (x * (y % 1000000)) (show m ≠ 0 by omega)
  have v1 := Int.emod_lt_of_pos (x * (y % 1000000)) (show 0 < m by omega)
  rw [wid (n := x * (y / 1000000) % m * 1000000 % m + x * (y % 1000000) % m) (by omega) (by omega), tmod_cast (a := x * (y / 1000000) % m * 1000000 % m + x * (y % 1000000) % m) (by omega)]
  congr 1
  have e1 : x * (y / 1000000) % m * 1000000 % m = x * (y / 1000000) * 1000000 % m := by rw [emod_mul_emod']
  rw [e1, ← Int.add_emod]
  congr 1
  rw [Int.mul_assoc, ← Int.mul_add]
  congr 1
  omega

-- block spec_l01InvMod1
theorem spec_l01InvMod_one {m : Int} (hm : 2 ≤ m) (hm2 : m ≤ 100000000000) : Ev (fun k => spec_l01InvMod.f k 1 m) 1 := by
  have h1 : Int.tmod (wrap64 (Int.tmod 1 m + m)) m = 1 := by rw [modW (by omega) (by omega)]; exact Int.emod_eq_of_lt (by omega) (by omega)
  refine Ev.congr (f := fun k => spec_l01InvMod.l0 k m 1 m 1 0) (fun k => by unfold spec_l01InvMod.f; rw [if_neg (by omega), h1]) ?_
  have q0 : Int.tdiv 1 m = 0 := by rw [tdiv_cast (by omega)]; exact Int.ediv_eq_zero_of_lt (by omega) (by omega)
  have q1 : Int.tdiv m 1 = m := Int.tdiv_one m
  have z0 : wrap64 0 = 0 := wid (by omega) (by omega)
  have z1 : wrap64 1 = 1 := wid (by omega) (by omega)
  refine Ev.step (f := fun k => spec_l01InvMod.l0 k m m 1 0 1) (fun k => ?_) ?_
  · simp only [spec_l01InvMod.l0]
    rw [if_neg (by omega), q0, z0, Int.zero_mul, z0, Int.sub_zero, z1, Int.mul_zero, z0, Int.sub_zero, z1]
  refine Ev.step (f := fun k => spec_l01InvMod.l0 k m 1 0 1 (-m)) (fun k => ?_) ?_
  · simp only [spec_l01InvMod.l0]
    rw [if_neg (by omega), q1, wid (n := m) (by omega) (by omega), Int.mul_one, wid (n := m) (by omega) (by omega), Int.sub_self, z0, Int.zero_sub, wid (n := -m) (by omega) (by omega)]
  refine Ev.step (f := fun _ => some 1) (fun k => ?_) (Ev.now _)
  simp only [spec_l01InvMod.l0]
  rw [if_pos trivial, if_neg (by omega), h1]

-- block In
theorem In_eq (a b c : Int) : spec_l01In.f a b c = some (decide (b ≤ a ∧ a ≤ c)) := by
  unfold spec_l01In.f
  by_cases h : a ≥ b
  · rw [if_pos h]; congr 1; exact decide_eq_decide.2 ⟨fun h2 => ⟨h, h2⟩, fun h2 => h2.2⟩
  · rw [if_neg h]; congr 1; exact (decide_eq_false (fun h2 => h h2.1)).symm

-- block spec_l01OfPow
theorem mx_eq (a b : Int) : mx a b = if a < b then b else a := rfl
/-- The ball of a fraction over a power of p: the ball of its mark. -/
theorem spec_l01Of_pow {p num L : Int} (D : Nat) (hp : primeB p = true) (hD : D ≤ 6) (h1 : -1152921504606846976 ≤ num) (h2 : num ≤ 1152921504606846976) (hL : -6 ≤ L ∧ L ≤ 6) :
    Ev (fun k => spec_l01Of.f k p num (p ^ D) L) ((ofM p L (num * p ^ (6 - D))).1, (ofM p L (num * p ^ (6 - D))).2.1, (ofM p L (num * p ^ (6 - D))).2.2, true) := by
  have hp2 := prime_lo hp
  have hpow : ∀ j : Nat, p ^ j ≠ 0 := fun j => Int.pow_ne_zero (by omega)
  have hpD := pow_13 hp D (by omega)
  have hpD1 := ipow_pos (p := p) (by omega) D
  unfold spec_l01Of.f
  refine Ev.bindv (In_eq _ _ _) ?_
  rw [decide_eq_true hL]
  simp only [if_true]
  by_cases h0 : num = 0
  · simp only [if_pos h0]
    have e : ofM p L (num * p ^ (6 - D)) = (L, 0, 0) := by
      rw [h0, Int.zero_mul]; exact ofM_of hp2 (by simp) (by omega) (.inl rfl)
    rw [e]; exact Ev.now _
  simp only [if_neg h0]
  have hvD : val p (p ^ D) = D := val_eq hp2 (u := 1) (by simp) (fun h => by have := Int.le_of_dvd (by omega) h; omega)
  have hv60 := val_le_of_lt hp2 h0 61 (by omega)
  refine Ev.bind (spec_l01Val_ev hp2 h0 (by omega) (by omega)) (Ev.bind (spec_l01Val_ev hp2 (hpow D) (by omega) (by omega)) ?_)
  rw [hvD]
  obtain ⟨u, hu, hn⟩ := val_spec hp2 h0
  generalize hv : val p num = v at *
  rw [wid (n := (v : Int) - (D : Int)) (by omega) (by omega), wid (n := (D : Int) - (v : Int)) (by omega) (by omega)]
  have hX : num * p ^ (6 - D) = p ^ (v + (6 - D)) * u := by
    rw [hu, Int.pow_add, Int.mul_assoc, Int.mul_assoc, Int.mul_comm u]
  by_cases hle : L ≤ (v : Int) - (D : Int)
  · simp only [if_pos hle]
    have e : ofM p L (num * p ^ (6 - D)) = (L, 0, 0) := by
      refine ofM_of hp2 ?_ (by omega) (.inl rfl)
      rw [hX, Int.zero_mul, show v + (6 - D) = (L + 6).toNat + (v + (6 - D) - (L + 6).toNat) from by omega, Int.pow_add, Int.mul_assoc]
      exact Int.mul_emod_right _ _
    rw [e]; exact Ev.now _
  simp only [if_neg hle]
  -- the number of places down
  obtain ⟨dn, hdn⟩ : ∃ dn : Nat, (dn : Int) = mx ((D : Int) - (v : Int)) 0 := ⟨D - v, by rw [mx_eq]; split <;> omega⟩
  have hdn2 : (dn : Int) = if (D : Int) - v < 0 then 0 else (D : Int) - v := by rw [hdn, mx_eq]
  rw [← hdn]
  have hdn6 : dn ≤ D := by split at hdn2 <;> omega
  have hmp : 1 ≤ L + dn := by split at hdn2 <;> omega
  have hmp2 : (L + dn).toNat ≤ 12 := by omega
  simp only [if_neg (show ¬ (dn : Int) > 6 by omega)]
  rw [wid (n := L + (dn : Int)) (by omega) (by omega)]
  refine Ev.bind (spec_l01Power_ev p (L + dn) (by omega)) ?_
  rw [powW_prime hp _ (by omega)]
  have hu0 : u ≠ 0 := by intro e; rw [e] at hn; exact hn (Int.dvd_zero p)
  have hpv1 := ipow_pos (p := p) (by omega) v
  have hpv : p ^ v ≤ 1152921504606846976 := by
    have : num.natAbs = (p ^ v).natAbs * u.natAbs := by rw [← Int.natAbs_mul, ← hu]
    have h3 : (p ^ v).natAbs * 1 ≤ (p ^ v).natAbs * u.natAbs := Nat.mul_le_mul_left _ (by omega)
    omega
  have hub : -1152921504606846976 ≤ u ∧ u ≤ 1152921504606846976 := by
    have : num.natAbs = (p ^ v).natAbs * u.natAbs := by rw [← Int.natAbs_mul, ← hu]
    have h3 : 1 * u.natAbs ≤ (p ^ v).natAbs * u.natAbs := Nat.mul_le_mul_right _ (by omega)
    omega
  have pv : powW p v 1 = p ^ v := by rw [powW_fit p (by omega) v 1 (by omega) (by omega), Int.one_mul]
  refine Ev.bind (spec_l01Power_ev p v (by omega)) ?_
  rw [Int.toNat_natCast, pv]
  simp only [if_neg (hpow v)]
  refine Ev.bind (spec_l01Power_ev p D (by omega)) ?_
  rw [Int.toNat_natCast, powW_prime hp D (by omega)]
  simp only [if_neg (hpow D)]
  rw [Int.tdiv_self (hpow D), show wrap64 1 = 1 from wid (by omega) (by omega)]
  have hm1 : p ^ (L + (dn : Int)).toNat ≤ 13841287201 := pow_13 hp _ hmp2
  have hm0 : 2 ≤ p ^ (L + (dn : Int)).toNat := by
    have := ipow_mono (p := p) (by omega) (show 1 ≤ (L + (dn : Int)).toNat by omega)
    rw [Int.pow_one] at this; omega
  refine Ev.bind (spec_l01InvMod_one hm0 (by omega)) ?_
  have hq : Int.tdiv num (p ^ v) = u := by
    conv => lhs; lhs; rw [hu]
    exact Int.mul_tdiv_cancel_left _ (hpow v)
  rw [hq, wid (n := u) (by omega) (by omega)]
  refine Ev.bindv (spec_l01MulMod_eq (by omega) (by omega)) ?_
  rw [Int.mul_one]
  obtain ⟨e, he⟩ : ∃ e : Nat, (e : Int) = mx ((v : Int) - (D : Int)) 0 := ⟨v - D, by rw [mx_eq]; split <;> omega⟩
  have he2 : (e : Int) = if (v : Int) - D < 0 then 0 else (v : Int) - D := by rw [he, mx_eq]
  rw [← he]
  have hev : e ≤ v := by split at he2 <;> omega
  have hpe : p ^ e ≤ p ^ v := ipow_mono (by omega) hev
  refine Ev.bind (spec_l01Power_ev p e (by omega)) ?_
  rw [Int.toNat_natCast, powW_fit p (by omega) e 1 (by omega) (by omega), Int.one_mul]
  refine Ev.bindv (spec_l01MulMod_eq (by omega) (by omega)) ?_
  have hT : u % p ^ (L + (dn : Int)).toNat * p ^ e % p ^ (L + (dn : Int)).toNat = u * p ^ e % p ^ (L + (dn : Int)).toNat := by rw [emod_mul_emod']
  rw [hT]
  have hexp : v + (6 - D) = (6 - (dn : Int)).toNat + e := by split at hdn2 <;> split at he2 <;> omega
  have hexp2 : (L + 6).toNat = (6 - (dn : Int)).toNat + (L + (dn : Int)).toNat := by omega
  have key : ofM p L (num * p ^ (6 - D)) = (L, u * p ^ e % p ^ (L + (dn : Int)).toNat, (dn : Int)) := by
    refine ofM_of hp2 ?_ (by omega) ?_
    · rw [hX, hexp, hexp2, Int.pow_add, Int.pow_add, Int.mul_assoc, Int.mul_emod_mul_of_pos _ _ (Int.lt_of_lt_of_le (by omega) (ipow_pos (p := p) (by omega) _)), Int.mul_comm (p ^ e) u, Int.mul_comm]
    · by_cases hz : dn = 0
      · left; omega
      · right
        have e0 : e = 0 := by split at hdn2 <;> split at he2 <;> omega
        rw [e0, Int.pow_zero, Int.mul_one]
        intro hd
        apply hn
        have hpm : p ∣ p ^ (L + (dn : Int)).toNat := by
          obtain ⟨j, hj⟩ : ∃ j, (L + (dn : Int)).toNat = j + 1 := ⟨(L + (dn : Int)).toNat - 1, by omega⟩
          rw [hj, Int.pow_succ']; exact Int.dvd_mul_right _ _
        have := Int.dvd_add hd (Int.dvd_trans hpm (Int.dvd_mul_right (p ^ (L + (dn : Int)).toNat) (u / p ^ (L + (dn : Int)).toNat)))
        rwa [Int.emod_add_mul_ediv] at this
  rw [key]
  exact Ev.now _
theorem spec_l01Of_out {p num den L : Int} (hL : ¬ (-6 ≤ L ∧ L ≤ 6)) : Ev (fun k => spec_l01Of.f k p num den L) (0, 0, 0, false) := by
  unfold spec_l01Of.f
  refine Ev.bindv (In_eq _ _ _) ?_
  rw [decide_eq_false hL]
  simp only [Bool.false_eq_true, if_false]
  exact Ev.now _

-- block spec_l01OfBall
/-- The ball of a level with the centre of a ball. -/
theorem spec_l01Of_ball {p L T D : Int} (K : Int) (h : ballB p L T D = true) (hK : -6 ≤ K ∧ K ≤ 6) : Ev (fun k => (spec_l01Power.f k p D).bind fun t => spec_l01Of.f k p T t K) ((ofM p K (markOf p T D)).1, (ofM p K (markOf p T D)).2.1, (ofM p K (markOf p T D)).2.2, true) := by
  obtain ⟨hp, hL, hD, _⟩ := ball_parts h
  have hT := ball_num h
  refine Ev.bind (spec_l01Power_ev p D (by omega)) ?_
  rw [powW_prime hp _ (by omega)]
  have := spec_l01Of_pow (num := T) D.toNat hp (by omega) (by omega) (by omega) hK
  rw [show 6 - D.toNat = (6 - D).toNat from by omega] at this
  exact this

-- block join
/-- The level of the join of two balls of which the marks are X and Y. -/
def jnW (p L L' X Y : Int) : Int := mn (mn L L') (valW p (X - Y) - 6)
theorem valW_bd {p n : Int} (hp : 2 ≤ p) (h1 : -4611686018427387904 ≤ n) (h2 : n ≤ 4611686018427387904) : 0 ≤ valW p n ∧ valW p n ≤ 1000 := by
  unfold valW
  by_cases h : n = 0
  · rw [if_pos h]; omega
  · rw [if_neg h]
    have := val_le_of_lt hp h 63 (by omega)
    omega
theorem mn_min (a b : Int) : mn a b = min a b := by unfold mn; split <;> omega
theorem mx_max2 (a b : Int) : mx a b = max a b := by unfold mx; split <;> omega
theorem mark_top {p L T D : Int} (h : ballB p L T D = true) : 0 ≤ markOf p T D ∧ markOf p T D ≤ 13841287201 := by
  obtain ⟨hp, hL, _⟩ := ball_parts h
  obtain ⟨m0, m1⟩ := mark_lt h
  have := pow_13 hp (L + 6).toNat (by omega)
  omega
section
variable {p L T D L' T' D' : Int} (h : ballB p L T D = true) (h' : ballB p L' T' D' = true)
include h h'
theorem impl_joinLevel_ev : Ev (fun k => impl_joinLevel.f k p L T D L' T' D') (jnW p L L' (markOf p T D) (markOf p T' D')) := by
  have hp := (ball_parts h).1
  have m := mark_top h
  have m' := mark_top h'
  have hv := valW_bd (p := p) (n := markOf p T D - markOf p T' D') (prime_lo hp) (by omega) (by omega)
  unfold impl_joinLevel.f jnW
  refine Ev.bind (impl_mark_ev h) (Ev.bind (impl_mark_ev h') ?_)
  rw [wid (n := markOf p T D - markOf p T' D') (by omega) (by omega)]
  refine Ev.bind (impl_valuation_ev (prime_lo hp) (by omega) (by omega)) ?_
  rw [wid (n := valW p (markOf p T D - markOf p T' D') - 6) (by omega) (by omega)]
  exact Ev.now _
theorem spec_l02Join_ev : Ev (fun k => spec_l02Join.f k p L T D L' T' D') (jnW p L L' (markOf p T D) (markOf p T' D')) := by
  obtain ⟨hp, hL, hD, _, _⟩ := ball_parts h
  obtain ⟨_, hL', hD', _, _⟩ := ball_parts h'
  have hp2 := prime_lo hp
  have m := mark_top h
  have m' := mark_top h'
  have t0 := ball_num h
  have t0' := ball_num h'
  have hv := valW_bd (p := p) (n := markOf p T D - markOf p T' D') hp2 (by omega) (by omega)
  unfold spec_l02Join.f spec_l02Valuation.f
  rw [mx_max2]
  generalize hdn : max D D' = dn
  have hd1 : D ≤ dn ∧ D' ≤ dn ∧ 0 ≤ dn ∧ dn ≤ 6 := by omega
  rw [wid (n := dn - D) (by omega) (by omega), wid (n := dn - D') (by omega) (by omega)]
  have e : markOf p T D = T * p ^ (dn - D).toNat * p ^ (6 - dn).toNat := by
    unfold markOf; rw [Int.mul_assoc, ← Int.pow_add]; congr 2; omega
  have e' : markOf p T' D' = T' * p ^ (dn - D').toNat * p ^ (6 - dn).toNat := by
    unfold markOf; rw [Int.mul_assoc, ← Int.pow_add]; congr 2; omega
  have q1 := ipow_pos (show 1 ≤ p by omega) (6 - dn).toNat
  have q2 := ipow_pos (show 1 ≤ p by omega) (dn - D).toNat
  have q3 := ipow_pos (show 1 ≤ p by omega) (dn - D').toNat
  have w0 := Int.mul_nonneg t0.1 (show 0 ≤ p ^ (dn - D).toNat by omega)
  have w0' := Int.mul_nonneg t0'.1 (show 0 ≤ p ^ (dn - D').toNat by omega)
  have w1 : T * p ^ (dn - D).toNat ≤ markOf p T D := by
    rw [e]
    have := Int.mul_nonneg w0 (show 0 ≤ p ^ (6 - dn).toNat - 1 by omega)
    rw [Int.mul_sub] at this; omega
  have w1' : T' * p ^ (dn - D').toNat ≤ markOf p T' D' := by
    rw [e']
    have := Int.mul_nonneg w0' (show 0 ≤ p ^ (6 - dn).toNat - 1 by omega)
    rw [Int.mul_sub] at this; omega
  have ed : markOf p T D - markOf p T' D' = p ^ (6 - dn).toNat * (T * p ^ (dn - D).toNat - T' * p ^ (dn - D').toNat) := by
    rw [e, e', Int.mul_sub, Int.mul_comm (p ^ (6 - dn).toNat), Int.mul_comm (p ^ (6 - dn).toNat)]
  refine Ev.bind (a := if T * p ^ (dn - D).toNat - T' * p ^ (dn - D').toNat = 0 then (0, false) else ((val p (T * p ^ (dn - D).toNat - T' * p ^ (dn - D').toNat) : Int) - dn, true)) ?_ ?_
  · refine Ev.bind (spec_l01Power_ev p _ (by omega)) (Ev.bind (spec_l01Power_ev p _ (by omega)) ?_)
    rw [powW_prime hp _ (by omega), powW_prime hp _ (by omega), wid (n := T * p ^ (dn - D).toNat) (by omega) (by omega), wid (n := T' * p ^ (dn - D').toNat) (by omega) (by omega), wid (n := T * p ^ (dn - D).toNat - T' * p ^ (dn - D').toNat) (by omega) (by omega)]
    by_cases h0 : T * p ^ (dn - D).toNat - T' * p ^ (dn - D').toNat = 0
    · simp only [if_pos h0]; exact Ev.now _
    · simp only [if_neg h0]
      refine Ev.bind (spec_l01Val_ev hp2 h0 (by omega) (by omega)) ?_
      have := val_le_of_lt hp2 h0 63 (by omega)
      rw [wid (by omega) (by omega)]
      exact Ev.now _
  · unfold jnW
    by_cases h0 : T * p ^ (dn - D).toNat - T' * p ^ (dn - D').toNat = 0
    · simp only [if_pos h0, Bool.false_eq_true, if_false]
      have hz : markOf p T D - markOf p T' D' = 0 := by rw [ed, h0, Int.mul_zero]
      rw [show mn (mn L L') (valW p (markOf p T D - markOf p T' D') - 6) = mn L L' from by
        unfold valW; rw [if_pos hz, mn_min, mn_min]; omega]
      exact Ev.now _
    · simp only [if_neg h0, if_true]
      have hz : markOf p T D - markOf p T' D' ≠ 0 := by
        rw [ed]; exact Int.mul_ne_zero (by omega) h0
      have hv2 : val p (markOf p T D - markOf p T' D') = (6 - dn).toNat + val p (T * p ^ (dn - D).toNat - T' * p ^ (dn - D').toNat) := by
        rw [ed]; exact val_pow_mul _ hp2 h0
      rw [show valW p (markOf p T D - markOf p T' D') - 6 = (val p (T * p ^ (dn - D).toNat - T' * p ^ (dn - D').toNat) : Int) - dn from by
        unfold valW; rw [if_neg hz, hv2]; omega]
      exact Ev.now _
theorem jnW_bd : -6 ≤ jnW p L L' (markOf p T D) (markOf p T' D') ∧ jnW p L L' (markOf p T D) (markOf p T' D') ≤ L ∧ jnW p L L' (markOf p T D) (markOf p T' D') ≤ L' := by
  obtain ⟨hp, hL, _⟩ := ball_parts h
  obtain ⟨_, hL', _⟩ := ball_parts h'
  have m := mark_top h
  have m' := mark_top h'
  have hv := valW_bd (p := p) (n := markOf p T D - markOf p T' D') (prime_lo hp) (by omega) (by omega)
  unfold jnW
  rw [mn_min, mn_min]
  omega
theorem jnW_same : ofM p (jnW p L L' (markOf p T D) (markOf p T' D')) (markOf p T D) = ofM p (jnW p L L' (markOf p T D) (markOf p T' D')) (markOf p T' D') := by
  have hb := jnW_bd h h'
  obtain ⟨hp, hL, _⟩ := ball_parts h
  have hp2 := prime_lo hp
  have m := mark_top h
  have m' := mark_top h'
  have hj : jnW p L L' (markOf p T D) (markOf p T' D') + 6 ≤ valW p (markOf p T D - markOf p T' D') := by
    unfold jnW; rw [mn_min, mn_min]; omega
  generalize jnW p L L' (markOf p T D) (markOf p T' D') = J at hb hj ⊢
  rw [ofM_inj hp2]
  by_cases hz : markOf p T D - markOf p T' D' = 0
  · rw [show markOf p T D = markOf p T' D' by omega]
  · unfold valW at hj
    rw [if_neg hz] at hj
    exact Int.emod_eq_emod_iff_emod_sub_eq_zero.2 (Int.emod_eq_zero_of_dvd ((val_dvd hp2 hz _).2 (by omega)))
end
theorem impl_above_ev {p L T D K : Int} (h : ballB p L T D = true) (hK : -6 ≤ K ∧ K ≤ 6) : Ev (fun k => impl_above.f k p L T D K) ((ofM p K (markOf p T D)).1, (ofM p K (markOf p T D)).2.1, (ofM p K (markOf p T D)).2.2) := by
  unfold impl_above.f
  exact Ev.bind (impl_mark_ev h) (Ev.bind (impl_ofMark_ev (ball_parts h).1 hK) (Ev.now _))
theorem spec_l02Up_ev {p L T D K : Int} (h : ballB p L T D = true) (hK : -6 ≤ K ∧ K ≤ 6) : Ev (fun k => spec_l02Up.f k p L T D K) ((ofM p K (markOf p T D)).1, (ofM p K (markOf p T D)).2.1, (ofM p K (markOf p T D)).2.2, true) := by
  obtain ⟨hp, hL, hD, _⟩ := ball_parts h
  have hT := ball_num h
  unfold spec_l02Up.f
  refine Ev.bind (spec_l01Power_ev p D (by omega)) ?_
  rw [powW_prime hp _ (by omega)]
  have := spec_l01Of_pow (num := T) D.toNat hp (by omega) (by omega) (by omega) hK
  rw [show 6 - D.toNat = (6 - D).toNat from by omega] at this
  exact Ev.bind this (Ev.now _)

-- block loops
theorem rd_nat (l : List Int) (j : Nat) (h : j < l.length) : rd l (j : Int) = l[j] := by
  unfold rd; rw [Int.toNat_natCast, List.getD_eq_getElem?_getD, List.getElem?_eq_getElem h]; rfl
/-- A loop that stores element after element of one list into another of the same length ends in the list. -/
theorem copy_ev {α : Type} (g : Nat → List α → Int → Option (List α)) (src : List α) (get : Int → α)
    (hstep : ∀ k (dst : List α) (i : Nat), i < src.length → dst.length = src.length → g (k + 1) dst i = g k (dst.set i (get i)) ((i : Int) + 1))
    (hend : ∀ k (dst : List α) (i : Nat), src.length ≤ i → dst.length = src.length → g (k + 1) dst i = some dst)
    (hget : ∀ (i : Nat) (h : i < src.length), get i = src[i]) (dst : List α) (hd : dst.length = src.length) : Ev (fun k => g k dst 0) src := by
  have key : ∀ (n i : Nat) (dst : List α), i + n = src.length → dst.length = src.length → (∀ (j : Nat) (h : j < src.length), j < i → dst[j]? = some src[j]) → Ev (fun k => g k dst i) src := by
    intro n
    induction n with
    | zero =>
      intro i dst hi hl hp
      refine Ev.step (f := fun _ => some dst) (fun k => hend k dst i (by omega) hl) ?_
      have e : dst = src := by
        refine List.ext_getElem? fun j => ?_
        by_cases h : j < src.length
        · rw [hp j h (by omega), List.getElem?_eq_getElem h]
        · rw [List.getElem?_eq_none (by omega), List.getElem?_eq_none (by omega)]
      rw [e]; exact Ev.now _
    | succ n ih =>
      intro i dst hi hl hp
      refine Ev.step (f := fun k => g k (dst.set i (get i)) ((i + 1 : Nat) : Int)) (fun k => ?_) (ih (i + 1) _ (by omega) (by rw [List.length_set]; exact hl) ?_)
      · rw [hstep k dst i (by omega) hl]; rfl
      · intro j h hj
        by_cases e : j = i
        · subst e
          rw [List.getElem?_set_self (by omega), hget j h]
        · rw [List.getElem?_set_ne (by omega)]; exact hp j h (by omega)
  exact key src.length 0 dst (by omega) hd (fun j h hj => by omega)
/-- A loop over places that goes on as long as a test says yes, and answers no at the first no. -/
theorem all_ev {β : Type} (g : Nat → Int → Option β) (n : Nat) (p : Nat → Bool) (yes no : β)
    (hstep : ∀ (i : Nat), i < n → p i = true → Ev (fun k => g k ((i : Int) + 1)) yes → Ev (fun k => g k i) yes)
    (hstepno : ∀ (i : Nat), i < n → p i = true → Ev (fun k => g k ((i : Int) + 1)) no → Ev (fun k => g k i) no)
    (hno : ∀ (i : Nat), i < n → p i = false → Ev (fun k => g k i) no)
    (hend : Ev (fun k => g k n) yes) : Ev (fun k => g k 0) (if (List.range n).all p then yes else no) := by
  have key : ∀ (d i : Nat), i + d = n → Ev (fun k => g k i) (if (List.range' i d).all p then yes else no) := by
    intro d
    induction d with
    | zero => intro i hi; have : i = n := by omega
              subst this; simpa using hend
    | succ d ih =>
      intro i hi
      have h := ih (i + 1) (by omega)
      rw [List.range'_succ, List.all_cons]
      cases e : p i with
      | false => simpa using hno i (by omega) e
      | true =>
        rw [Bool.true_and]
        have e1 : (((i + 1 : Nat) : Int)) = (i : Int) + 1 := by omega
        rw [e1] at h
        cases e2 : (List.range' (i + 1) d).all p with
        | true => rw [e2] at h; exact hstep i (by omega) e h
        | false => rw [e2] at h; exact hstepno i (by omega) e h
  have := key n 0 (by omega)
  rw [← List.range_eq_range'] at this
  exact this
theorem all_range_rd (l : List Int) (q : Int → Bool) : (List.range l.length).all (fun i => q (rd l (i : Int))) = l.all q := by
  rw [Bool.eq_iff_iff]
  simp only [List.all_eq_true, List.mem_range]
  constructor
  · intro h x hx
    obtain ⟨i, hi, rfl⟩ := List.mem_iff_getElem.1 hx
    have := h i hi
    rwa [rd_nat l i hi] at this
  · intro h i hi
    rw [rd_nat l i hi]
    exact h _ (List.getElem_mem hi)
theorem all_range_getD {α : Type} (l : List α) (d : α) (q : α → Bool) : (List.range l.length).all (fun i => q (l.getD i d)) = l.all q := by
  rw [Bool.eq_iff_iff]
  simp only [List.all_eq_true, List.mem_range]
  constructor
  · intro h x hx
    obtain ⟨i, hi, rfl⟩ := List.mem_iff_getElem.1 hx
    have := h i hi
    rwa [List.getD_eq_getElem?_getD, List.getElem?_eq_getElem hi] at this
  · intro h i hi
    rw [List.getD_eq_getElem?_getD, List.getElem?_eq_getElem hi]
    exact h _ (List.getElem_mem hi)
/-- all_ev, with one form of the step for both answers. -/
theorem all_ev' {β : Type} (g : Nat → Int → Option β) (n : Nat) (p : Nat → Bool) (yes no : β)
    (hstep : ∀ (i : Nat) (r : β), i < n → p i = true → Ev (fun k => g k ((i : Int) + 1)) r → Ev (fun k => g k i) r)
    (hno : ∀ (i : Nat), i < n → p i = false → Ev (fun k => g k i) no)
    (hend : Ev (fun k => g k n) yes) : Ev (fun k => g k 0) (if (List.range n).all p then yes else no) :=
  all_ev g n p yes no (fun i hi hp h => hstep i yes hi hp h) (fun i hi hp h => hstep i no hi hp h) hno hend
theorem ite_tf (b : Bool) : (if b then true else false) = b := by cases b <;> rfl
/-- copy_ev where a round of the loop makes calls. -/
theorem copy_ev' {α : Type} (g : Nat → List α → Int → Option (List α)) (src : List α)
    (hstep : ∀ (dst : List α) (i : Nat) (h : i < src.length) (r : List α), dst.length = src.length → Ev (fun k => g k (dst.set i src[i]) ((i : Int) + 1)) r → Ev (fun k => g k dst i) r)
    (hend : ∀ (dst : List α), dst.length = src.length → Ev (fun k => g k dst src.length) dst) (dst : List α) (hd : dst.length = src.length) : Ev (fun k => g k dst 0) src := by
  have key : ∀ (n i : Nat) (dst : List α), i + n = src.length → dst.length = src.length → (∀ (j : Nat) (h : j < src.length), j < i → dst[j]? = some src[j]) → Ev (fun k => g k dst i) src := by
    intro n
    induction n with
    | zero =>
      intro i dst hi hl hp
      have e : dst = src := by
        refine List.ext_getElem? fun j => ?_
        by_cases h : j < src.length
        · rw [hp j h (by omega), List.getElem?_eq_getElem h]
        · rw [List.getElem?_eq_none (by omega), List.getElem?_eq_none (by omega)]
      have hi2 : i = src.length := by omega
      subst hi2
      have := hend dst hl
      rwa [e] at this ⊢
    | succ n ih =>
      intro i dst hi hl hp
      refine hstep dst i (by omega) src hl ?_
      have := ih (i + 1) (dst.set i (src[i]'(by omega))) (by omega) (by rw [List.length_set]; exact hl) (fun j h hj => by
        by_cases e : j = i
        · subst e; rw [List.getElem?_set_self (by omega)]
        · rw [List.getElem?_set_ne (by omega)]; exact hp j h (by omega))
      exact this
  exact key src.length 0 dst (by omega) hd (fun j h hj => by omega)

-- block stepsB
theorem bt_lo (s : ByteArray) (i : Int) : 0 ≤ bt s i := by unfold bt; split <;> omega
theorem bt_hi (s : ByteArray) (i : Int) : bt s i ≤ 255 := by
  unfold bt; split
  · rename_i h; have := (s[i.toNat]'h).toNat_lt; omega
  · omega
def stepB (p c : Int) : Bool := c == 117 || decide (48 ≤ c ∧ c - 48 < p)
def stepsB (p : Int) (s : ByteArray) : Bool := decide (s.size ≤ 40) && (List.range s.size).all (fun i => stepB p (bt s i))

-- block stepM
/-! The parent and a child of a ball, by marks. -/
def parM (p L T D : Int) : Int × Int × Int := ofM p (L - 1) (markOf p T D)
def chM (p L T D c : Int) : Int × Int × Int := ofM p (L + 1) (markOf p T D + c * p ^ (L + 6).toNat)
def parW (p L T D : Int) : Int × Int × Int × Bool := if L = -6 then (0, 0, 0, false) else ((parM p L T D).1, (parM p L T D).2.1, (parM p L T D).2.2, true)
def chW (p L T D c : Int) : Int × Int × Int × Bool := if L = 6 then (0, 0, 0, false) else ((chM p L T D c).1, (chM p L T D c).2.1, (chM p L T D c).2.2, true)
theorem parM_ball {p L T D : Int} (h : ballB p L T D = true) (hL : L ≠ -6) : ballB p (parM p L T D).1 (parM p L T D).2.1 (parM p L T D).2.2 = true := by
  obtain ⟨hp, h1, _⟩ := ball_parts h
  exact ofM_ball (L := L - 1) hp (by omega)
theorem chM_ball {p L T D : Int} (c : Int) (h : ballB p L T D = true) (hL : L ≠ 6) : ballB p (chM p L T D c).1 (chM p L T D c).2.1 (chM p L T D c).2.2 = true := by
  obtain ⟨hp, h1, _⟩ := ball_parts h
  exact ofM_ball (L := L + 1) hp (by omega)
theorem mul_bdc {x y M N : Int} (hx : -M ≤ x ∧ x ≤ M) (hy : 1 ≤ y) (hy2 : y ≤ N) : -(M * N) ≤ x * y ∧ x * y ≤ M * N := by
  have h1 := Int.mul_nonneg (show 0 ≤ M - x by omega) (show 0 ≤ y by omega)
  have h2 := Int.mul_nonneg (show 0 ≤ M + x by omega) (show 0 ≤ y by omega)
  have h3 := Int.mul_nonneg (show 0 ≤ M by omega) (show 0 ≤ N - y by omega)
  simp only [Int.sub_mul, Int.mul_sub, Int.add_mul] at h1 h2 h3
  constructor <;> omega

-- block impl_neighbour
theorem impl_parent_ev {p L T D : Int} (h : ballB p L T D = true) : Ev (fun k => impl_parent.f k p L T D) (parW p L T D) := by
  obtain ⟨hp, hL, _⟩ := ball_parts h
  unfold impl_parent.f parW
  refine Ev.bind (impl_mark_ev h) ?_
  rw [wid (n := L - 1) (by omega) (by omega)]
  by_cases h6 : L = -6
  · rw [if_pos h6]
    exact Ev.bind (impl_ofMark_out (by omega)) (Ev.now _)
  · rw [if_neg h6]
    exact Ev.bind (impl_ofMark_ev hp (by omega)) (Ev.now _)
theorem impl_child_ev {p L T D c : Int} (h : ballB p L T D = true) (hc : -1000 ≤ c ∧ c ≤ 1000) : Ev (fun k => impl_child.f k p L T D c) (chW p L T D c) := by
  obtain ⟨hp, hL, _⟩ := ball_parts h
  have hp2 := prime_lo hp
  obtain ⟨m0, m1⟩ := mark_lt h
  have q1 := ipow_pos (p := p) (by omega) (L + 6).toNat
  have q2 := pow_13 hp (L + 6).toNat (by omega)
  have a1 := mul_bdc hc q1 q2
  unfold impl_child.f chW
  refine Ev.bind (impl_mark_ev h) ?_
  rw [wid (n := L + 6) (by omega) (by omega)]
  refine Ev.bind (impl_power_ev p _ (by omega)) ?_
  rw [powW_prime hp _ (by omega), wid (n := L + 1) (by omega) (by omega), wid (n := c * p ^ (L + 6).toNat) (by omega) (by omega), wid (n := markOf p T D + c * p ^ (L + 6).toNat) (by omega) (by omega)]
  by_cases h6 : L = 6
  · rw [if_pos h6]
    exact Ev.bind (impl_ofMark_out (by omega)) (Ev.now _)
  · rw [if_neg h6]
    exact Ev.bind (impl_ofMark_ev hp (by omega)) (Ev.now _)
theorem impl_neighbour_ev {p L T D : Int} (c : Int) (h : ballB p L T D = true) (hc : 0 ≤ c ∧ c ≤ 1000) : Ev (fun k => impl_neighbour.f k p L T D c) (if c = 0 then parW p L T D else chW p L T D (c - 1)) := by
  unfold impl_neighbour.f
  by_cases h0 : c = 0
  · simp only [if_pos h0]; exact Ev.bind (impl_parent_ev h) (Ev.now _)
  · simp only [if_neg h0]
    rw [wid (n := c - 1) (by omega) (by omega)]
    exact Ev.bind (impl_child_ev h (by omega)) (Ev.now _)

-- block spec_l01Step
theorem spec_l01Parent_ev {p L T D : Int} (h : ballB p L T D = true) : Ev (fun k => spec_l01Parent.f k p L T D) (parW p L T D) := by
  obtain ⟨hp, hL, hD, _⟩ := ball_parts h
  have hT := ball_num h
  unfold spec_l01Parent.f parW
  refine Ev.bind (spec_l01Power_ev p D (by omega)) ?_
  rw [powW_prime hp _ (by omega), wid (n := L - 1) (by omega) (by omega)]
  by_cases h6 : L = -6
  · rw [if_pos h6]
    exact Ev.bind (spec_l01Of_out (by omega)) (Ev.now _)
  · rw [if_neg h6]
    have := spec_l01Of_pow (num := T) (L := L - 1) D.toNat hp (by omega) (by omega) (by omega) (by omega)
    rw [show 6 - D.toNat = (6 - D).toNat from by omega] at this
    exact Ev.bind this (Ev.now _)
theorem spec_l01Child_ev {p L T D c : Int} (h : ballB p L T D = true) (hc : -1000 ≤ c ∧ c ≤ 1000) : Ev (fun k => spec_l01Child.f k p L T D c) (chW p L T D c) := by
  obtain ⟨hp, hL, hD, _⟩ := ball_parts h
  have hp2 := prime_lo hp
  have hT := ball_num h
  have pD := pow_13 hp D.toNat (by omega)
  have pD1 := ipow_pos (p := p) (by omega) D.toNat
  unfold spec_l01Child.f chW
  by_cases h6 : L = 6
  · simp only [if_pos h6]; exact Ev.now _
  simp only [if_neg h6]
  refine Ev.bind (spec_l01Power_ev p D (by omega)) ?_
  rw [powW_prime hp _ (by omega)]
  by_cases h0 : L ≥ 0
  · simp only [if_pos h0]
    refine Ev.bind (spec_l01Power_ev p L (by omega)) ?_
    rw [powW_prime hp _ (by omega)]
    have qL := pow_13 hp (L.toNat + D.toNat) (by omega)
    have qL1 := ipow_pos (p := p) (by omega) (L.toNat + D.toNat)
    have a1 := mul_bdc hc pD1 pD
    have a2 := mul_bdc hc qL1 qL
    have e1 : c * p ^ D.toNat * p ^ L.toNat = c * p ^ (L.toNat + D.toNat) := by rw [Int.mul_assoc, ← Int.pow_add, Nat.add_comm]
    rw [wid (n := c * p ^ D.toNat) (by omega) (by omega), e1, wid (n := c * p ^ (L.toNat + D.toNat)) (by omega) (by omega), wid (n := T + c * p ^ (L.toNat + D.toNat)) (by omega) (by omega), wid (n := L + 1) (by omega) (by omega)]
    have := spec_l01Of_pow (num := T + c * p ^ (L.toNat + D.toNat)) (L := L + 1) D.toNat hp (by omega) (by omega) (by omega) (by omega)
    rw [show (T + c * p ^ (L.toNat + D.toNat)) * p ^ (6 - D.toNat) = markOf p T D + c * p ^ (L + 6).toNat from by
      rw [Int.add_mul, Int.mul_assoc, ← Int.pow_add, show L.toNat + D.toNat + (6 - D.toNat) = (L + 6).toNat from by omega, show 6 - D.toNat = (6 - D).toNat from by omega]; rfl] at this
    exact Ev.bind this (Ev.now _)
  · simp only [if_neg h0]
    rw [wid (n := -L) (by omega) (by omega)]
    have pL := pow_13 hp (-L).toNat (by omega)
    have pL1 := ipow_pos (p := p) (by omega) (-L).toNat
    refine Ev.bind (spec_l01Power_ev p (-L) (by omega)) ?_
    rw [powW_prime hp _ (by omega)]
    simp only [if_neg (show ¬ p ^ D.toNat = 0 by omega), if_neg (show ¬ p ^ (-L).toNat = 0 by omega)]
    obtain ⟨E, hE, hE2, hE3, hE4⟩ : ∃ E : Nat, mx (p ^ D.toNat) (p ^ (-L).toNat) = p ^ E ∧ D.toNat ≤ E ∧ (-L).toNat ≤ E ∧ E ≤ 6 := by
      by_cases hc2 : D.toNat ≤ (-L).toNat
      · refine ⟨(-L).toNat, ?_, hc2, Nat.le_refl _, by omega⟩
        have := ipow_mono (p := p) (by omega) hc2
        rw [mx_eq]; split <;> omega
      · refine ⟨D.toNat, ?_, Nat.le_refl _, by omega, by omega⟩
        have := ipow_mono (p := p) (by omega) (show (-L).toNat ≤ D.toNat by omega)
        rw [mx_eq]; split <;> omega
    rw [hE]
    have hpow : ∀ j : Nat, p ^ j ≠ 0 := fun j => Int.pow_ne_zero (by omega)
    have d1 : Int.tdiv (p ^ E) (p ^ D.toNat) = p ^ (E - D.toNat) := by
      rw [show p ^ E = p ^ D.toNat * p ^ (E - D.toNat) from by rw [← Int.pow_add]; congr 1; omega]
      exact Int.mul_tdiv_cancel_left _ (hpow _)
    have d2 : Int.tdiv (p ^ E) (p ^ (-L).toNat) = p ^ (E - (-L).toNat) := by
      rw [show p ^ E = p ^ (-L).toNat * p ^ (E - (-L).toNat) from by rw [← Int.pow_add]; congr 1; omega]
      exact Int.mul_tdiv_cancel_left _ (hpow _)
    have b1 := pow_13 hp (E - D.toNat) (by omega)
    have b2 := ipow_pos (p := p) (by omega) (E - D.toNat)
    have b5 : p ^ (E - D.toNat) ≤ 117649 := by
      have h1 : p ^ (E - D.toNat) ≤ p ^ 6 := ipow_mono (by omega) (by omega)
      have h2 : p ^ 6 ≤ 117649 := by rcases prime_cases hp with rfl | rfl | rfl | rfl <;> decide
      omega
    have b3 := pow_13 hp (E - (-L).toNat) (by omega)
    have b4 := ipow_pos (p := p) (by omega) (E - (-L).toNat)
    rw [d1, d2, wid (n := p ^ (E - D.toNat)) (by omega) (by omega), wid (n := p ^ (E - (-L).toNat)) (by omega) (by omega)]
    have a1 : T * p ^ (E - D.toNat) ≤ 13841287201 * 117649 := Int.mul_le_mul hT.2 b5 (by omega) (by omega)
    have a0 : 0 ≤ T * p ^ (E - D.toNat) := Int.mul_nonneg hT.1 (by omega)
    have a2 := mul_bdc hc b4 b3
    rw [wid (n := T * p ^ (E - D.toNat)) (by omega) (by omega), wid (n := c * p ^ (E - (-L).toNat)) (by omega) (by omega), wid (n := T * p ^ (E - D.toNat) + c * p ^ (E - (-L).toNat)) (by omega) (by omega), wid (n := L + 1) (by omega) (by omega)]
    have := spec_l01Of_pow (num := T * p ^ (E - D.toNat) + c * p ^ (E - (-L).toNat)) (L := L + 1) E hp hE4 (by omega) (by omega) (by omega)
    rw [show (T * p ^ (E - D.toNat) + c * p ^ (E - (-L).toNat)) * p ^ (6 - E) = markOf p T D + c * p ^ (L + 6).toNat from by
      rw [Int.add_mul, Int.mul_assoc, Int.mul_assoc, ← Int.pow_add, ← Int.pow_add, show E - (-L).toNat + (6 - E) = (L + 6).toNat from by omega, show E - D.toNat + (6 - E) = (6 - D).toNat from by omega]; rfl] at this
    exact Ev.bind this (Ev.now _)

-- block spec_l01Prime
theorem spec_l01Prime_eq (p : Int) : spec_l01Prime.f p = some (primeB p) := by
  unfold spec_l01Prime.f primeB
  by_cases h2 : p = 2
  · simp [h2]
  · by_cases h3 : p = 3
    · simp [h3]
    · by_cases h5 : p = 5
      · simp [h5]
      · rw [if_neg h2, if_neg h3, if_neg h5, beq_eq_false_iff_ne.2 h2, beq_eq_false_iff_ne.2 h3, beq_eq_false_iff_ne.2 h5]; rfl

-- block spec_l01Is
theorem spec_l01Is_ev (p L T D : Int) : Ev (fun k => spec_l01Is.f k p L T D) (ballB p L T D) := by
  have hno : Ev (fun k => spec_l01Is.j0 k p true L T D) false := Ev.step (f := fun _ => some false) (fun k => by simp only [spec_l01Is.j0, if_true]) (Ev.now _)
  unfold spec_l01Is.f
  refine Ev.bindv (spec_l01Prime_eq p) ?_
  unfold ballB
  cases hp : primeB p with
  | false => simpa using hno
  | true =>
    have hp2 := prime_lo hp
    simp only [if_true, Bool.true_and]
    refine Ev.bindv (In_eq L (-6) 6) ?_
    by_cases hL : -6 ≤ L ∧ L ≤ 6
    · rw [decide_eq_true hL]; simp only [if_true, Bool.true_and]
      refine Ev.bindv (In_eq D 0 6) ?_
      by_cases hD : 0 ≤ D ∧ D ≤ 6
      · rw [decide_eq_true hD]; simp only [Bool.not_true, Bool.true_and]
        have hn := wid (n := L + D) (by omega) (by omega)
        by_cases h0 : L + D ≤ 0
        · rw [if_pos h0]
          refine Ev.step (f := fun _ => some (T == 0 && D == 0)) (fun k => ?_) (Ev.now _)
          simp only [spec_l01Is.j0]
          rw [if_neg (by decide), hn, if_pos h0]
          by_cases hT : T = 0
          · simp [hT]
          · simp [hT]
        · rw [if_neg h0]
          refine Ev.step (f := fun k => (spec_l01Power.f k p (L + D)).bind fun t => (spec_l01In.f T 0 (wrap64 (t - 1))).bind fun t2 => if t2 = true then (if D = 0 then some true else if p = 0 then none else some (Int.tmod T p != 0)) else some false) (fun k => by simp only [spec_l01Is.j0]; rw [if_neg (by decide), hn, if_neg h0]) ?_
          refine Ev.bind (spec_l01Power_ev p (L + D) (by omega)) ?_
          rw [powW_prime hp _ (by omega)]
          have hpp := ipow_pos (p := p) (by omega) (L + D).toNat
          have hpt := pow_le_top hp (L + D).toNat (by omega)
          rw [wid (n := p ^ (L + D).toNat - 1) (by omega) (by omega)]
          refine Ev.bindv (In_eq _ _ _) ?_
          rw [show decide (0 ≤ T ∧ T ≤ p ^ (L + D).toNat - 1) = decide (0 ≤ T ∧ T < p ^ (L + D).toNat) from decide_eq_decide.2 (by omega)]
          cases decide (0 ≤ T ∧ T < p ^ (L + D).toNat) with
          | false => simp only [Bool.false_eq_true, if_false, Bool.false_and]; exact Ev.now _
          | true =>
            simp only [if_true, Bool.true_and]
            by_cases hd : D = 0
            · simp only [hd, if_true]; simp; exact Ev.now _
            · rw [if_neg hd, if_neg (by omega), show (D == 0) = false from beq_eq_false_iff_ne.2 hd, Bool.false_or]
              exact Ev.now _
      · rw [decide_eq_false hD]; simpa using hno
    · rw [decide_eq_false hL]; simpa using hno

-- block spec_l01Code
def codeB (p : Int) (l : List S28) : Bool := primeB p && l.all (fun b => ballB p b.f0 b.f1 b.f2)
theorem spec_l01Code_ev (p : Int) (l : List S28) (hl : l.length ≤ 4611686018427387904) : Ev (fun k => spec_l01Code.f k p l) (if codeB p l then 0 else 1) := by
  unfold spec_l01Code.f codeB
  refine Ev.bindv (spec_l01Prime_eq p) ?_
  cases hp : primeB p with
  | false => simp; exact Ev.now _
  | true =>
    simp only [if_true, Bool.true_and]
    rw [← all_range_getD l z28]
    refine all_ev' (fun k i => spec_l01Code.l0 k p l i) l.length (fun i => ballB p (l.getD i z28).f0 (l.getD i z28).f1 (l.getD i z28).f2) 0 1 ?_ ?_ ?_
    · intro i r hi hb hr
      refine Ev.step (f := fun k => (spec_l01Is.f k p (l.getD i z28).f0 (l.getD i z28).f1 (l.getD i z28).f2).bind fun t => if t = true then spec_l01Code.l0 k p l ((i : Int) + 1) else some 1) (fun k => ?_) ?_
      · simp only [spec_l01Code.l0]
        rw [if_pos (by omega), if_pos (by omega), wid (by omega) (by omega)]; rfl
      · refine Ev.bind (spec_l01Is_ev _ _ _ _) ?_
        rw [hb]; simpa using hr
    · intro i hi hb
      refine Ev.step (f := fun k => (spec_l01Is.f k p (l.getD i z28).f0 (l.getD i z28).f1 (l.getD i z28).f2).bind fun t => if t = true then spec_l01Code.l0 k p l ((i : Int) + 1) else some 1) (fun k => ?_) ?_
      · simp only [spec_l01Code.l0]
        rw [if_pos (by omega), if_pos (by omega), wid (by omega) (by omega)]; rfl
      · refine Ev.bind (spec_l01Is_ev _ _ _ _) ?_
        rw [hb]; simp; exact Ev.now _
    · exact Ev.step (f := fun _ => some 0) (fun k => by simp only [spec_l01Code.l0]; rw [if_neg (by omega)]) (Ev.now _)

-- block impl_areBalls
theorem impl_areBalls_ev (p : Int) (l : List S28) (hl : l.length ≤ 4611686018427387904) : Ev (fun k => impl_areBalls.f k p l) (primeB p && l.all (fun b => ballB p b.f0 b.f1 b.f2)) := by
  unfold impl_areBalls.f
  have hr : ∀ (i : Nat) (k : Nat), i < l.length → impl_areBalls.l0 (k + 1) p l l.length i = (impl_IsBall.f k p (l.getD i z28).f0 (l.getD i z28).f1 (l.getD i z28).f2).bind fun t => if t = true then impl_areBalls.l0 k p l l.length ((i : Int) + 1) else some false := by
    intro i k hi
    simp only [impl_areBalls.l0]
    rw [if_pos (by omega), if_pos (by omega), if_pos (by omega), wid (by omega) (by omega)]; rfl
  have := all_ev' (fun k i => impl_areBalls.l0 k p l l.length i) l.length (fun i => ballB p (l.getD i z28).f0 (l.getD i z28).f1 (l.getD i z28).f2) (primeB p) false (by
    intro i r hi hb hr'
    refine Ev.step (hr i · hi) (Ev.bind (impl_IsBall_ev _ _ _ _) ?_)
    rw [hb]; simpa using hr') (by
    intro i hi hb
    refine Ev.step (hr i · hi) (Ev.bind (impl_IsBall_ev _ _ _ _) ?_)
    rw [hb]; simp; exact Ev.now _) (by
    refine Ev.step (f := fun _ => (impl_isPrime.f p).bind fun t => some t) (fun k => by simp only [impl_areBalls.l0]; rw [if_neg (by omega)]) ?_
    exact Ev.bindv (impl_isPrime_eq p) (Ev.now _))
  rw [all_range_getD l z28 (fun b => ballB p b.f0 b.f1 b.f2)] at this
  rw [show (primeB p && l.all (fun b => ballB p b.f0 b.f1 b.f2)) = (if l.all (fun b => ballB p b.f0 b.f1 b.f2) = true then primeB p else false) from by cases l.all (fun b => ballB p b.f0 b.f1 b.f2) <;> simp]
  exact this

-- block measUp
theorem Ev.up {α : Type} {g : Nat → Option α} {r : α} (h : Ev (fun k => g (k + 1)) r) : Ev g r := Ev.step (f := fun k => g (k + 1)) (fun _ => rfl) h

/-- The ball of a level that holds the places with a mark. -/
def upB (p X n : Int) : S28 := ⟨(ofM p n X).1, (ofM p n X).2.1, (ofM p n X).2.2⟩
theorem upB_ok {p X n : Int} (hp : primeB p = true) (hn : -6 ≤ n ∧ n ≤ 6) : ballB p n (ofM p n X).2.1 (ofM p n X).2.2 = true := ofM_ball hp hn
theorem upB_mark {p X n : Int} (hp : primeB p = true) : markOf p (ofM p n X).2.1 (ofM p n X).2.2 = X % p ^ (n + 6).toNat := (ofM_back (prime_lo hp)).1
/-- A ball on the way is a child of the one above it. -/
theorem chM_dig {p X n : Int} (hp : primeB p = true) (hn : -6 ≤ n ∧ n < 6) : ∃ k : Nat, (k : Int) < p ∧ chM p n (ofM p n X).2.1 (ofM p n X).2.2 k = ofM p (n + 1) X := by
  have hp2 := prime_lo hp
  have k0 := Int.emod_nonneg (X / p ^ (n + 6).toNat) (show p ≠ 0 by omega)
  have k1 := Int.emod_lt_of_pos (X / p ^ (n + 6).toNat) (show 0 < p by omega)
  refine ⟨(X / p ^ (n + 6).toNat % p).toNat, by omega, ?_⟩
  unfold chM
  rw [upB_mark hp, Int.toNat_of_nonneg k0, ofM_inj hp2, show (n + 1 + 6).toNat = (n + 6).toNat + 1 by omega, Int.pow_succ]
  have e1 := Int.emod_add_mul_ediv X (p ^ (n + 6).toNat)
  have e2 := Int.emod_add_mul_ediv (X / p ^ (n + 6).toNat) p
  have e3 : X = X % p ^ (n + 6).toNat + X / p ^ (n + 6).toNat % p * p ^ (n + 6).toNat + p ^ (n + 6).toNat * p * (X / p ^ (n + 6).toNat / p) := by
    have e4 : p ^ (n + 6).toNat * (X / p ^ (n + 6).toNat) = X / p ^ (n + 6).toNat % p * p ^ (n + 6).toNat + p ^ (n + 6).toNat * p * (X / p ^ (n + 6).toNat / p) := by
      conv => lhs; rhs; rw [← e2]
      rw [Int.mul_add, Int.mul_comm (p ^ (n + 6).toNat) (X / p ^ (n + 6).toNat % p), Int.mul_assoc]
    omega
  conv => rhs; lhs; rw [e3]
  rw [Int.add_mul_emod_self_left]
theorem parM_up {p X n : Int} (hp : primeB p = true) (hn : -6 ≤ n ∧ n < 6) : parM p (n + 1) (ofM p (n + 1) X).2.1 (ofM p (n + 1) X).2.2 = ofM p n X := by
  have hp2 := prime_lo hp
  unfold parM
  rw [upB_mark hp, show n + 1 - 1 = n by omega, ofM_inj hp2]
  exact Int.emod_emod_of_dvd _ ⟨p ^ 1, by rw [← Int.pow_add]; congr 1; omega⟩
def qB (p L T D : Int) (B : Int × Int × Int) (c : Int) : Bool := (chM p L T D c).1 == B.1 && ((chM p L T D c).2.1 == B.2.1 && (chM p L T D c).2.2 == B.2.2)
theorem find_ev {p L T D : Int} (h : ballB p L T D = true) (hL : L ≠ 6) (B : Int × Int × Int) (d : Nat) : ∀ (i : Int), 0 ≤ i → i + d < p → qB p L T D B (i + d) = true →
    ∃ m, (i ≤ m ∧ m < p) ∧ Ev (fun k => spec_l10Digit.l0 k p i B.1 B.2.1 B.2.2 L T D) m ∧ Ev (fun k => impl_toward.l0 k p (i + 1) L T D B.1 B.2.1 B.2.2) (m + 1) := by
  have hp := (ball_parts h).1
  have hp7 := prime_hi hp
  have hch (c : Int) : chW p L T D c = ((chM p L T D c).1, (chM p L T D c).2.1, (chM p L T D c).2.2, true) := by unfold chW; rw [if_neg hL]
  have yes (i : Int) (h0 : 0 ≤ i) (h1 : i < p) (hq : qB p L T D B i = true) : ∃ m, (i ≤ m ∧ m < p) ∧ Ev (fun k => spec_l10Digit.l0 k p i B.1 B.2.1 B.2.2 L T D) m ∧ Ev (fun k => impl_toward.l0 k p (i + 1) L T D B.1 B.2.1 B.2.2) (m + 1) := by
    unfold qB at hq
    refine ⟨i, ⟨Int.le_refl _, h1⟩, ?_, ?_⟩
    · refine Ev.up ?_
      simp only [spec_l10Digit.l0, if_pos h1]
      have hc := spec_l01Child_ev h (c := i) (by omega)
      rw [hch] at hc
      refine Ev.bind hc ?_
      simp only [hq, if_true]
      exact Ev.now _
    · refine Ev.up ?_
      simp only [impl_toward.l0, if_pos (show i + 1 ≤ p by omega)]
      have hc := impl_neighbour_ev (i + 1) h (by omega)
      rw [if_neg (show ¬ i + 1 = 0 by omega), show i + 1 - 1 = i by omega, hch] at hc
      refine Ev.bind hc ?_
      simp only [hq, if_true]
      exact Ev.now _
  induction d with
  | zero => intro i h0 h1 hq; exact yes i h0 (by omega) (by simpa using hq)
  | succ d ih =>
    intro i h0 h1 hq
    cases hqi : qB p L T D B i with
    | true => exact yes i h0 (by omega) hqi
    | false =>
      obtain ⟨m, m1, m2, m3⟩ := ih (i + 1) (by omega) (by omega) (by rw [show i + 1 + (d : Int) = i + ((d + 1 : Nat) : Int) by omega]; exact hq)
      unfold qB at hqi
      refine ⟨m, ⟨by omega, m1.2⟩, ?_, ?_⟩
      · refine Ev.up ?_
        simp only [spec_l10Digit.l0, if_pos (show i < p by omega)]
        have hc := spec_l01Child_ev h (c := i) (by omega)
        rw [hch] at hc
        refine Ev.bind hc ?_
        rw [wid (n := i + 1) (by omega) (by omega)]
        simp only [hqi, if_true, Bool.false_eq_true, if_false]
        exact m2
      · refine Ev.up ?_
        simp only [impl_toward.l0, if_pos (show i + 1 ≤ p by omega)]
        have hc := impl_neighbour_ev (i + 1) h (by omega)
        rw [if_neg (show ¬ i + 1 = 0 by omega), show i + 1 - 1 = i by omega, hch] at hc
        refine Ev.bind hc ?_
        rw [wid (n := i + 1 + 1) (by omega) (by omega)]
        simp only [hqi, if_true, Bool.false_eq_true, if_false]
        exact m3
/-- The letter of a step down, as both tell it. -/
theorem digit_ev {p X n : Int} (hp : primeB p = true) (hn : -6 ≤ n ∧ n < 6) : ∃ m, (0 ≤ m ∧ m < p) ∧ Ev (fun k => spec_l10Digit.f k p (n + 1) (ofM p (n + 1) X).2.1 (ofM p (n + 1) X).2.2) m ∧
    Ev (fun k => impl_letterTo.f k p (upB p X n).f0 (upB p X n).f1 (upB p X n).f2 (upB p X (n + 1)).f0 (upB p X (n + 1)).f1 (upB p X (n + 1)).f2) (48 + m) := by
  have hp7 := prime_hi hp
  obtain ⟨k0, h1, h2⟩ := chM_dig (X := X) hp hn
  have hb := upB_ok (X := X) hp (show -6 ≤ n ∧ n ≤ 6 by omega)
  obtain ⟨m, m1, m2, m3⟩ := find_ev hb (by omega) (ofM p (n + 1) X) k0 0 (by omega) (by omega) (by unfold qB; rw [show (0 : Int) + (k0 : Int) = k0 by omega, h2]; simp)
  refine ⟨m, m1, ?_, ?_⟩
  · unfold spec_l10Digit.f
    have hpar := spec_l01Parent_ev (upB_ok (X := X) hp (show -6 ≤ n + 1 ∧ n + 1 ≤ 6 by omega))
    unfold parW at hpar
    rw [if_neg (show ¬ n + 1 = -6 by omega), parM_up hp hn] at hpar
    refine Ev.bind hpar ?_
    exact m2
  · unfold impl_letterTo.f
    show Ev (fun k => if n + 1 < n then _ else _) _
    simp only [if_neg (show ¬ n + 1 < n by omega)]
    unfold impl_toward.f
    refine Ev.bind (a := m + 1) m3 ?_
    rw [wid (n := 48 + (m + 1)) (by omega) (by omega), wid (n := 48 + (m + 1) - 1) (by omega) (by omega), show (48 + (m + 1) - 1) % 256 = 48 + m by omega]
    exact Ev.now _
section
variable {p L T D L' T' D' : Int} (h : ballB p L T D = true) (h' : ballB p L' T' D' = true) (J : Int) (na nb : Nat) (hJ : -6 ≤ J) (hna : L = J + na) (hnb : L' = J + nb) (hsame : ofM p J (markOf p T D) = ofM p J (markOf p T' D'))
/-- The balls on the way. -/
def wayAt (p X X' J : Int) (na i : Nat) : S28 := if i < na then upB p X (J + na - i) else upB p X' (J + (i - na : Nat))
include h h' hJ hna hnb hsame in
theorem geo_l1 (d : Nat) : ∀ (j : Nat), j + d = nb → Ev (fun k => impl_geodesic.l1 k p ((List.range (na + 1 + j)).map (wayAt p (markOf p T D) (markOf p T' D') J na)) (J + 1 + j) L' T' D') ((List.range (na + 1 + nb)).map (wayAt p (markOf p T D) (markOf p T' D') J na)) := by
  have hl := (ball_parts h).2.1
  have hl' := (ball_parts h').2.1
  induction d with
  | zero =>
    intro j hj
    obtain rfl : j = nb := by omega
    refine Ev.up ?_
    simp only [impl_geodesic.l1, if_neg (show ¬ J + 1 + (j : Int) ≤ L' by omega)]
    exact Ev.now _
  | succ d ih =>
    intro j hj
    refine Ev.up ?_
    simp only [impl_geodesic.l1, if_pos (show J + 1 + (j : Int) ≤ L' by omega)]
    refine Ev.bind (impl_above_ev h' (by omega)) ?_
    rw [wid (n := J + 1 + (j : Int) + 1) (by omega) (by omega)]
    simp only [List.length_map, List.length_range, if_pos (show na + 1 + j < 5864062014805 by omega)]
    have e : (List.range (na + 1 + j)).map (wayAt p (markOf p T D) (markOf p T' D') J na) ++ [upB p (markOf p T' D') (J + 1 + j)] = (List.range (na + 1 + (j + 1))).map (wayAt p (markOf p T D) (markOf p T' D') J na) := by
      rw [show na + 1 + (j + 1) = na + 1 + j + 1 by omega, List.range_succ, List.map_append, List.map_singleton]
      congr 2
      unfold wayAt
      rw [if_neg (by omega), show J + ((na + 1 + j - na : Nat) : Int) = J + 1 + j by omega]
    have := ih (j + 1) (by omega)
    rw [← e, show J + 1 + ((j + 1 : Nat) : Int) = J + 1 + (j : Int) + 1 by omega] at this
    exact this
include h h' hJ hna hnb hsame in
theorem geo_l0 (d : Nat) : ∀ (i : Nat), i + d = na + 1 → Ev (fun k => impl_geodesic.l0 k p J ((List.range i).map (wayAt p (markOf p T D) (markOf p T' D') J na)) (L - i) L T D L' T' D') ((List.range (na + 1 + nb)).map (wayAt p (markOf p T D) (markOf p T' D') J na)) := by
  have hl := (ball_parts h).2.1
  have hl' := (ball_parts h').2.1
  induction d with
  | zero =>
    intro i hi
    obtain rfl : i = na + 1 := by omega
    refine Ev.up ?_
    simp only [impl_geodesic.l0, if_neg (show ¬ L - ((na + 1 : Nat) : Int) ≥ J by omega)]
    rw [wid (n := J + 1) (by omega) (by omega)]
    have := geo_l1 h h' J na nb hJ hna hnb hsame nb 0 (by omega)
    simpa using this
  | succ d ih =>
    intro i hi
    refine Ev.up ?_
    simp only [impl_geodesic.l0, if_pos (show L - (i : Int) ≥ J by omega)]
    refine Ev.bind (impl_above_ev h (by omega)) ?_
    rw [wid (n := L - (i : Int) - 1) (by omega) (by omega)]
    simp only [List.length_map, List.length_range, if_pos (show i < 5864062014805 by omega)]
    have e : (List.range i).map (wayAt p (markOf p T D) (markOf p T' D') J na) ++ [upB p (markOf p T D) (L - i)] = (List.range (i + 1)).map (wayAt p (markOf p T D) (markOf p T' D') J na) := by
      rw [List.range_succ, List.map_append, List.map_singleton]
      congr 2
      unfold wayAt
      by_cases hlt : i < na
      · rw [if_pos hlt, hna]
      · rw [if_neg hlt, show L - (i : Int) = J by omega, show J + ((i - na : Nat) : Int) = J by omega]
        unfold upB
        rw [hsame]
    have := ih (i + 1) (by omega)
    rw [← e, show L - ((i + 1 : Nat) : Int) = L - (i : Int) - 1 by omega] at this
    exact this
theorem wayAt_rd (p X X' J : Int) (na N i : Nat) (hi : i < N) : rd_T28 ((List.range N).map (wayAt p X X' J na)) (i : Int) = wayAt p X X' J na i := by
  show ((List.range N).map (wayAt p X X' J na)).getD i z28 = _
  rw [List.getD_eq_getElem?_getD, List.getElem?_map, List.getElem?_range hi]
  rfl
include h h' hJ hna hnb hsame in
theorem way_l1 (d : Nat) : ∀ (j : Nat) (acc : List Int), j + d = nb → acc.length ≤ na + j → ∃ r, Ev (fun k => spec_l10Way.l1 k p acc (J + 1 + j) L' T' D') (r, true) ∧
    Ev (fun k => impl_wayWord.l0 k p acc ((List.range (na + 1 + nb)).map (wayAt p (markOf p T D) (markOf p T' D') J na)) ((na + 1 + j : Nat) : Int)) r := by
  have hl := (ball_parts h).2.1
  have hl' := (ball_parts h').2.1
  have hp := (ball_parts h').1
  have hp7 := prime_hi hp
  induction d with
  | zero =>
    intro j acc hj ha
    obtain rfl : j = nb := by omega
    refine ⟨strOfNums acc, ?_, ?_⟩
    · refine Ev.up ?_
      simp only [spec_l10Way.l1, if_neg (show ¬ J + 1 + (j : Int) ≤ L' by omega)]
      exact Ev.now _
    · refine Ev.up ?_
      simp only [impl_wayWord.l0, List.length_map, List.length_range, if_neg (show ¬ ((na + 1 + j : Nat) : Int) < ((na + 1 + j : Nat) : Int) by omega)]
      exact Ev.now _
  | succ d ih =>
    intro j acc hj ha
    obtain ⟨m, m1, m2, m3⟩ := digit_ev (X := markOf p T' D') (n := J + j) hp (by omega)
    obtain ⟨r, r1, r2⟩ := ih (j + 1) (acc ++ [48 + m]) (by omega) (by simp; omega)
    refine ⟨r, ?_, ?_⟩
    · refine Ev.up ?_
      simp only [spec_l10Way.l1, if_pos (show J + 1 + (j : Int) ≤ L' by omega)]
      refine Ev.bind (spec_l02Up_ev h' (show -6 ≤ J + 1 + (j : Int) ∧ J + 1 + (j : Int) ≤ 6 by omega)) ?_
      simp only [if_true]
      rw [show J + (j : Int) + 1 = J + 1 + j by omega] at m2
      refine Ev.bind m2 ?_
      rw [wid (n := 48 + m) (by omega) (by omega), wid (n := J + 1 + (j : Int) + 1) (by omega) (by omega), show (48 + m) % 256 = 48 + m by omega]
      simp only [if_pos (show acc.length < 140737488355328 by omega)]
      rw [show J + 1 + ((j + 1 : Nat) : Int) = J + 1 + (j : Int) + 1 by omega] at r1
      exact r1
    · refine Ev.up ?_
      simp only [impl_wayWord.l0]
      rw [wid (n := ((na + 1 + j : Nat) : Int) - 1) (by omega) (by omega), wid (n := ((na + 1 + j : Nat) : Int) + 1) (by omega) (by omega), show ((na + 1 + j : Nat) : Int) - 1 = ((na + j : Nat) : Int) by omega]
      simp only [wayAt_rd _ _ _ _ _ _ _ (show na + 1 + j < na + 1 + nb by omega), wayAt_rd _ _ _ _ _ _ _ (show na + j < na + 1 + nb by omega)]
      simp only [List.length_map, List.length_range, if_pos (show ((na + 1 + j : Nat) : Int) < ((na + 1 + nb : Nat) : Int) by omega), if_pos (show (0 : Int) ≤ ((na + j : Nat) : Int) by omega), if_pos (show ((na + j : Nat) : Int) < ((na + 1 + nb : Nat) : Int) by omega), if_pos (show (0 : Int) ≤ ((na + 1 + j : Nat) : Int) by omega)]
      have e1 : wayAt p (markOf p T D) (markOf p T' D') J na (na + j) = upB p (markOf p T' D') (J + j) := by
        unfold wayAt; rw [if_neg (by omega), show J + ((na + j - na : Nat) : Int) = J + j by omega]
      have e2 : wayAt p (markOf p T D) (markOf p T' D') J na (na + 1 + j) = upB p (markOf p T' D') (J + j + 1) := by
        unfold wayAt; rw [if_neg (by omega), show J + ((na + 1 + j - na : Nat) : Int) = J + j + 1 by omega]
      rw [e1, e2]
      refine Ev.bind m3 ?_
      simp only [if_pos (show acc.length < 140737488355328 by omega)]
      rw [show ((na + 1 + j : Nat) : Int) + 1 = ((na + 1 + (j + 1) : Nat) : Int) by omega]
      exact r2
include h h' hJ hna hnb hsame in
theorem way_l0 (d : Nat) : ∀ (i : Nat) (acc : List Int), i + d = na → acc.length ≤ i → ∃ r, Ev (fun k => spec_l10Way.l0 k p J acc (L - i) L' T' D') (r, true) ∧
    Ev (fun k => impl_wayWord.l0 k p acc ((List.range (na + 1 + nb)).map (wayAt p (markOf p T D) (markOf p T' D') J na)) ((1 + i : Nat) : Int)) r := by
  have hl := (ball_parts h).2.1
  have hl' := (ball_parts h').2.1
  induction d with
  | zero =>
    intro i acc hi ha
    obtain rfl : i = na := by omega
    obtain ⟨r, r1, r2⟩ := way_l1 h h' J i nb hJ hna hnb hsame nb 0 acc (by omega) (by omega)
    refine ⟨r, ?_, ?_⟩
    · refine Ev.up ?_
      simp only [spec_l10Way.l0, if_neg (show ¬ L - (i : Int) > J by omega)]
      rw [wid (n := J + 1) (by omega) (by omega)]
      simpa using r1
    · rw [show ((1 + i : Nat) : Int) = ((i + 1 + 0 : Nat) : Int) by omega]; exact r2
  | succ d ih =>
    intro i acc hi ha
    obtain ⟨r, r1, r2⟩ := ih (i + 1) (acc ++ [117]) (by omega) (by simp; omega)
    refine ⟨r, ?_, ?_⟩
    · refine Ev.up ?_
      simp only [spec_l10Way.l0, if_pos (show L - (i : Int) > J by omega), if_pos (show acc.length < 140737488355328 by omega)]
      rw [wid (n := L - (i : Int) - 1) (by omega) (by omega), show L - (i : Int) - 1 = L - ((i + 1 : Nat) : Int) by omega]
      exact r1
    · refine Ev.up ?_
      simp only [impl_wayWord.l0]
      rw [wid (n := ((1 + i : Nat) : Int) - 1) (by omega) (by omega), wid (n := ((1 + i : Nat) : Int) + 1) (by omega) (by omega), show ((1 + i : Nat) : Int) - 1 = (i : Int) by omega]
      simp only [wayAt_rd _ _ _ _ _ _ _ (show 1 + i < na + 1 + nb by omega), wayAt_rd _ _ _ _ _ _ _ (show i < na + 1 + nb by omega)]
      simp only [List.length_map, List.length_range, if_pos (show ((1 + i : Nat) : Int) < ((na + 1 + nb : Nat) : Int) by omega), if_pos (show (0 : Int) ≤ (i : Int) by omega), if_pos (show (i : Int) < ((na + 1 + nb : Nat) : Int) by omega), if_pos (show (0 : Int) ≤ ((1 + i : Nat) : Int) by omega)]
      have e1 : (wayAt p (markOf p T D) (markOf p T' D') J na i).f0 = J + na - i := by
        unfold wayAt; rw [if_pos (by omega)]; rfl
      have e2 : (wayAt p (markOf p T D) (markOf p T' D') J na (1 + i)).f0 = J + na - i - 1 := by
        unfold wayAt
        by_cases hlt : 1 + i < na
        · rw [if_pos hlt]; show J + (na : Int) - ((1 + i : Nat) : Int) = _; omega
        · rw [if_neg hlt]; show J + ((1 + i - na : Nat) : Int) = _; omega
      refine Ev.bind (a := 117) ?_ ?_
      · unfold impl_letterTo.f
        rw [e1, e2]
        simp only [if_pos (show J + (na : Int) - (i : Int) - 1 < J + (na : Int) - (i : Int) by omega)]
        exact Ev.now _
      · simp only [if_pos (show acc.length < 140737488355328 by omega)]
        rw [show ((1 + i : Nat) : Int) + 1 = ((1 + (i + 1) : Nat) : Int) by omega]
        exact r2
end
theorem way_ev {p L T D L' T' D' : Int} (h : ballB p L T D = true) (h' : ballB p L' T' D' = true) : ∃ r, Ev (fun k => spec_l10Way.f k p L T D L' T' D') (r, true) ∧ Ev (fun k => impl_wayWord.f k p L T D L' T' D') r := by
  have hb := jnW_bd h h'
  have hs := jnW_same h h'
  have hj1 := spec_l02Join_ev h h'
  have hj2 := impl_joinLevel_ev h h'
  generalize jnW p L L' (markOf p T D) (markOf p T' D') = J at hb hs hj1 hj2
  obtain ⟨na, hna⟩ : ∃ na : Nat, L = J + na := ⟨(L - J).toNat, by omega⟩
  obtain ⟨nb, hnb⟩ : ∃ nb : Nat, L' = J + nb := ⟨(L' - J).toNat, by omega⟩
  obtain ⟨r, r1, r2⟩ := way_l0 h h' J na nb hb.1 hna hnb hs na 0 [] (by omega) (by simp)
  refine ⟨r, ?_, ?_⟩
  · unfold spec_l10Way.f
    refine Ev.bind hj1 ?_
    simpa using r1
  · unfold impl_wayWord.f impl_geodesic.f
    refine Ev.bind (a := (List.range (na + 1 + nb)).map (wayAt p (markOf p T D) (markOf p T' D') J na)) ?_ ?_
    · refine Ev.bind hj2 ?_
      have := geo_l0 h h' J na nb hb.1 hna hnb hs (na + 1) 0 (by omega)
      simpa using this
    · simpa using r2
theorem FnExactWayWord : laws_FnExactWayWord.Pure := by
  intro p L T D L' T' D' _ _ _ _ _ _ _
  refine Ev.rounds ?_
  unfold laws_FnExactWayWord.f
  simp only [laws_toBall.f, Option.bind_some]
  have hcode := spec_l01Code_ev p [(⟨L, T, D⟩ : S28), ⟨L', T', D'⟩] (by simp)
  have hballs := impl_areBalls_ev p [(⟨L, T, D⟩ : S28), ⟨L', T', D'⟩] (by simp)
  have main : ∃ r : ByteArray × Int, Ev (fun k => spec_WayWord.f k p L T D L' T' D') r ∧ Ev (fun k => impl_WayWord.f k p L T D L' T' D') r := by
    cases hc : codeB p [(⟨L, T, D⟩ : S28), ⟨L', T', D'⟩] with
    | false =>
      rw [hc] at hcode
      refine ⟨(⟨#[]⟩, 1), ?_, ?_⟩
      · unfold spec_WayWord.f
        refine Ev.bind hcode ?_
        simp only [Bool.false_eq_true, if_false, if_neg (show ¬ (1 : Int) = 0 by decide)]
        exact Ev.now _
      · unfold impl_WayWord.f
        unfold codeB at hc
        rw [hc] at hballs
        refine Ev.bind hballs ?_
        simp only [Bool.false_eq_true, if_false]
        exact Ev.now _
    | true =>
      rw [hc] at hcode
      have hb : ballB p L T D = true ∧ ballB p L' T' D' = true := by
        unfold codeB at hc
        simp only [List.all_cons, List.all_nil, Bool.and_true, Bool.and_eq_true] at hc
        exact hc.2
      obtain ⟨r, r1, r2⟩ := way_ev hb.1 hb.2
      refine ⟨(r, 0), ?_, ?_⟩
      · unfold spec_WayWord.f
        refine Ev.bind hcode ?_
        simp only [if_true]
        refine Ev.bind r1 ?_
        simp only [if_true]
        exact Ev.now _
      · unfold impl_WayWord.f
        unfold codeB at hc
        rw [hc] at hballs
        refine Ev.bind hballs ?_
        simp only [if_true]
        exact Ev.bind r2 (Ev.now _)
  obtain ⟨r, r1, r2⟩ := main
  refine Ev.bind r1 (Ev.bind r2 ?_)
  simp only [if_true]
  exact Ev.now _

end Go.Proofs.Ytpocgieacicmjaa.Pure
